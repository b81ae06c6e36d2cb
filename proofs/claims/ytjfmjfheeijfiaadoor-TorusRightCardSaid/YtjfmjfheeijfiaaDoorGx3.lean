/- Walks: each function of the program computes its plain function. -/
import Derived.Test.YtjfmjfheeijfiaaDoorGx2
set_option linter.unusedVariables false
set_option linter.unusedSimpArgs false
set_option maxHeartbeats 4000000
namespace Gp
open Go Gw Go.Proofs
theorem law03_TorusRight_calls (k : Nat) (p0 : List Tile) (p1 : Int) (p2 : Int) (p3 : Int) (A_p0 : Option Addr) (c_p0 : Nat) (mG : Int) (r : Bool) (w : World) (hR0 : RO NoS w (rowR enc_Tile A_p0 c_p0 p0)) (hR1 : RO NoS w (cel ⟨2, 0, none⟩ (iv mG))) (hf : law03_TorusRight k p0 p1 p2 p3 = some r) :
  CallsR Tryd.prog 13 #[(.slice A_p0 p0.length c_p0), (.int .u8 p1), (.int .u8 p2), (.int .u8 p3)] w (fun v w' => v = (.bool r) ∧ Keeps NoS w w') := by
 have hS : St NoS w w [rowR enc_Tile A_p0 c_p0 p0, cel ⟨2, 0, none⟩ (iv mG)] [] := St.init (ro_cons hR0 (ro_cons hR1 (ro_nil _ _)))
 refine enter 207 Tryd.func13 rfl Tryd.ntmps13 rfl ?_
 unfold law03_TorusRight at hf
 refine WC.seq ?_
 refine WC.region ?_
 refine seg 1 [] [0, 1, 2, 3] [(0, (.slice A_p0 p0.length c_p0)), (1, (.int .u8 p1)), (2, (.int .u8 p2)), (3, (.int .u8 p3))] [] (fun fb => by kernel_rfl) rfl trivial ?_
 refine WL.done rfl ?_
 refine WX.next ?_
 refine WC.seq ?_
 refine WC.region ?_
 refine seg 15 [] [0, 9, 10, 11] [(0, (.slice A_p0 p0.length c_p0)), (9, (iv (w64 (1 + (Int.tmod (w64 (p1)) 4))))), (10, (iv (w64 (1 + (Int.tmod (w64 (p2)) 4))))), (11, (iv (w64 (1 + (Int.tmod (w64 (p3)) 4)))))] [.ne 4, .ne 4, .ne 4] (fun fb => by kernel_rfl) rfl ⟨(by decide), (by decide), (by decide), trivial⟩ ?_
 refine WL.done rfl ?_
 refine WX.next ?_
 refine WC.seq ?_
 refine WC.seq ?_
 refine WC.region ?_
 refine seg 4 [] [0, 9, 10, 11, 37] [(0, (.slice A_p0 p0.length c_p0)), (9, (iv (w64 (1 + (Int.tmod (w64 (p1)) 4))))), (10, (iv (w64 (1 + (Int.tmod (w64 (p2)) 4))))), (11, (iv (w64 (1 + (Int.tmod (w64 (p3)) 4))))), (37, (.bool (decide ((p0.length : Int) > 6))))] [] (fun fb => by kernel_rfl) rfl trivial ?_
 obtain ⟨x610, hx611, hf⟩ := bind_some hf
 refine WL.cutW (T := Bool) 8 (fun t => [(0, (.slice A_p0 p0.length c_p0)), (9, (iv (w64 (1 + (Int.tmod (w64 (p1)) 4))))), (10, (iv (w64 (1 + (Int.tmod (w64 (p2)) 4))))), (11, (iv (w64 (1 + (Int.tmod (w64 (p3)) 4))))), (41, (.bool t))]) (fun t w1 => (St NoS w w1 [rowR enc_Tile A_p0 c_p0 p0, cel ⟨2, 0, none⟩ (iv mG)] [] ∧ x610 = t) ∧ CellsOK [] w1) (fun K => ?_) ?_
 ·
  rcases br_some hx611 with ⟨h612, hx611⟩ | ⟨h612, hx611⟩
  ·
   refine WL.setB 37 h612 rfl ?_
   refine seg 8 [] [0, 9, 10, 11, 41] [(0, (.slice A_p0 p0.length c_p0)), (9, (iv (w64 (1 + (Int.tmod (w64 (p1)) 4))))), (10, (iv (w64 (1 + (Int.tmod (w64 (p2)) 4))))), (11, (iv (w64 (1 + (Int.tmod (w64 (p3)) 4))))), (41, (.bool true))] [] (fun fb => by kernel_rfl) rfl trivial ?_
   injection hx611 with hx611
   exact WL.to K true [0, 9, 10, 11, 41] rfl ⟨⟨(hS.subR [0, 1]).sub [] (by decide), hx611.symm⟩, trivial⟩
  refine WL.setB 37 h612 rfl ?_
  refine seg 5 [] [0, 9, 10, 11, 37, 38] [(0, (.slice A_p0 p0.length c_p0)), (9, (iv (w64 (1 + (Int.tmod (w64 (p1)) 4))))), (10, (iv (w64 (1 + (Int.tmod (w64 (p2)) 4))))), (11, (iv (w64 (1 + (Int.tmod (w64 (p3)) 4))))), (37, (.bool false)), (38, (.slice A_p0 p0.length c_p0))] [] (fun fb => by kernel_rfl) rfl trivial ?_
  obtain ⟨t613, ht614, hx611⟩ := bind_some hx611
  refine WL.call (some 39) 15 #[(.slice A_p0 p0.length c_p0)] (fun fb => by kernel_rfl) (ref01_Valid_calls _ p0 A_p0 c_p0 t613 _ (hS.rd 0) ht614) (fun v w615 hR616 => ?_)
  obtain ⟨rfl, hk_⟩ := hR616
  have hS617 := hS.keepN hk_
  refine ⟨trivial, ?_⟩
  refine seg 8 [] [0, 9, 10, 11, 41] [(0, (.slice A_p0 p0.length c_p0)), (9, (iv (w64 (1 + (Int.tmod (w64 (p1)) 4))))), (10, (iv (w64 (1 + (Int.tmod (w64 (p2)) 4))))), (11, (iv (w64 (1 + (Int.tmod (w64 (p3)) 4))))), (41, (.bool (!t613)))] [] (fun fb => by kernel_rfl) rfl trivial ?_
  injection hx611 with hx611
  exact WL.to K (!t613) [0, 9, 10, 11, 41] rfl ⟨⟨(hS617.subR [0, 1]).sub [] (by decide), hx611.symm⟩, trivial⟩
 rintro y618 w620 ⟨⟨hS621, hq619⟩, hF622⟩
 subst hq619
 refine WL.done rfl ?_
 refine WX.next ?_
 rcases br_some hf with ⟨h623, hf⟩ | ⟨h623, hf⟩
 ·refine WC.condT2 (fun fb => by kernel_rfl) h623 ?_
  refine WC.seq ?_
  refine WC.region ?_
  obtain ⟨t5698, ht5699, hf⟩ := bind_some hf
  refine WL.call (some 42) 14 #[] (fun fb => by kernel_rfl) (law03_awake_calls _ mG t5698 _ (hS621.rd 1) ht5699) (fun v w5700 hR5701 => ?_)
  obtain ⟨rfl, hk_⟩ := hR5701
  have hS5702 := hS621.keepN hk_
  refine ⟨trivial, ?_⟩
  refine seg 2 [] [8] [(8, (.bool t5698))] [] (fun fb => by kernel_rfl) rfl trivial ?_
  refine WL.done rfl ?_
  refine WX.next ?_
  refine WC.ret ?_
  injection hf with hf
  subst hf
  exact WX.thenR (WX.ret_ [] (.bool t5698) [] (fun fb => by kernel_rfl) trivial ⟨_, rfl, rfl, hS5702.keep⟩)
 refine WC.condF2 (fun fb => by kernel_rfl) h623 ?_
 refine WC.skip ?_
 refine WX.next ?_
 refine WC.seq ?_
 refine WC.region ?_
 refine seg 3 [] [0, 9, 10, 11, 44, 45, 46] [(0, (.slice A_p0 p0.length c_p0)), (9, (iv (w64 (1 + (Int.tmod (w64 (p1)) 4))))), (10, (iv (w64 (1 + (Int.tmod (w64 (p2)) 4))))), (11, (iv (w64 (1 + (Int.tmod (w64 (p3)) 4))))), (44, (.slice A_p0 p0.length c_p0)), (45, (iv (w64 (1 + (Int.tmod (w64 (p1)) 4))))), (46, (iv (w64 (1 + (Int.tmod (w64 (p2)) 4)))))] [] (fun fb => by kernel_rfl) rfl trivial ?_
 obtain ⟨t5703, ht5704, hf⟩ := bind_some hf
 refine WL.call (some 47) 16 #[(.slice A_p0 p0.length c_p0), (iv (w64 (1 + (Int.tmod (w64 (p1)) 4)))), (iv (w64 (1 + (Int.tmod (w64 (p2)) 4))))] (fun fb => by kernel_rfl) (torus_Find_calls _ p0 (w64 (1 + (Int.tmod (w64 (p1)) 4))) (w64 (1 + (Int.tmod (w64 (p2)) 4))) A_p0 c_p0 t5703 _ (hS621.rd 0) ht5704) (fun v w5705 hR5706 => ?_)
 obtain ⟨A5708, c5709, rfl, hk_⟩ := hR5706
 have hS5707 : St NoS w w5705 [rowR enc_Tile A_p0 c_p0 p0, cel ⟨2, 0, none⟩ (iv mG)] [rowO 3 encInt A5708 c5709 t5703.1.Cells] := hS621.call hk_ [] [] (fun g hg => hg.elim) (by simp) (by decide)
 refine ⟨trivial, ?_⟩
 refine seg 7 [] [0, 9, 10, 11, 48, 49] [(0, (.slice A_p0 p0.length c_p0)), (9, (iv (w64 (1 + (Int.tmod (w64 (p1)) 4))))), (10, (iv (w64 (1 + (Int.tmod (w64 (p2)) 4))))), (11, (iv (w64 (1 + (Int.tmod (w64 (p3)) 4))))), (48, (.agg #[(iv t5703.1.Width), (iv t5703.1.Height), (.slice A5708 t5703.1.Cells.length c5709)])), (49, (iv t5703.2))] [] (fun fb => by kernel_rfl) rfl trivial ?_
 refine WL.new hS5707 12 [] (fun g => (.pointer (some ⟨g, 0, none⟩))) (.cells #[(iv 0), (iv 0), (.slice none 0 0)] 27 (0, 0)) [] (fun fb g => by kernel_rfl) trivial (fun g5710 w5711 hS5712 => ?_)
 refine ⟨trivial, ?_⟩
 refine WL.store hS5712 0 rfl [(0, (iv t5703.1.Width)), (1, (iv t5703.1.Height)), (2, (.slice A5708 t5703.1.Cells.length c5709))] #[(iv t5703.1.Width), (iv t5703.1.Height), (.slice A5708 t5703.1.Cells.length c5709)] (fun fb => by kernel_rfl) (by kernel_rfl) rfl [1] (by decide) (by decide) (fun w5714 hS5715 => ?_)
 refine ⟨trivial, ?_⟩
 refine seg 10 [] [0, 9, 10, 11, 12, 13] [(0, (.slice A_p0 p0.length c_p0)), (9, (iv (w64 (1 + (Int.tmod (w64 (p1)) 4))))), (10, (iv (w64 (1 + (Int.tmod (w64 (p2)) 4))))), (11, (iv (w64 (1 + (Int.tmod (w64 (p3)) 4))))), (12, (pt g5710)), (13, (iv t5703.2))] [] (fun fb => by kernel_rfl) rfl trivial ?_
 refine WL.done rfl ?_
 refine WX.next ?_
 refine WC.seq ?_
 refine WC.region ?_
 refine seg 2 [] [0, 9, 10, 11, 12, 13, 51, 52] [(0, (.slice A_p0 p0.length c_p0)), (9, (iv (w64 (1 + (Int.tmod (w64 (p1)) 4))))), (10, (iv (w64 (1 + (Int.tmod (w64 (p2)) 4))))), (11, (iv (w64 (1 + (Int.tmod (w64 (p3)) 4))))), (12, (pt g5710)), (13, (iv t5703.2)), (51, (.slice A_p0 p0.length c_p0)), (52, (iv (w64 (1 + (Int.tmod (w64 (p3)) 4)))))] [] (fun fb => by kernel_rfl) rfl trivial ?_
 obtain ⟨t5716, ht5717, hf⟩ := bind_some hf
 refine WL.call (some 53) 22 #[(.slice A_p0 p0.length c_p0), (iv (w64 (1 + (Int.tmod (w64 (p3)) 4))))] (fun fb => by kernel_rfl) (torus_Least_calls _ p0 (w64 (1 + (Int.tmod (w64 (p3)) 4))) A_p0 c_p0 t5716 _ (hS5715.rd 0) ht5717) (fun v w5718 hR5719 => ?_)
 obtain ⟨A5721, c5722, rfl, hk_⟩ := hR5719
 have hS5720 : St NoS w w5718 [rowR enc_Tile A_p0 c_p0 p0, cel ⟨2, 0, none⟩ (iv mG)] [rowO 3 encInt A5721 c5722 t5716.1.Cells, blk g5710 (.cells #[(iv t5703.1.Width), (iv t5703.1.Height), (.slice A5708 t5703.1.Cells.length c5709)] 27 (0, 0)), rowO 3 encInt A5708 c5709 t5703.1.Cells] := hS5715.call hk_ [] [0, 1] (fun g hg => hg.elim) (by simp) (by decide)
 refine ⟨trivial, ?_⟩
 refine seg 6 [] [0, 9, 10, 11, 12, 13, 54, 55] [(0, (.slice A_p0 p0.length c_p0)), (9, (iv (w64 (1 + (Int.tmod (w64 (p1)) 4))))), (10, (iv (w64 (1 + (Int.tmod (w64 (p2)) 4))))), (11, (iv (w64 (1 + (Int.tmod (w64 (p3)) 4))))), (12, (pt g5710)), (13, (iv t5703.2)), (54, (.agg #[(iv t5716.1.Width), (iv t5716.1.Height), (.slice A5721 t5716.1.Cells.length c5722)])), (55, (iv t5716.2))] [] (fun fb => by kernel_rfl) rfl trivial ?_
 refine WL.new hS5720 14 [] (fun g => (.pointer (some ⟨g, 0, none⟩))) (.cells #[(iv 0), (iv 0), (.slice none 0 0)] 27 (0, 0)) [] (fun fb g => by kernel_rfl) trivial (fun g5723 w5724 hS5725 => ?_)
 refine ⟨trivial, ?_⟩
 refine WL.store hS5725 0 rfl [(0, (iv t5716.1.Width)), (1, (iv t5716.1.Height)), (2, (.slice A5721 t5716.1.Cells.length c5722))] #[(iv t5716.1.Width), (iv t5716.1.Height), (.slice A5721 t5716.1.Cells.length c5722)] (fun fb => by kernel_rfl) (by kernel_rfl) rfl [1, 2, 3] (by decide) (by decide) (fun w5727 hS5728 => ?_)
 refine ⟨trivial, ?_⟩
 refine seg 9 [] [0, 9, 10, 11, 12, 13, 14, 15] [(0, (.slice A_p0 p0.length c_p0)), (9, (iv (w64 (1 + (Int.tmod (w64 (p1)) 4))))), (10, (iv (w64 (1 + (Int.tmod (w64 (p2)) 4))))), (11, (iv (w64 (1 + (Int.tmod (w64 (p3)) 4))))), (12, (pt g5710)), (13, (iv t5703.2)), (14, (pt g5723)), (15, (iv t5716.2))] [] (fun fb => by kernel_rfl) rfl trivial ?_
 refine WL.done rfl ?_
 refine WX.next ?_
 refine WC.seq ?_
 refine WC.seq ?_
 refine WC.region ?_
 refine seg 3 [] [0, 9, 10, 11, 12, 13, 14, 15, 58] [(0, (.slice A_p0 p0.length c_p0)), (9, (iv (w64 (1 + (Int.tmod (w64 (p1)) 4))))), (10, (iv (w64 (1 + (Int.tmod (w64 (p2)) 4))))), (11, (iv (w64 (1 + (Int.tmod (w64 (p3)) 4))))), (12, (pt g5710)), (13, (iv t5703.2)), (14, (pt g5723)), (15, (iv t5716.2)), (58, (.bool (t5703.2 == 0)))] [] (fun fb => by kernel_rfl) rfl trivial ?_
 obtain ⟨x8468, hx8469, hf⟩ := bind_some hf
 refine WL.cutW (T := Bool) 20 (fun t => [(0, (.slice A_p0 p0.length c_p0)), (9, (iv (w64 (1 + (Int.tmod (w64 (p1)) 4))))), (10, (iv (w64 (1 + (Int.tmod (w64 (p2)) 4))))), (11, (iv (w64 (1 + (Int.tmod (w64 (p3)) 4))))), (12, (pt g5710)), (13, (iv t5703.2)), (14, (pt g5723)), (15, (iv t5716.2)), (75, (.bool t))]) (fun t w1 => (St NoS w w1 [rowR enc_Tile A_p0 c_p0 p0, cel ⟨2, 0, none⟩ (iv mG)] [blk g5710 (.cells #[(iv t5703.1.Width), (iv t5703.1.Height), (.slice A5708 t5703.1.Cells.length c5709)] 27 (0, 0)), rowO 3 encInt A5708 c5709 t5703.1.Cells, blk g5723 (.cells #[(iv t5716.1.Width), (iv t5716.1.Height), (.slice A5721 t5716.1.Cells.length c5722)] 27 (0, 0)), rowO 3 encInt A5721 c5722 t5716.1.Cells] ∧ x8468 = t) ∧ CellsOK [] w1) (fun K => ?_) ?_
 ·
  rcases br_some hx8469 with ⟨h8470, hx8469⟩ | ⟨h8470, hx8469⟩
  ·
   refine WL.setB 58 h8470 rfl ?_
   refine seg 5 [.v (iv t5703.1.Width), .v (iv t5703.1.Height), .v (.slice A5708 t5703.1.Cells.length c5709)] [0, 9, 10, 11, 12, 13, 14, 15, 58, 59, 60] [(0, (.slice A_p0 p0.length c_p0)), (9, (iv (w64 (1 + (Int.tmod (w64 (p1)) 4))))), (10, (iv (w64 (1 + (Int.tmod (w64 (p2)) 4))))), (11, (iv (w64 (1 + (Int.tmod (w64 (p3)) 4))))), (12, (pt g5710)), (13, (iv t5703.2)), (14, (pt g5723)), (15, (iv t5716.2)), (58, (.bool true)), (59, (.slice A_p0 p0.length c_p0)), (60, (.agg #[(iv t5703.1.Width), (iv t5703.1.Height), (.slice A5708 t5703.1.Cells.length c5709)]))] [.cell ⟨g5710, 0, none⟩ (iv t5703.1.Width), .cell ⟨g5710, 1, none⟩ (iv t5703.1.Height), .cell ⟨g5710, 2, none⟩ (.slice A5708 t5703.1.Cells.length c5709)] (fun fb => by kernel_rfl) rfl ⟨hS5728.cell 2 rfl 0 rfl, hS5728.cell 2 rfl 1 rfl, hS5728.cell 2 rfl 2 rfl, trivial⟩ ?_
   obtain ⟨t8471, ht8472, hx8469⟩ := bind_some hx8469
   refine WL.call (some 61) 46 #[(.slice A_p0 p0.length c_p0), (.agg #[(iv t5703.1.Width), (iv t5703.1.Height), (.slice A5708 t5703.1.Cells.length c5709)])] (fun fb => by kernel_rfl) (ref03_Is_calls _ p0 t5703.1 A_p0 c_p0 A5708 c5709 t8471 _ (hS5728.rd 0) (hS5728.ow 3).ofO ht8472) (fun v w8473 hR8474 => ?_)
   obtain ⟨rfl, hk_⟩ := hR8474
   have hS8475 := hS5728.keepN hk_
   refine ⟨trivial, ?_⟩
   refine seg 8 [] [0, 9, 10, 11, 12, 13, 14, 15, 58, 63] [(0, (.slice A_p0 p0.length c_p0)), (9, (iv (w64 (1 + (Int.tmod (w64 (p1)) 4))))), (10, (iv (w64 (1 + (Int.tmod (w64 (p2)) 4))))), (11, (iv (w64 (1 + (Int.tmod (w64 (p3)) 4))))), (12, (pt g5710)), (13, (iv t5703.2)), (14, (pt g5723)), (15, (iv t5716.2)), (58, (.bool true)), (63, (.bool (!t8471)))] [] (fun fb => by kernel_rfl) rfl trivial ?_
   refine WL.cutV (T := Bool) 13 (fun t => [(68, (.bool t)), (0, (.slice A_p0 p0.length c_p0)), (9, (iv (w64 (1 + (Int.tmod (w64 (p1)) 4))))), (10, (iv (w64 (1 + (Int.tmod (w64 (p2)) 4))))), (11, (iv (w64 (1 + (Int.tmod (w64 (p3)) 4))))), (12, (pt g5710)), (13, (iv t5703.2)), (14, (pt g5723)), (15, (iv t5716.2)), (58, (.bool true))]) (fun t => ((!t8471) || (t5703.1.Width != (w64 (1 + (Int.tmod (w64 (p1)) 4))))) = t) (fun K => ?_) ?_
   ·
    rcases Bool.eq_false_or_eq_true (!t8471) with h8476 | h8476
    ·
     refine WL.setB 63 h8476 rfl ?_
     refine seg 13 [] [0, 9, 10, 11, 12, 13, 14, 15, 58, 68] [(0, (.slice A_p0 p0.length c_p0)), (9, (iv (w64 (1 + (Int.tmod (w64 (p1)) 4))))), (10, (iv (w64 (1 + (Int.tmod (w64 (p2)) 4))))), (11, (iv (w64 (1 + (Int.tmod (w64 (p3)) 4))))), (12, (pt g5710)), (13, (iv t5703.2)), (14, (pt g5723)), (15, (iv t5716.2)), (58, (.bool true)), (68, (.bool true))] [] (fun fb => by kernel_rfl) rfl trivial ?_
     exact WL.toV K true [68, 0, 9, 10, 11, 12, 13, 14, 15, 58] rfl (by first | (rw [h8476]; done) | (rw [h8476]; rfl))
    refine WL.setB 63 h8476 rfl ?_
    refine seg 13 [.v (iv t5703.1.Width)] [0, 9, 10, 11, 12, 13, 14, 15, 58, 68] [(0, (.slice A_p0 p0.length c_p0)), (9, (iv (w64 (1 + (Int.tmod (w64 (p1)) 4))))), (10, (iv (w64 (1 + (Int.tmod (w64 (p2)) 4))))), (11, (iv (w64 (1 + (Int.tmod (w64 (p3)) 4))))), (12, (pt g5710)), (13, (iv t5703.2)), (14, (pt g5723)), (15, (iv t5716.2)), (58, (.bool true)), (68, (.bool (t5703.1.Width != (w64 (1 + (Int.tmod (w64 (p1)) 4))))))] [.cell ⟨g5710, 0, none⟩ (iv t5703.1.Width)] (fun fb => by kernel_rfl) rfl ⟨hS8475.cell 2 rfl 0 rfl, trivial⟩ ?_
    exact WL.toV K (t5703.1.Width != (w64 (1 + (Int.tmod (w64 (p1)) 4)))) [68, 0, 9, 10, 11, 12, 13, 14, 15, 58] rfl (by first | (rw [h8476]; done) | (rw [h8476]; rfl))
   rintro b8477 rfl
   refine seg 14 [] [0, 9, 10, 11, 12, 13, 14, 15, 58, 69] [(0, (.slice A_p0 p0.length c_p0)), (9, (iv (w64 (1 + (Int.tmod (w64 (p1)) 4))))), (10, (iv (w64 (1 + (Int.tmod (w64 (p2)) 4))))), (11, (iv (w64 (1 + (Int.tmod (w64 (p3)) 4))))), (12, (pt g5710)), (13, (iv t5703.2)), (14, (pt g5723)), (15, (iv t5716.2)), (58, (.bool true)), (69, (.bool ((!t8471) || (t5703.1.Width != (w64 (1 + (Int.tmod (w64 (p1)) 4)))))))] [] (fun fb => by kernel_rfl) rfl trivial ?_
   refine WL.cutV (T := Bool) 19 (fun t => [(74, (.bool t)), (0, (.slice A_p0 p0.length c_p0)), (9, (iv (w64 (1 + (Int.tmod (w64 (p1)) 4))))), (10, (iv (w64 (1 + (Int.tmod (w64 (p2)) 4))))), (11, (iv (w64 (1 + (Int.tmod (w64 (p3)) 4))))), (12, (pt g5710)), (13, (iv t5703.2)), (14, (pt g5723)), (15, (iv t5716.2)), (58, (.bool true))]) (fun t => (((!t8471) || (t5703.1.Width != (w64 (1 + (Int.tmod (w64 (p1)) 4))))) || (t5703.1.Height != (w64 (1 + (Int.tmod (w64 (p2)) 4))))) = t) (fun K => ?_) ?_
   ·
    rcases Bool.eq_false_or_eq_true ((!t8471) || (t5703.1.Width != (w64 (1 + (Int.tmod (w64 (p1)) 4))))) with h8478 | h8478
    ·
     refine WL.setB 69 h8478 rfl ?_
     refine seg 19 [] [0, 9, 10, 11, 12, 13, 14, 15, 58, 74] [(0, (.slice A_p0 p0.length c_p0)), (9, (iv (w64 (1 + (Int.tmod (w64 (p1)) 4))))), (10, (iv (w64 (1 + (Int.tmod (w64 (p2)) 4))))), (11, (iv (w64 (1 + (Int.tmod (w64 (p3)) 4))))), (12, (pt g5710)), (13, (iv t5703.2)), (14, (pt g5723)), (15, (iv t5716.2)), (58, (.bool true)), (74, (.bool true))] [] (fun fb => by kernel_rfl) rfl trivial ?_
     exact WL.toV K true [74, 0, 9, 10, 11, 12, 13, 14, 15, 58] rfl (by first | (rw [h8478]; done) | (rw [h8478]; rfl))
    refine WL.setB 69 h8478 rfl ?_
    refine seg 19 [.v (iv t5703.1.Height)] [0, 9, 10, 11, 12, 13, 14, 15, 58, 74] [(0, (.slice A_p0 p0.length c_p0)), (9, (iv (w64 (1 + (Int.tmod (w64 (p1)) 4))))), (10, (iv (w64 (1 + (Int.tmod (w64 (p2)) 4))))), (11, (iv (w64 (1 + (Int.tmod (w64 (p3)) 4))))), (12, (pt g5710)), (13, (iv t5703.2)), (14, (pt g5723)), (15, (iv t5716.2)), (58, (.bool true)), (74, (.bool (t5703.1.Height != (w64 (1 + (Int.tmod (w64 (p2)) 4))))))] [.cell ⟨g5710, 1, none⟩ (iv t5703.1.Height)] (fun fb => by kernel_rfl) rfl ⟨hS8475.cell 2 rfl 1 rfl, trivial⟩ ?_
    exact WL.toV K (t5703.1.Height != (w64 (1 + (Int.tmod (w64 (p2)) 4)))) [74, 0, 9, 10, 11, 12, 13, 14, 15, 58] rfl (by first | (rw [h8478]; done) | (rw [h8478]; rfl))
   rintro b8479 rfl
   refine seg 20 [] [0, 9, 10, 11, 12, 13, 14, 15, 75] [(0, (.slice A_p0 p0.length c_p0)), (9, (iv (w64 (1 + (Int.tmod (w64 (p1)) 4))))), (10, (iv (w64 (1 + (Int.tmod (w64 (p2)) 4))))), (11, (iv (w64 (1 + (Int.tmod (w64 (p3)) 4))))), (12, (pt g5710)), (13, (iv t5703.2)), (14, (pt g5723)), (15, (iv t5716.2)), (75, (.bool (((!t8471) || (t5703.1.Width != (w64 (1 + (Int.tmod (w64 (p1)) 4))))) || (t5703.1.Height != (w64 (1 + (Int.tmod (w64 (p2)) 4)))))))] [] (fun fb => by kernel_rfl) rfl trivial ?_
   injection hx8469 with hx8469
   exact WL.to K (((!t8471) || (t5703.1.Width != (w64 (1 + (Int.tmod (w64 (p1)) 4))))) || (t5703.1.Height != (w64 (1 + (Int.tmod (w64 (p2)) 4))))) [0, 9, 10, 11, 12, 13, 14, 15, 75] rfl ⟨⟨(hS8475.subR [0, 1]).sub [2, 3, 0, 1] (by decide), hx8469.symm⟩, trivial⟩
  refine WL.setB 58 h8470 rfl ?_
  refine seg 20 [] [0, 9, 10, 11, 12, 13, 14, 15, 75] [(0, (.slice A_p0 p0.length c_p0)), (9, (iv (w64 (1 + (Int.tmod (w64 (p1)) 4))))), (10, (iv (w64 (1 + (Int.tmod (w64 (p2)) 4))))), (11, (iv (w64 (1 + (Int.tmod (w64 (p3)) 4))))), (12, (pt g5710)), (13, (iv t5703.2)), (14, (pt g5723)), (15, (iv t5716.2)), (75, (.bool false))] [] (fun fb => by kernel_rfl) rfl trivial ?_
  injection hx8469 with hx8469
  exact WL.to K false [0, 9, 10, 11, 12, 13, 14, 15, 75] rfl ⟨⟨(hS5728.subR [0, 1]).sub [2, 3, 0, 1] (by decide), hx8469.symm⟩, trivial⟩
 rintro y8480 w8482 ⟨⟨hS8483, hq8481⟩, hF8484⟩
 subst hq8481
 refine seg 21 [] [0, 9, 10, 11, 12, 13, 14, 15, 76] [(0, (.slice A_p0 p0.length c_p0)), (9, (iv (w64 (1 + (Int.tmod (w64 (p1)) 4))))), (10, (iv (w64 (1 + (Int.tmod (w64 (p2)) 4))))), (11, (iv (w64 (1 + (Int.tmod (w64 (p3)) 4))))), (12, (pt g5710)), (13, (iv t5703.2)), (14, (pt g5723)), (15, (iv t5716.2)), (76, (.bool x8468))] [] (fun fb => by kernel_rfl) rfl trivial ?_
 obtain ⟨x8513, hx8514, hf⟩ := bind_some hf
 refine WL.cutW (T := Bool) 42 (fun t => [(0, (.slice A_p0 p0.length c_p0)), (9, (iv (w64 (1 + (Int.tmod (w64 (p1)) 4))))), (10, (iv (w64 (1 + (Int.tmod (w64 (p2)) 4))))), (11, (iv (w64 (1 + (Int.tmod (w64 (p3)) 4))))), (12, (pt g5710)), (13, (iv t5703.2)), (14, (pt g5723)), (15, (iv t5716.2)), (97, (.bool t))]) (fun t w1 => (St NoS w w1 [rowR enc_Tile A_p0 c_p0 p0, cel ⟨2, 0, none⟩ (iv mG)] [blk g5710 (.cells #[(iv t5703.1.Width), (iv t5703.1.Height), (.slice A5708 t5703.1.Cells.length c5709)] 27 (0, 0)), rowO 3 encInt A5708 c5709 t5703.1.Cells, blk g5723 (.cells #[(iv t5716.1.Width), (iv t5716.1.Height), (.slice A5721 t5716.1.Cells.length c5722)] 27 (0, 0)), rowO 3 encInt A5721 c5722 t5716.1.Cells] ∧ x8513 = t) ∧ CellsOK [] w1) (fun K => ?_) ?_
 ·
  rcases br_some hx8514 with ⟨h8515, hx8514⟩ | ⟨h8515, hx8514⟩
  ·
   refine WL.setB 76 h8515 rfl ?_
   refine seg 42 [] [0, 9, 10, 11, 12, 13, 14, 15, 97] [(0, (.slice A_p0 p0.length c_p0)), (9, (iv (w64 (1 + (Int.tmod (w64 (p1)) 4))))), (10, (iv (w64 (1 + (Int.tmod (w64 (p2)) 4))))), (11, (iv (w64 (1 + (Int.tmod (w64 (p3)) 4))))), (12, (pt g5710)), (13, (iv t5703.2)), (14, (pt g5723)), (15, (iv t5716.2)), (97, (.bool true))] [] (fun fb => by kernel_rfl) rfl trivial ?_
   injection hx8514 with hx8514
   exact WL.to K true [0, 9, 10, 11, 12, 13, 14, 15, 97] rfl ⟨⟨(hS8483.subR [0, 1]).sub [0, 1, 2, 3] (by decide), hx8514.symm⟩, trivial⟩
  refine WL.setB 76 h8515 rfl ?_
  refine seg 24 [] [0, 9, 10, 11, 12, 13, 14, 15, 76, 79] [(0, (.slice A_p0 p0.length c_p0)), (9, (iv (w64 (1 + (Int.tmod (w64 (p1)) 4))))), (10, (iv (w64 (1 + (Int.tmod (w64 (p2)) 4))))), (11, (iv (w64 (1 + (Int.tmod (w64 (p3)) 4))))), (12, (pt g5710)), (13, (iv t5703.2)), (14, (pt g5723)), (15, (iv t5716.2)), (76, (.bool false)), (79, (.bool (t5716.2 == 0)))] [] (fun fb => by kernel_rfl) rfl trivial ?_
  obtain ⟨x8526, hx8527, hx8514⟩ := bind_some hx8514
  refine WL.cutW (T := Bool) 41 (fun t => [(0, (.slice A_p0 p0.length c_p0)), (9, (iv (w64 (1 + (Int.tmod (w64 (p1)) 4))))), (10, (iv (w64 (1 + (Int.tmod (w64 (p2)) 4))))), (11, (iv (w64 (1 + (Int.tmod (w64 (p3)) 4))))), (12, (pt g5710)), (13, (iv t5703.2)), (14, (pt g5723)), (15, (iv t5716.2)), (76, (.bool false)), (96, (.bool t))]) (fun t w1 => (St NoS w w1 [rowR enc_Tile A_p0 c_p0 p0, cel ⟨2, 0, none⟩ (iv mG)] [blk g5710 (.cells #[(iv t5703.1.Width), (iv t5703.1.Height), (.slice A5708 t5703.1.Cells.length c5709)] 27 (0, 0)), rowO 3 encInt A5708 c5709 t5703.1.Cells, blk g5723 (.cells #[(iv t5716.1.Width), (iv t5716.1.Height), (.slice A5721 t5716.1.Cells.length c5722)] 27 (0, 0)), rowO 3 encInt A5721 c5722 t5716.1.Cells] ∧ x8526 = t) ∧ CellsOK [] w1) (fun K => ?_) ?_
  ·
   rcases br_some hx8527 with ⟨h8528, hx8527⟩ | ⟨h8528, hx8527⟩
   ·
    refine WL.setB 79 h8528 rfl ?_
    refine seg 26 [.v (iv t5716.1.Width), .v (iv t5716.1.Height), .v (.slice A5721 t5716.1.Cells.length c5722)] [0, 9, 10, 11, 12, 13, 14, 15, 76, 79, 80, 81] [(0, (.slice A_p0 p0.length c_p0)), (9, (iv (w64 (1 + (Int.tmod (w64 (p1)) 4))))), (10, (iv (w64 (1 + (Int.tmod (w64 (p2)) 4))))), (11, (iv (w64 (1 + (Int.tmod (w64 (p3)) 4))))), (12, (pt g5710)), (13, (iv t5703.2)), (14, (pt g5723)), (15, (iv t5716.2)), (76, (.bool false)), (79, (.bool true)), (80, (.slice A_p0 p0.length c_p0)), (81, (.agg #[(iv t5716.1.Width), (iv t5716.1.Height), (.slice A5721 t5716.1.Cells.length c5722)]))] [.cell ⟨g5723, 0, none⟩ (iv t5716.1.Width), .cell ⟨g5723, 1, none⟩ (iv t5716.1.Height), .cell ⟨g5723, 2, none⟩ (.slice A5721 t5716.1.Cells.length c5722)] (fun fb => by kernel_rfl) rfl ⟨hS8483.cell 2 rfl 0 rfl, hS8483.cell 2 rfl 1 rfl, hS8483.cell 2 rfl 2 rfl, trivial⟩ ?_
    obtain ⟨t8529, ht8530, hx8527⟩ := bind_some hx8527
    refine WL.call (some 82) 46 #[(.slice A_p0 p0.length c_p0), (.agg #[(iv t5716.1.Width), (iv t5716.1.Height), (.slice A5721 t5716.1.Cells.length c5722)])] (fun fb => by kernel_rfl) (ref03_Is_calls _ p0 t5716.1 A_p0 c_p0 A5721 c5722 t8529 _ (hS8483.rd 0) (hS8483.ow 3).ofO ht8530) (fun v w8531 hR8532 => ?_)
    obtain ⟨rfl, hk_⟩ := hR8532
    have hS8533 := hS8483.keepN hk_
    refine ⟨trivial, ?_⟩
    refine seg 29 [] [0, 9, 10, 11, 12, 13, 14, 15, 76, 79, 84] [(0, (.slice A_p0 p0.length c_p0)), (9, (iv (w64 (1 + (Int.tmod (w64 (p1)) 4))))), (10, (iv (w64 (1 + (Int.tmod (w64 (p2)) 4))))), (11, (iv (w64 (1 + (Int.tmod (w64 (p3)) 4))))), (12, (pt g5710)), (13, (iv t5703.2)), (14, (pt g5723)), (15, (iv t5716.2)), (76, (.bool false)), (79, (.bool true)), (84, (.bool (!t8529)))] [] (fun fb => by kernel_rfl) rfl trivial ?_
    refine WL.cutV (T := Bool) 34 (fun t => [(89, (.bool t)), (0, (.slice A_p0 p0.length c_p0)), (9, (iv (w64 (1 + (Int.tmod (w64 (p1)) 4))))), (10, (iv (w64 (1 + (Int.tmod (w64 (p2)) 4))))), (11, (iv (w64 (1 + (Int.tmod (w64 (p3)) 4))))), (12, (pt g5710)), (13, (iv t5703.2)), (14, (pt g5723)), (15, (iv t5716.2)), (76, (.bool false)), (79, (.bool true))]) (fun t => ((!t8529) || (decide (t5716.1.Width > w64 (1 + (Int.tmod (w64 (p3)) 4))))) = t) (fun K => ?_) ?_
    ·
     rcases Bool.eq_false_or_eq_true (!t8529) with h8534 | h8534
     ·
      refine WL.setB 84 h8534 rfl ?_
      refine seg 34 [] [0, 9, 10, 11, 12, 13, 14, 15, 76, 79, 89] [(0, (.slice A_p0 p0.length c_p0)), (9, (iv (w64 (1 + (Int.tmod (w64 (p1)) 4))))), (10, (iv (w64 (1 + (Int.tmod (w64 (p2)) 4))))), (11, (iv (w64 (1 + (Int.tmod (w64 (p3)) 4))))), (12, (pt g5710)), (13, (iv t5703.2)), (14, (pt g5723)), (15, (iv t5716.2)), (76, (.bool false)), (79, (.bool true)), (89, (.bool true))] [] (fun fb => by kernel_rfl) rfl trivial ?_
      exact WL.toV K true [89, 0, 9, 10, 11, 12, 13, 14, 15, 76, 79] rfl (by first | (rw [h8534]; done) | (rw [h8534]; rfl))
     refine WL.setB 84 h8534 rfl ?_
     refine seg 34 [.v (iv t5716.1.Width)] [0, 9, 10, 11, 12, 13, 14, 15, 76, 79, 89] [(0, (.slice A_p0 p0.length c_p0)), (9, (iv (w64 (1 + (Int.tmod (w64 (p1)) 4))))), (10, (iv (w64 (1 + (Int.tmod (w64 (p2)) 4))))), (11, (iv (w64 (1 + (Int.tmod (w64 (p3)) 4))))), (12, (pt g5710)), (13, (iv t5703.2)), (14, (pt g5723)), (15, (iv t5716.2)), (76, (.bool false)), (79, (.bool true)), (89, (.bool (decide (t5716.1.Width > w64 (1 + (Int.tmod (w64 (p3)) 4))))))] [.cell ⟨g5723, 0, none⟩ (iv t5716.1.Width)] (fun fb => by kernel_rfl) rfl ⟨hS8533.cell 2 rfl 0 rfl, trivial⟩ ?_
     exact WL.toV K (decide (t5716.1.Width > w64 (1 + (Int.tmod (w64 (p3)) 4)))) [89, 0, 9, 10, 11, 12, 13, 14, 15, 76, 79] rfl (by first | (rw [h8534]; done) | (rw [h8534]; rfl))
    rintro b8535 rfl
    refine seg 35 [] [0, 9, 10, 11, 12, 13, 14, 15, 76, 79, 90] [(0, (.slice A_p0 p0.length c_p0)), (9, (iv (w64 (1 + (Int.tmod (w64 (p1)) 4))))), (10, (iv (w64 (1 + (Int.tmod (w64 (p2)) 4))))), (11, (iv (w64 (1 + (Int.tmod (w64 (p3)) 4))))), (12, (pt g5710)), (13, (iv t5703.2)), (14, (pt g5723)), (15, (iv t5716.2)), (76, (.bool false)), (79, (.bool true)), (90, (.bool ((!t8529) || (decide (t5716.1.Width > w64 (1 + (Int.tmod (w64 (p3)) 4)))))))] [] (fun fb => by kernel_rfl) rfl trivial ?_
    refine WL.cutV (T := Bool) 40 (fun t => [(95, (.bool t)), (0, (.slice A_p0 p0.length c_p0)), (9, (iv (w64 (1 + (Int.tmod (w64 (p1)) 4))))), (10, (iv (w64 (1 + (Int.tmod (w64 (p2)) 4))))), (11, (iv (w64 (1 + (Int.tmod (w64 (p3)) 4))))), (12, (pt g5710)), (13, (iv t5703.2)), (14, (pt g5723)), (15, (iv t5716.2)), (76, (.bool false)), (79, (.bool true))]) (fun t => (((!t8529) || (decide (t5716.1.Width > w64 (1 + (Int.tmod (w64 (p3)) 4))))) || (decide (t5716.1.Height > w64 (1 + (Int.tmod (w64 (p3)) 4))))) = t) (fun K => ?_) ?_
    ·
     rcases Bool.eq_false_or_eq_true ((!t8529) || (decide (t5716.1.Width > w64 (1 + (Int.tmod (w64 (p3)) 4))))) with h8536 | h8536
     ·
      refine WL.setB 90 h8536 rfl ?_
      refine seg 40 [] [0, 9, 10, 11, 12, 13, 14, 15, 76, 79, 95] [(0, (.slice A_p0 p0.length c_p0)), (9, (iv (w64 (1 + (Int.tmod (w64 (p1)) 4))))), (10, (iv (w64 (1 + (Int.tmod (w64 (p2)) 4))))), (11, (iv (w64 (1 + (Int.tmod (w64 (p3)) 4))))), (12, (pt g5710)), (13, (iv t5703.2)), (14, (pt g5723)), (15, (iv t5716.2)), (76, (.bool false)), (79, (.bool true)), (95, (.bool true))] [] (fun fb => by kernel_rfl) rfl trivial ?_
      exact WL.toV K true [95, 0, 9, 10, 11, 12, 13, 14, 15, 76, 79] rfl (by first | (rw [h8536]; done) | (rw [h8536]; rfl))
     refine WL.setB 90 h8536 rfl ?_
     refine seg 40 [.v (iv t5716.1.Height)] [0, 9, 10, 11, 12, 13, 14, 15, 76, 79, 95] [(0, (.slice A_p0 p0.length c_p0)), (9, (iv (w64 (1 + (Int.tmod (w64 (p1)) 4))))), (10, (iv (w64 (1 + (Int.tmod (w64 (p2)) 4))))), (11, (iv (w64 (1 + (Int.tmod (w64 (p3)) 4))))), (12, (pt g5710)), (13, (iv t5703.2)), (14, (pt g5723)), (15, (iv t5716.2)), (76, (.bool false)), (79, (.bool true)), (95, (.bool (decide (t5716.1.Height > w64 (1 + (Int.tmod (w64 (p3)) 4))))))] [.cell ⟨g5723, 1, none⟩ (iv t5716.1.Height)] (fun fb => by kernel_rfl) rfl ⟨hS8533.cell 2 rfl 1 rfl, trivial⟩ ?_
     exact WL.toV K (decide (t5716.1.Height > w64 (1 + (Int.tmod (w64 (p3)) 4)))) [95, 0, 9, 10, 11, 12, 13, 14, 15, 76, 79] rfl (by first | (rw [h8536]; done) | (rw [h8536]; rfl))
    rintro b8537 rfl
    refine seg 41 [] [0, 9, 10, 11, 12, 13, 14, 15, 76, 96] [(0, (.slice A_p0 p0.length c_p0)), (9, (iv (w64 (1 + (Int.tmod (w64 (p1)) 4))))), (10, (iv (w64 (1 + (Int.tmod (w64 (p2)) 4))))), (11, (iv (w64 (1 + (Int.tmod (w64 (p3)) 4))))), (12, (pt g5710)), (13, (iv t5703.2)), (14, (pt g5723)), (15, (iv t5716.2)), (76, (.bool false)), (96, (.bool (((!t8529) || (decide (t5716.1.Width > w64 (1 + (Int.tmod (w64 (p3)) 4))))) || (decide (t5716.1.Height > w64 (1 + (Int.tmod (w64 (p3)) 4)))))))] [] (fun fb => by kernel_rfl) rfl trivial ?_
    injection hx8527 with hx8527
    exact WL.to K (((!t8529) || (decide (t5716.1.Width > w64 (1 + (Int.tmod (w64 (p3)) 4))))) || (decide (t5716.1.Height > w64 (1 + (Int.tmod (w64 (p3)) 4))))) [0, 9, 10, 11, 12, 13, 14, 15, 76, 96] rfl ⟨⟨(hS8533.subR [0, 1]).sub [0, 1, 2, 3] (by decide), hx8527.symm⟩, trivial⟩
   refine WL.setB 79 h8528 rfl ?_
   refine seg 41 [] [0, 9, 10, 11, 12, 13, 14, 15, 76, 96] [(0, (.slice A_p0 p0.length c_p0)), (9, (iv (w64 (1 + (Int.tmod (w64 (p1)) 4))))), (10, (iv (w64 (1 + (Int.tmod (w64 (p2)) 4))))), (11, (iv (w64 (1 + (Int.tmod (w64 (p3)) 4))))), (12, (pt g5710)), (13, (iv t5703.2)), (14, (pt g5723)), (15, (iv t5716.2)), (76, (.bool false)), (96, (.bool false))] [] (fun fb => by kernel_rfl) rfl trivial ?_
   injection hx8527 with hx8527
   exact WL.to K false [0, 9, 10, 11, 12, 13, 14, 15, 76, 96] rfl ⟨⟨(hS8483.subR [0, 1]).sub [0, 1, 2, 3] (by decide), hx8527.symm⟩, trivial⟩
  rintro y8538 w8540 ⟨⟨hS8541, hq8539⟩, hF8542⟩
  subst hq8539
  refine seg 42 [] [0, 9, 10, 11, 12, 13, 14, 15, 97] [(0, (.slice A_p0 p0.length c_p0)), (9, (iv (w64 (1 + (Int.tmod (w64 (p1)) 4))))), (10, (iv (w64 (1 + (Int.tmod (w64 (p2)) 4))))), (11, (iv (w64 (1 + (Int.tmod (w64 (p3)) 4))))), (12, (pt g5710)), (13, (iv t5703.2)), (14, (pt g5723)), (15, (iv t5716.2)), (97, (.bool x8526))] [] (fun fb => by kernel_rfl) rfl trivial ?_
  injection hx8514 with hx8514
  exact WL.to K x8526 [0, 9, 10, 11, 12, 13, 14, 15, 97] rfl ⟨⟨(hS8541.subR [0, 1]).sub [0, 1, 2, 3] (by decide), hx8514.symm⟩, trivial⟩
 rintro y8543 w8545 ⟨⟨hS8546, hq8544⟩, hF8547⟩
 subst hq8544
 refine WL.done rfl ?_
 refine WX.next ?_
 rcases br_some hf with ⟨h8548, hf⟩ | ⟨h8548, hf⟩
 ·refine WC.condT2 (fun fb => by kernel_rfl) h8548 ?_
  refine WC.seq ?_
  refine WC.region ?_
  refine seg 1 [] [8] [(8, (.bool false))] [] (fun fb => by kernel_rfl) rfl trivial ?_
  refine WL.done rfl ?_
  refine WX.next ?_
  refine WC.ret ?_
  injection hf with hf
  subst hf
  exact WX.thenR (WX.ret_ [] (.bool false) [] (fun fb => by kernel_rfl) trivial ⟨_, rfl, rfl, hS8546.keep⟩)
 refine WC.condF2 (fun fb => by kernel_rfl) h8548 ?_
 refine WC.skip ?_
 refine WX.next ?_
 refine WC.seq ?_
 refine WC.seq ?_
 refine WC.region ?_
 refine seg 3 [] [0, 9, 10, 11, 12, 13, 14, 15, 100] [(0, (.slice A_p0 p0.length c_p0)), (9, (iv (w64 (1 + (Int.tmod (w64 (p1)) 4))))), (10, (iv (w64 (1 + (Int.tmod (w64 (p2)) 4))))), (11, (iv (w64 (1 + (Int.tmod (w64 (p3)) 4))))), (12, (pt g5710)), (13, (iv t5703.2)), (14, (pt g5723)), (15, (iv t5716.2)), (100, (.bool (t5703.2 == 0)))] [] (fun fb => by kernel_rfl) rfl trivial ?_
 refine WL.cutV (T := Bool) 9 (fun t => [(106, (.bool t)), (0, (.slice A_p0 p0.length c_p0)), (9, (iv (w64 (1 + (Int.tmod (w64 (p1)) 4))))), (10, (iv (w64 (1 + (Int.tmod (w64 (p2)) 4))))), (12, (pt g5710)), (13, (iv t5703.2)), (14, (pt g5723)), (15, (iv t5716.2))]) (fun t => ((t5703.2 == 0) && (decide (maxI (w64 (1 + (Int.tmod (w64 (p1)) 4))) (w64 (1 + (Int.tmod (w64 (p2)) 4))) ≤ w64 (1 + (Int.tmod (w64 (p3)) 4))))) = t) (fun K => ?_) ?_
 ·
  rcases Bool.eq_false_or_eq_true (t5703.2 == 0) with h8549 | h8549
  ·
   refine WL.setB 100 h8549 rfl ?_
   refine seg 9 [] [0, 9, 10, 12, 13, 14, 15, 106] [(0, (.slice A_p0 p0.length c_p0)), (9, (iv (w64 (1 + (Int.tmod (w64 (p1)) 4))))), (10, (iv (w64 (1 + (Int.tmod (w64 (p2)) 4))))), (12, (pt g5710)), (13, (iv t5703.2)), (14, (pt g5723)), (15, (iv t5716.2)), (106, (.bool (decide (maxI (w64 (1 + (Int.tmod (w64 (p1)) 4))) (w64 (1 + (Int.tmod (w64 (p2)) 4))) ≤ w64 (1 + (Int.tmod (w64 (p3)) 4))))))] [] (fun fb => by kernel_rfl) rfl trivial ?_
   exact WL.toV K (decide (maxI (w64 (1 + (Int.tmod (w64 (p1)) 4))) (w64 (1 + (Int.tmod (w64 (p2)) 4))) ≤ w64 (1 + (Int.tmod (w64 (p3)) 4)))) [106, 0, 9, 10, 12, 13, 14, 15] rfl (by first | (rw [h8549]; done) | (rw [h8549]; rfl))
  refine WL.setB 100 h8549 rfl ?_
  refine seg 9 [] [0, 9, 10, 12, 13, 14, 15, 106] [(0, (.slice A_p0 p0.length c_p0)), (9, (iv (w64 (1 + (Int.tmod (w64 (p1)) 4))))), (10, (iv (w64 (1 + (Int.tmod (w64 (p2)) 4))))), (12, (pt g5710)), (13, (iv t5703.2)), (14, (pt g5723)), (15, (iv t5716.2)), (106, (.bool false))] [] (fun fb => by kernel_rfl) rfl trivial ?_
  exact WL.toV K false [106, 0, 9, 10, 12, 13, 14, 15] rfl (by first | (rw [h8549]; done) | (rw [h8549]; rfl))
 rintro b8550 rfl
 refine seg 10 [] [0, 9, 10, 12, 13, 14, 15, 107] [(0, (.slice A_p0 p0.length c_p0)), (9, (iv (w64 (1 + (Int.tmod (w64 (p1)) 4))))), (10, (iv (w64 (1 + (Int.tmod (w64 (p2)) 4))))), (12, (pt g5710)), (13, (iv t5703.2)), (14, (pt g5723)), (15, (iv t5716.2)), (107, (.bool ((t5703.2 == 0) && (decide (maxI (w64 (1 + (Int.tmod (w64 (p1)) 4))) (w64 (1 + (Int.tmod (w64 (p2)) 4))) ≤ w64 (1 + (Int.tmod (w64 (p3)) 4)))))))] [] (fun fb => by kernel_rfl) rfl trivial ?_
 refine WL.cutV (T := Bool) 28 (fun t => [(125, (.bool t)), (0, (.slice A_p0 p0.length c_p0)), (9, (iv (w64 (1 + (Int.tmod (w64 (p1)) 4))))), (10, (iv (w64 (1 + (Int.tmod (w64 (p2)) 4))))), (12, (pt g5710)), (13, (iv t5703.2))]) (fun t => (((t5703.2 == 0) && (decide (maxI (w64 (1 + (Int.tmod (w64 (p1)) 4))) (w64 (1 + (Int.tmod (w64 (p2)) 4))) ≤ w64 (1 + (Int.tmod (w64 (p3)) 4))))) && ((t5716.2 == 6) || ((t5716.2 == 0) && (decide (w64 (t5716.1.Width * t5716.1.Height) > w64 ((w64 (1 + (Int.tmod (w64 (p1)) 4))) * (w64 (1 + (Int.tmod (w64 (p2)) 4))))))))) = t) (fun K => ?_) ?_
 ·
  rcases Bool.eq_false_or_eq_true ((t5703.2 == 0) && (decide (maxI (w64 (1 + (Int.tmod (w64 (p1)) 4))) (w64 (1 + (Int.tmod (w64 (p2)) 4))) ≤ w64 (1 + (Int.tmod (w64 (p3)) 4))))) with h8557 | h8557
  ·
   refine WL.setB 107 h8557 rfl ?_
   refine seg 13 [] [0, 9, 10, 12, 13, 14, 15, 107, 110] [(0, (.slice A_p0 p0.length c_p0)), (9, (iv (w64 (1 + (Int.tmod (w64 (p1)) 4))))), (10, (iv (w64 (1 + (Int.tmod (w64 (p2)) 4))))), (12, (pt g5710)), (13, (iv t5703.2)), (14, (pt g5723)), (15, (iv t5716.2)), (107, (.bool true)), (110, (.bool (t5716.2 == 6)))] [] (fun fb => by kernel_rfl) rfl trivial ?_
   refine WL.cutV (T := Bool) 27 (fun t => [(124, (.bool t)), (0, (.slice A_p0 p0.length c_p0)), (9, (iv (w64 (1 + (Int.tmod (w64 (p1)) 4))))), (10, (iv (w64 (1 + (Int.tmod (w64 (p2)) 4))))), (12, (pt g5710)), (13, (iv t5703.2)), (107, (.bool true))]) (fun t => ((t5716.2 == 6) || ((t5716.2 == 0) && (decide (w64 (t5716.1.Width * t5716.1.Height) > w64 ((w64 (1 + (Int.tmod (w64 (p1)) 4))) * (w64 (1 + (Int.tmod (w64 (p2)) 4)))))))) = t) (fun K => ?_) ?_
   ·
    rcases Bool.eq_false_or_eq_true (t5716.2 == 6) with h8560 | h8560
    ·
     refine WL.setB 110 h8560 rfl ?_
     refine seg 27 [] [0, 9, 10, 12, 13, 107, 124] [(0, (.slice A_p0 p0.length c_p0)), (9, (iv (w64 (1 + (Int.tmod (w64 (p1)) 4))))), (10, (iv (w64 (1 + (Int.tmod (w64 (p2)) 4))))), (12, (pt g5710)), (13, (iv t5703.2)), (107, (.bool true)), (124, (.bool true))] [] (fun fb => by kernel_rfl) rfl trivial ?_
     exact WL.toV K true [124, 0, 9, 10, 12, 13, 107] rfl (by first | (rw [h8560]; done) | (rw [h8560]; rfl))
    refine WL.setB 110 h8560 rfl ?_
    refine seg 16 [] [0, 9, 10, 12, 13, 14, 107, 110, 113] [(0, (.slice A_p0 p0.length c_p0)), (9, (iv (w64 (1 + (Int.tmod (w64 (p1)) 4))))), (10, (iv (w64 (1 + (Int.tmod (w64 (p2)) 4))))), (12, (pt g5710)), (13, (iv t5703.2)), (14, (pt g5723)), (107, (.bool true)), (110, (.bool false)), (113, (.bool (t5716.2 == 0)))] [] (fun fb => by kernel_rfl) rfl trivial ?_
    refine WL.cutV (T := Bool) 26 (fun t => [(123, (.bool t)), (0, (.slice A_p0 p0.length c_p0)), (9, (iv (w64 (1 + (Int.tmod (w64 (p1)) 4))))), (10, (iv (w64 (1 + (Int.tmod (w64 (p2)) 4))))), (12, (pt g5710)), (13, (iv t5703.2)), (107, (.bool true)), (110, (.bool false))]) (fun t => ((t5716.2 == 0) && (decide (w64 (t5716.1.Width * t5716.1.Height) > w64 ((w64 (1 + (Int.tmod (w64 (p1)) 4))) * (w64 (1 + (Int.tmod (w64 (p2)) 4))))))) = t) (fun K => ?_) ?_
    ·
     rcases Bool.eq_false_or_eq_true (t5716.2 == 0) with h8561 | h8561
     ·
      refine WL.setB 113 h8561 rfl ?_
      refine seg 26 [.v (iv t5716.1.Width), .v (iv t5716.1.Height)] [0, 9, 10, 12, 13, 107, 110, 123] [(0, (.slice A_p0 p0.length c_p0)), (9, (iv (w64 (1 + (Int.tmod (w64 (p1)) 4))))), (10, (iv (w64 (1 + (Int.tmod (w64 (p2)) 4))))), (12, (pt g5710)), (13, (iv t5703.2)), (107, (.bool true)), (110, (.bool false)), (123, (.bool (decide (w64 (t5716.1.Width * t5716.1.Height) > w64 ((w64 (1 + (Int.tmod (w64 (p1)) 4))) * (w64 (1 + (Int.tmod (w64 (p2)) 4))))))))] [.cell ⟨g5723, 0, none⟩ (iv t5716.1.Width), .cell ⟨g5723, 1, none⟩ (iv t5716.1.Height)] (fun fb => by kernel_rfl) rfl ⟨hS8546.cell 2 rfl 0 rfl, hS8546.cell 2 rfl 1 rfl, trivial⟩ ?_
      exact WL.toV K (decide (w64 (t5716.1.Width * t5716.1.Height) > w64 ((w64 (1 + (Int.tmod (w64 (p1)) 4))) * (w64 (1 + (Int.tmod (w64 (p2)) 4)))))) [123, 0, 9, 10, 12, 13, 107, 110] rfl (by first | (rw [h8561]; done) | (rw [h8561]; rfl))
     refine WL.setB 113 h8561 rfl ?_
     refine seg 26 [] [0, 9, 10, 12, 13, 107, 110, 123] [(0, (.slice A_p0 p0.length c_p0)), (9, (iv (w64 (1 + (Int.tmod (w64 (p1)) 4))))), (10, (iv (w64 (1 + (Int.tmod (w64 (p2)) 4))))), (12, (pt g5710)), (13, (iv t5703.2)), (107, (.bool true)), (110, (.bool false)), (123, (.bool false))] [] (fun fb => by kernel_rfl) rfl trivial ?_
     exact WL.toV K false [123, 0, 9, 10, 12, 13, 107, 110] rfl (by first | (rw [h8561]; done) | (rw [h8561]; rfl))
    rintro b8562 rfl
    refine seg 27 [] [0, 9, 10, 12, 13, 107, 124] [(0, (.slice A_p0 p0.length c_p0)), (9, (iv (w64 (1 + (Int.tmod (w64 (p1)) 4))))), (10, (iv (w64 (1 + (Int.tmod (w64 (p2)) 4))))), (12, (pt g5710)), (13, (iv t5703.2)), (107, (.bool true)), (124, (.bool ((t5716.2 == 0) && (decide (w64 (t5716.1.Width * t5716.1.Height) > w64 ((w64 (1 + (Int.tmod (w64 (p1)) 4))) * (w64 (1 + (Int.tmod (w64 (p2)) 4)))))))))] [] (fun fb => by kernel_rfl) rfl trivial ?_
    exact WL.toV K ((t5716.2 == 0) && (decide (w64 (t5716.1.Width * t5716.1.Height) > w64 ((w64 (1 + (Int.tmod (w64 (p1)) 4))) * (w64 (1 + (Int.tmod (w64 (p2)) 4))))))) [124, 0, 9, 10, 12, 13, 107] rfl (by first | (rw [h8560]; done) | (rw [h8560]; rfl))
   rintro b8563 rfl
   refine seg 28 [] [0, 9, 10, 12, 13, 125] [(0, (.slice A_p0 p0.length c_p0)), (9, (iv (w64 (1 + (Int.tmod (w64 (p1)) 4))))), (10, (iv (w64 (1 + (Int.tmod (w64 (p2)) 4))))), (12, (pt g5710)), (13, (iv t5703.2)), (125, (.bool ((t5716.2 == 6) || ((t5716.2 == 0) && (decide (w64 (t5716.1.Width * t5716.1.Height) > w64 ((w64 (1 + (Int.tmod (w64 (p1)) 4))) * (w64 (1 + (Int.tmod (w64 (p2)) 4))))))))))] [] (fun fb => by kernel_rfl) rfl trivial ?_
   exact WL.toV K ((t5716.2 == 6) || ((t5716.2 == 0) && (decide (w64 (t5716.1.Width * t5716.1.Height) > w64 ((w64 (1 + (Int.tmod (w64 (p1)) 4))) * (w64 (1 + (Int.tmod (w64 (p2)) 4)))))))) [125, 0, 9, 10, 12, 13] rfl (by first | (rw [h8557]; done) | (rw [h8557]; rfl))
  refine WL.setB 107 h8557 rfl ?_
  refine seg 28 [] [0, 9, 10, 12, 13, 125] [(0, (.slice A_p0 p0.length c_p0)), (9, (iv (w64 (1 + (Int.tmod (w64 (p1)) 4))))), (10, (iv (w64 (1 + (Int.tmod (w64 (p2)) 4))))), (12, (pt g5710)), (13, (iv t5703.2)), (125, (.bool false))] [] (fun fb => by kernel_rfl) rfl trivial ?_
  exact WL.toV K false [125, 0, 9, 10, 12, 13] rfl (by first | (rw [h8557]; done) | (rw [h8557]; rfl))
 rintro b8564 rfl
 refine WL.done rfl ?_
 refine WX.next ?_
 rcases br_some hf with ⟨h8565, hf⟩ | ⟨h8565, hf⟩
 ·refine WC.condT2 (fun fb => by kernel_rfl) h8565 ?_
  refine WC.seq ?_
  refine WC.region ?_
  refine seg 1 [] [8] [(8, (.bool false))] [] (fun fb => by kernel_rfl) rfl trivial ?_
  refine WL.done rfl ?_
  refine WX.next ?_
  refine WC.ret ?_
  injection hf with hf
  subst hf
  exact WX.thenR (WX.ret_ [] (.bool false) [] (fun fb => by kernel_rfl) trivial ⟨_, rfl, rfl, hS8546.keep⟩)
 refine WC.condF2 (fun fb => by kernel_rfl) h8565 ?_
 refine WC.skip ?_
 refine WX.next ?_
 refine WC.seq ?_
 refine WC.seq ?_
 refine WC.region ?_
 refine seg 2 [] [0, 9, 10, 12, 13, 127] [(0, (.slice A_p0 p0.length c_p0)), (9, (iv (w64 (1 + (Int.tmod (w64 (p1)) 4))))), (10, (iv (w64 (1 + (Int.tmod (w64 (p2)) 4))))), (12, (pt g5710)), (13, (iv t5703.2)), (127, (.bool (t5703.2 != 0)))] [] (fun fb => by kernel_rfl) rfl trivial ?_
 refine WL.done rfl ?_
 refine WX.next ?_
 rcases br_some hf with ⟨h8566, hf⟩ | ⟨h8566, hf⟩
 ·refine WC.condT2 (fun fb => by kernel_rfl) h8566 ?_
  refine WC.seq ?_
  refine WC.region ?_
  refine seg 3 [] [0, 9, 130] [(0, (.slice A_p0 p0.length c_p0)), (9, (iv (w64 (1 + (Int.tmod (w64 (p1)) 4))))), (130, (.bool (t5703.2 == 6)))] [] (fun fb => by kernel_rfl) rfl trivial ?_
  obtain ⟨x8596, hx8597, hf⟩ := bind_some hf
  refine WL.cutW (T := Bool) 7 (fun t => [(134, (.bool t))]) (fun t w1 => (St NoS w w1 [rowR enc_Tile A_p0 c_p0 p0, cel ⟨2, 0, none⟩ (iv mG)] [] ∧ x8596 = t) ∧ CellsOK [] w1) (fun K => ?_) ?_
  ·
   rcases br_some hx8597 with ⟨h8598, hx8597⟩ | ⟨h8598, hx8597⟩
   ·
    refine WL.setB 130 h8598 rfl ?_
    refine seg 7 [] [134] [(134, (.bool true))] [] (fun fb => by kernel_rfl) rfl trivial ?_
    injection hx8597 with hx8597
    exact WL.to K true [134] rfl ⟨⟨(hS8546.subR [0, 1]).sub [] (by decide), hx8597.symm⟩, trivial⟩
   refine WL.setB 130 h8598 rfl ?_
   refine seg 5 [] [130, 131, 132] [(130, (.bool false)), (131, (.slice A_p0 p0.length c_p0)), (132, (iv (w64 (1 + (Int.tmod (w64 (p1)) 4)))))] [] (fun fb => by kernel_rfl) rfl trivial ?_
   obtain ⟨t8599, ht8600, hx8597⟩ := bind_some hx8597
   refine WL.call (some 133) 19 #[(.slice A_p0 p0.length c_p0), (iv (w64 (1 + (Int.tmod (w64 (p1)) 4))))] (fun fb => by kernel_rfl) (ref02_Great_calls _ p0 (w64 (1 + (Int.tmod (w64 (p1)) 4))) A_p0 c_p0 t8599 _ (hS8546.rd 0) ht8600) (fun v w8601 hR8602 => ?_)
   obtain ⟨rfl, hk_⟩ := hR8602
   have hS8603 := hS8546.keepN hk_
   refine ⟨trivial, ?_⟩
   refine seg 7 [] [134] [(134, (.bool t8599))] [] (fun fb => by kernel_rfl) rfl trivial ?_
   injection hx8597 with hx8597
   exact WL.to K t8599 [134] rfl ⟨⟨(hS8603.subR [0, 1]).sub [] (by decide), hx8597.symm⟩, trivial⟩
  rintro y8604 w8606 ⟨⟨hS8607, hq8605⟩, hF8608⟩
  subst hq8605
  refine seg 8 [] [135] [(135, (.bool x8596))] [] (fun fb => by kernel_rfl) rfl trivial ?_
  obtain ⟨x8615, hx8616, hf⟩ := bind_some hf
  refine WL.cutW (T := Bool) 10 (fun t => [(137, (.bool t))]) (fun t w1 => (St NoS w w1 [rowR enc_Tile A_p0 c_p0 p0, cel ⟨2, 0, none⟩ (iv mG)] [] ∧ x8615 = t) ∧ CellsOK [] w1) (fun K => ?_) ?_
  ·
   rcases br_some hx8616 with ⟨h8617, hx8616⟩ | ⟨h8617, hx8616⟩
   ·
    refine WL.setB 135 h8617 rfl ?_
    obtain ⟨t8618, ht8619, hx8616⟩ := bind_some hx8616
    refine WL.call (some 136) 14 #[] (fun fb => by kernel_rfl) (law03_awake_calls _ mG t8618 _ (hS8607.rd 1) ht8619) (fun v w8620 hR8621 => ?_)
    obtain ⟨rfl, hk_⟩ := hR8621
    have hS8622 := hS8607.keepN hk_
    refine ⟨trivial, ?_⟩
    refine seg 10 [] [137] [(137, (.bool t8618))] [] (fun fb => by kernel_rfl) rfl trivial ?_
    injection hx8616 with hx8616
    exact WL.to K t8618 [137] rfl ⟨⟨(hS8622.subR [0, 1]).sub [] (by decide), hx8616.symm⟩, trivial⟩
   refine WL.setB 135 h8617 rfl ?_
   refine seg 10 [] [137] [(137, (.bool false))] [] (fun fb => by kernel_rfl) rfl trivial ?_
   injection hx8616 with hx8616
   exact WL.to K false [137] rfl ⟨⟨(hS8607.subR [0, 1]).sub [] (by decide), hx8616.symm⟩, trivial⟩
  rintro y8623 w8625 ⟨⟨hS8626, hq8624⟩, hF8627⟩
  subst hq8624
  refine seg 11 [] [8] [(8, (.bool x8615))] [] (fun fb => by kernel_rfl) rfl trivial ?_
  refine WL.done rfl ?_
  refine WX.next ?_
  refine WC.ret ?_
  injection hf with hf
  subst hf
  exact WX.thenR (WX.ret_ [] (.bool x8615) [] (fun fb => by kernel_rfl) trivial ⟨_, rfl, rfl, hS8626.keep⟩)
 refine WC.condF2 (fun fb => by kernel_rfl) h8566 ?_
 refine WC.skip ?_
 refine WX.next ?_
 refine WC.seq ?_
 refine WC.seq ?_
 refine WC.region ?_
 refine seg 2 [] [0, 9, 10, 12, 16] [(0, (.slice A_p0 p0.length c_p0)), (9, (iv (w64 (1 + (Int.tmod (w64 (p1)) 4))))), (10, (iv (w64 (1 + (Int.tmod (w64 (p2)) 4))))), (12, (pt g5710)), (16, (iv (w64 (1 + (Int.tmod (w64 (p1)) 4)))))] [] (fun fb => by kernel_rfl) rfl trivial ?_
 refine WL.done rfl ?_
 refine WX.next ?_
 obtain ⟨x10465, hx10466, hf⟩ := bind_some hf
 refine WC.cutN (T := Unit) (fun t => []) (fun t w1 => St NoS w w1 [rowR enc_Tile A_p0 c_p0 p0, cel ⟨2, 0, none⟩ (iv mG)] [] ∧ x10465 = .inr t) (fun Kx10465 => ?_) ?_
 ·
  refine WC.block ?_
  refine WC.loop (T := Int) (fun t => [(0, (.slice A_p0 p0.length c_p0)), (9, (iv (w64 (1 + (Int.tmod (w64 (p1)) 4))))), (10, (iv (w64 (1 + (Int.tmod (w64 (p2)) 4))))), (12, (pt g5710)), (16, (iv t))]) (fun n t w1 => St NoS w w1 [rowR enc_Tile A_p0 c_p0 p0, cel ⟨2, 0, none⟩ (iv mG)] [blk g5710 (.cells #[(iv t5703.1.Width), (iv t5703.1.Height), (.slice A5708 t5703.1.Cells.length c5709)] 27 (0, 0)), rowO 3 encInt A5708 c5709 t5703.1.Cells] ∧ law03_TorusRight.l0 n t p0 p1 p2 t5703 = some x10465) k (w64 (1 + (Int.tmod (w64 (p1)) 4))) [0, 9, 10, 12, 16] rfl ⟨(hS8546.subR [0, 1]).sub [0, 1] (by decide), hx10466⟩ ?_
  rintro k10467 x10464 w10468 ⟨hS10469, hl10470⟩
  cases k10467 with
  | zero => rw [law03_TorusRight.l0] at hl10470; cases hl10470
  | succ k10467 =>
   rw [law03_TorusRight.l0] at hl10470
   refine WC.seq ?_
   refine WC.seq ?_
   refine WC.region ?_
   refine seg 2 [] [0, 9, 10, 12, 16, 140] [(0, (.slice A_p0 p0.length c_p0)), (9, (iv (w64 (1 + (Int.tmod (w64 (p1)) 4))))), (10, (iv (w64 (1 + (Int.tmod (w64 (p2)) 4))))), (12, (pt g5710)), (16, (iv x10464)), (140, (.bool (decide (x10464 ≤ 6))))] [] (fun fb => by kernel_rfl) rfl trivial ?_
   refine WL.done rfl ?_
   refine WX.next ?_
   rcases br_some hl10470 with ⟨h10471, hl10470⟩ | ⟨h10471, hl10470⟩
   ·refine WC.condT2 (fun fb => by kernel_rfl) h10471 ?_
    refine WC.skip ?_
    refine WX.next ?_
    refine WC.seq ?_
    refine WC.block ?_
    refine WC.seq ?_
    refine WC.region ?_
    refine seg 2 [] [0, 9, 10, 12, 16, 17] [(0, (.slice A_p0 p0.length c_p0)), (9, (iv (w64 (1 + (Int.tmod (w64 (p1)) 4))))), (10, (iv (w64 (1 + (Int.tmod (w64 (p2)) 4))))), (12, (pt g5710)), (16, (iv x10464)), (17, (iv (w64 (1 + (Int.tmod (w64 (p2)) 4)))))] [] (fun fb => by kernel_rfl) rfl trivial ?_
    refine WL.done rfl ?_
    refine WX.next ?_
    obtain ⟨x10790, hx10791, hl10470⟩ := bind_some hl10470
    refine WC.cutN (T := Unit) (fun t => [(0, (.slice A_p0 p0.length c_p0)), (9, (iv (w64 (1 + (Int.tmod (w64 (p1)) 4))))), (10, (iv (w64 (1 + (Int.tmod (w64 (p2)) 4))))), (12, (pt g5710)), (16, (iv x10464))]) (fun t w1 => St NoS w w1 [rowR enc_Tile A_p0 c_p0 p0, cel ⟨2, 0, none⟩ (iv mG)] [blk g5710 (.cells #[(iv t5703.1.Width), (iv t5703.1.Height), (.slice A5708 t5703.1.Cells.length c5709)] 27 (0, 0)), rowO 3 encInt A5708 c5709 t5703.1.Cells] ∧ x10790 = .inr t) (fun Kx10790 => ?_) ?_
    ·
     refine WC.block ?_
     refine WC.loop (T := Int) (fun t => [(0, (.slice A_p0 p0.length c_p0)), (9, (iv (w64 (1 + (Int.tmod (w64 (p1)) 4))))), (10, (iv (w64 (1 + (Int.tmod (w64 (p2)) 4))))), (12, (pt g5710)), (16, (iv x10464)), (17, (iv t))]) (fun n t w1 => St NoS w w1 [rowR enc_Tile A_p0 c_p0 p0, cel ⟨2, 0, none⟩ (iv mG)] [blk g5710 (.cells #[(iv t5703.1.Width), (iv t5703.1.Height), (.slice A5708 t5703.1.Cells.length c5709)] 27 (0, 0)), rowO 3 encInt A5708 c5709 t5703.1.Cells] ∧ law03_TorusRight.l1 n t p0 p2 t5703 x10464 = some x10790) k10467 (w64 (1 + (Int.tmod (w64 (p2)) 4))) [0, 9, 10, 12, 16, 17] rfl ⟨(hS10469.subR [0, 1]).sub [0, 1] (by decide), hx10791⟩ ?_
     rintro k10792 x10789 w10793 ⟨hS10794, hl10795⟩
     cases k10792 with
     | zero => rw [law03_TorusRight.l1] at hl10795; cases hl10795
     | succ k10792 =>
      rw [law03_TorusRight.l1] at hl10795
      refine WC.seq ?_
      refine WC.seq ?_
      refine WC.region ?_
      refine seg 2 [] [0, 9, 10, 12, 16, 17, 146] [(0, (.slice A_p0 p0.length c_p0)), (9, (iv (w64 (1 + (Int.tmod (w64 (p1)) 4))))), (10, (iv (w64 (1 + (Int.tmod (w64 (p2)) 4))))), (12, (pt g5710)), (16, (iv x10464)), (17, (iv x10789)), (146, (.bool (decide (x10789 ≤ 6))))] [] (fun fb => by kernel_rfl) rfl trivial ?_
      refine WL.done rfl ?_
      refine WX.next ?_
      rcases br_some hl10795 with ⟨h10796, hl10795⟩ | ⟨h10796, hl10795⟩
      ·refine WC.condT2 (fun fb => by kernel_rfl) h10796 ?_
       refine WC.skip ?_
       refine WX.next ?_
       refine WC.seq ?_
       refine WC.block ?_
       refine WC.seq ?_
       refine WC.region ?_
       refine seg 3 [] [0, 9, 10, 12, 16, 17, 151, 152, 153] [(0, (.slice A_p0 p0.length c_p0)), (9, (iv (w64 (1 + (Int.tmod (w64 (p1)) 4))))), (10, (iv (w64 (1 + (Int.tmod (w64 (p2)) 4))))), (12, (pt g5710)), (16, (iv x10464)), (17, (iv x10789)), (151, (.slice A_p0 p0.length c_p0)), (152, (iv x10464)), (153, (iv x10789))] [] (fun fb => by kernel_rfl) rfl trivial ?_
       obtain ⟨t10797, ht10798, hl10795⟩ := bind_some hl10795
       refine WL.call (some 154) 16 #[(.slice A_p0 p0.length c_p0), (iv x10464), (iv x10789)] (fun fb => by kernel_rfl) (torus_Find_calls _ p0 x10464 x10789 A_p0 c_p0 t10797 _ (hS10794.rd 0) ht10798) (fun v w10799 hR10800 => ?_)
       obtain ⟨A10802, c10803, rfl, hk_⟩ := hR10800
       have hS10801 : St NoS w w10799 [rowR enc_Tile A_p0 c_p0 p0, cel ⟨2, 0, none⟩ (iv mG)] [rowO 3 encInt A10802 c10803 t10797.1.Cells, blk g5710 (.cells #[(iv t5703.1.Width), (iv t5703.1.Height), (.slice A5708 t5703.1.Cells.length c5709)] 27 (0, 0)), rowO 3 encInt A5708 c5709 t5703.1.Cells] := hS10794.call hk_ [] [0, 1] (fun g hg => hg.elim) (by simp) (by decide)
       refine ⟨trivial, ?_⟩
       refine seg 7 [] [0, 9, 10, 12, 16, 17, 155, 156] [(0, (.slice A_p0 p0.length c_p0)), (9, (iv (w64 (1 + (Int.tmod (w64 (p1)) 4))))), (10, (iv (w64 (1 + (Int.tmod (w64 (p2)) 4))))), (12, (pt g5710)), (16, (iv x10464)), (17, (iv x10789)), (155, (.agg #[(iv t10797.1.Width), (iv t10797.1.Height), (.slice A10802 t10797.1.Cells.length c10803)])), (156, (iv t10797.2))] [] (fun fb => by kernel_rfl) rfl trivial ?_
       refine WL.new hS10801 18 [] (fun g => (.pointer (some ⟨g, 0, none⟩))) (.cells #[(iv 0), (iv 0), (.slice none 0 0)] 27 (0, 0)) [] (fun fb g => by kernel_rfl) trivial (fun g10804 w10805 hS10806 => ?_)
       refine ⟨trivial, ?_⟩
       refine WL.store hS10806 0 rfl [(0, (iv t10797.1.Width)), (1, (iv t10797.1.Height)), (2, (.slice A10802 t10797.1.Cells.length c10803))] #[(iv t10797.1.Width), (iv t10797.1.Height), (.slice A10802 t10797.1.Cells.length c10803)] (fun fb => by kernel_rfl) (by kernel_rfl) rfl [1, 2, 3] (by decide) (by decide) (fun w10808 hS10809 => ?_)
       refine ⟨trivial, ?_⟩
       refine seg 10 [] [0, 9, 10, 12, 16, 17, 18, 19] [(0, (.slice A_p0 p0.length c_p0)), (9, (iv (w64 (1 + (Int.tmod (w64 (p1)) 4))))), (10, (iv (w64 (1 + (Int.tmod (w64 (p2)) 4))))), (12, (pt g5710)), (16, (iv x10464)), (17, (iv x10789)), (18, (pt g10804)), (19, (iv t10797.2))] [] (fun fb => by kernel_rfl) rfl trivial ?_
       refine WL.done rfl ?_
       refine WX.next ?_
       refine WC.seq ?_
       refine WC.seq ?_
       refine WC.region ?_
       refine seg 3 [] [0, 9, 10, 12, 16, 17, 18, 19, 159] [(0, (.slice A_p0 p0.length c_p0)), (9, (iv (w64 (1 + (Int.tmod (w64 (p1)) 4))))), (10, (iv (w64 (1 + (Int.tmod (w64 (p2)) 4))))), (12, (pt g5710)), (16, (iv x10464)), (17, (iv x10789)), (18, (pt g10804)), (19, (iv t10797.2)), (159, (.bool (t10797.2 == 6)))] [] (fun fb => by kernel_rfl) rfl trivial ?_
       obtain ⟨x10838, hx10839, hl10795⟩ := bind_some hl10795
       refine WL.cutW (T := Bool) 24 (fun t => [(0, (.slice A_p0 p0.length c_p0)), (9, (iv (w64 (1 + (Int.tmod (w64 (p1)) 4))))), (10, (iv (w64 (1 + (Int.tmod (w64 (p2)) 4))))), (12, (pt g5710)), (16, (iv x10464)), (17, (iv x10789)), (19, (iv t10797.2)), (180, (.bool t))]) (fun t w1 => (St NoS w w1 [rowR enc_Tile A_p0 c_p0 p0, cel ⟨2, 0, none⟩ (iv mG)] [blk g5710 (.cells #[(iv t5703.1.Width), (iv t5703.1.Height), (.slice A5708 t5703.1.Cells.length c5709)] 27 (0, 0)), rowO 3 encInt A5708 c5709 t5703.1.Cells] ∧ x10838 = t) ∧ CellsOK [] w1) (fun K => ?_) ?_
       ·
        rcases br_some hx10839 with ⟨h10840, hx10839⟩ | ⟨h10840, hx10839⟩
        ·
         refine WL.setB 159 h10840 rfl ?_
         refine seg 24 [] [0, 9, 10, 12, 16, 17, 19, 180] [(0, (.slice A_p0 p0.length c_p0)), (9, (iv (w64 (1 + (Int.tmod (w64 (p1)) 4))))), (10, (iv (w64 (1 + (Int.tmod (w64 (p2)) 4))))), (12, (pt g5710)), (16, (iv x10464)), (17, (iv x10789)), (19, (iv t10797.2)), (180, (.bool true))] [] (fun fb => by kernel_rfl) rfl trivial ?_
         injection hx10839 with hx10839
         exact WL.to K true [0, 9, 10, 12, 16, 17, 19, 180] rfl ⟨⟨(hS10809.subR [0, 1]).sub [2, 3] (by decide), hx10839.symm⟩, trivial⟩
        refine WL.setB 159 h10840 rfl ?_
        refine seg 6 [] [0, 9, 10, 12, 16, 17, 18, 19, 159, 162] [(0, (.slice A_p0 p0.length c_p0)), (9, (iv (w64 (1 + (Int.tmod (w64 (p1)) 4))))), (10, (iv (w64 (1 + (Int.tmod (w64 (p2)) 4))))), (12, (pt g5710)), (16, (iv x10464)), (17, (iv x10789)), (18, (pt g10804)), (19, (iv t10797.2)), (159, (.bool false)), (162, (.bool (t10797.2 == 0)))] [] (fun fb => by kernel_rfl) rfl trivial ?_
        obtain ⟨x10851, hx10852, hx10839⟩ := bind_some hx10839
        refine WL.cutW (T := Bool) 23 (fun t => [(0, (.slice A_p0 p0.length c_p0)), (9, (iv (w64 (1 + (Int.tmod (w64 (p1)) 4))))), (10, (iv (w64 (1 + (Int.tmod (w64 (p2)) 4))))), (12, (pt g5710)), (16, (iv x10464)), (17, (iv x10789)), (19, (iv t10797.2)), (159, (.bool false)), (179, (.bool t))]) (fun t w1 => (St NoS w w1 [rowR enc_Tile A_p0 c_p0 p0, cel ⟨2, 0, none⟩ (iv mG)] [blk g5710 (.cells #[(iv t5703.1.Width), (iv t5703.1.Height), (.slice A5708 t5703.1.Cells.length c5709)] 27 (0, 0)), rowO 3 encInt A5708 c5709 t5703.1.Cells] ∧ x10851 = t) ∧ CellsOK [] w1) (fun K => ?_) ?_
        ·
         rcases br_some hx10852 with ⟨h10853, hx10852⟩ | ⟨h10853, hx10852⟩
         ·
          refine WL.setB 162 h10853 rfl ?_
          refine seg 8 [.v (iv t10797.1.Width), .v (iv t10797.1.Height), .v (.slice A10802 t10797.1.Cells.length c10803)] [0, 9, 10, 12, 16, 17, 18, 19, 159, 162, 163, 164] [(0, (.slice A_p0 p0.length c_p0)), (9, (iv (w64 (1 + (Int.tmod (w64 (p1)) 4))))), (10, (iv (w64 (1 + (Int.tmod (w64 (p2)) 4))))), (12, (pt g5710)), (16, (iv x10464)), (17, (iv x10789)), (18, (pt g10804)), (19, (iv t10797.2)), (159, (.bool false)), (162, (.bool true)), (163, (.slice A_p0 p0.length c_p0)), (164, (.agg #[(iv t10797.1.Width), (iv t10797.1.Height), (.slice A10802 t10797.1.Cells.length c10803)]))] [.cell ⟨g10804, 0, none⟩ (iv t10797.1.Width), .cell ⟨g10804, 1, none⟩ (iv t10797.1.Height), .cell ⟨g10804, 2, none⟩ (.slice A10802 t10797.1.Cells.length c10803)] (fun fb => by kernel_rfl) rfl ⟨hS10809.cell 0 rfl 0 rfl, hS10809.cell 0 rfl 1 rfl, hS10809.cell 0 rfl 2 rfl, trivial⟩ ?_
          obtain ⟨t10854, ht10855, hx10852⟩ := bind_some hx10852
          refine WL.call (some 165) 46 #[(.slice A_p0 p0.length c_p0), (.agg #[(iv t10797.1.Width), (iv t10797.1.Height), (.slice A10802 t10797.1.Cells.length c10803)])] (fun fb => by kernel_rfl) (ref03_Is_calls _ p0 t10797.1 A_p0 c_p0 A10802 c10803 t10854 _ (hS10809.rd 0) (hS10809.ow 1).ofO ht10855) (fun v w10856 hR10857 => ?_)
          obtain ⟨rfl, hk_⟩ := hR10857
          have hS10858 := hS10809.keepN hk_
          refine ⟨trivial, ?_⟩
          refine seg 11 [] [0, 9, 10, 12, 16, 17, 18, 19, 159, 162, 167] [(0, (.slice A_p0 p0.length c_p0)), (9, (iv (w64 (1 + (Int.tmod (w64 (p1)) 4))))), (10, (iv (w64 (1 + (Int.tmod (w64 (p2)) 4))))), (12, (pt g5710)), (16, (iv x10464)), (17, (iv x10789)), (18, (pt g10804)), (19, (iv t10797.2)), (159, (.bool false)), (162, (.bool true)), (167, (.bool (!t10854)))] [] (fun fb => by kernel_rfl) rfl trivial ?_
          refine WL.cutV (T := Bool) 16 (fun t => [(172, (.bool t)), (0, (.slice A_p0 p0.length c_p0)), (9, (iv (w64 (1 + (Int.tmod (w64 (p1)) 4))))), (10, (iv (w64 (1 + (Int.tmod (w64 (p2)) 4))))), (12, (pt g5710)), (16, (iv x10464)), (17, (iv x10789)), (18, (pt g10804)), (19, (iv t10797.2)), (159, (.bool false)), (162, (.bool true))]) (fun t => ((!t10854) || (t10797.1.Width != x10464)) = t) (fun K => ?_) ?_
          ·
           rcases Bool.eq_false_or_eq_true (!t10854) with h10859 | h10859
           ·
            refine WL.setB 167 h10859 rfl ?_
            refine seg 16 [] [0, 9, 10, 12, 16, 17, 18, 19, 159, 162, 172] [(0, (.slice A_p0 p0.length c_p0)), (9, (iv (w64 (1 + (Int.tmod (w64 (p1)) 4))))), (10, (iv (w64 (1 + (Int.tmod (w64 (p2)) 4))))), (12, (pt g5710)), (16, (iv x10464)), (17, (iv x10789)), (18, (pt g10804)), (19, (iv t10797.2)), (159, (.bool false)), (162, (.bool true)), (172, (.bool true))] [] (fun fb => by kernel_rfl) rfl trivial ?_
            exact WL.toV K true [172, 0, 9, 10, 12, 16, 17, 18, 19, 159, 162] rfl (by first | (rw [h10859]; done) | (rw [h10859]; rfl))
           refine WL.setB 167 h10859 rfl ?_
           refine seg 16 [.v (iv t10797.1.Width)] [0, 9, 10, 12, 16, 17, 18, 19, 159, 162, 172] [(0, (.slice A_p0 p0.length c_p0)), (9, (iv (w64 (1 + (Int.tmod (w64 (p1)) 4))))), (10, (iv (w64 (1 + (Int.tmod (w64 (p2)) 4))))), (12, (pt g5710)), (16, (iv x10464)), (17, (iv x10789)), (18, (pt g10804)), (19, (iv t10797.2)), (159, (.bool false)), (162, (.bool true)), (172, (.bool (t10797.1.Width != x10464)))] [.cell ⟨g10804, 0, none⟩ (iv t10797.1.Width)] (fun fb => by kernel_rfl) rfl ⟨hS10858.cell 0 rfl 0 rfl, trivial⟩ ?_
           exact WL.toV K (t10797.1.Width != x10464) [172, 0, 9, 10, 12, 16, 17, 18, 19, 159, 162] rfl (by first | (rw [h10859]; done) | (rw [h10859]; rfl))
          rintro b10860 rfl
          refine seg 17 [] [0, 9, 10, 12, 16, 17, 18, 19, 159, 162, 173] [(0, (.slice A_p0 p0.length c_p0)), (9, (iv (w64 (1 + (Int.tmod (w64 (p1)) 4))))), (10, (iv (w64 (1 + (Int.tmod (w64 (p2)) 4))))), (12, (pt g5710)), (16, (iv x10464)), (17, (iv x10789)), (18, (pt g10804)), (19, (iv t10797.2)), (159, (.bool false)), (162, (.bool true)), (173, (.bool ((!t10854) || (t10797.1.Width != x10464))))] [] (fun fb => by kernel_rfl) rfl trivial ?_
          refine WL.cutV (T := Bool) 22 (fun t => [(178, (.bool t)), (0, (.slice A_p0 p0.length c_p0)), (9, (iv (w64 (1 + (Int.tmod (w64 (p1)) 4))))), (10, (iv (w64 (1 + (Int.tmod (w64 (p2)) 4))))), (12, (pt g5710)), (16, (iv x10464)), (17, (iv x10789)), (19, (iv t10797.2)), (159, (.bool false)), (162, (.bool true))]) (fun t => (((!t10854) || (t10797.1.Width != x10464)) || (t10797.1.Height != x10789)) = t) (fun K => ?_) ?_
          ·
           rcases Bool.eq_false_or_eq_true ((!t10854) || (t10797.1.Width != x10464)) with h10861 | h10861
           ·
            refine WL.setB 173 h10861 rfl ?_
            refine seg 22 [] [0, 9, 10, 12, 16, 17, 19, 159, 162, 178] [(0, (.slice A_p0 p0.length c_p0)), (9, (iv (w64 (1 + (Int.tmod (w64 (p1)) 4))))), (10, (iv (w64 (1 + (Int.tmod (w64 (p2)) 4))))), (12, (pt g5710)), (16, (iv x10464)), (17, (iv x10789)), (19, (iv t10797.2)), (159, (.bool false)), (162, (.bool true)), (178, (.bool true))] [] (fun fb => by kernel_rfl) rfl trivial ?_
            exact WL.toV K true [178, 0, 9, 10, 12, 16, 17, 19, 159, 162] rfl (by first | (rw [h10861]; done) | (rw [h10861]; rfl))
           refine WL.setB 173 h10861 rfl ?_
           refine seg 22 [.v (iv t10797.1.Height)] [0, 9, 10, 12, 16, 17, 19, 159, 162, 178] [(0, (.slice A_p0 p0.length c_p0)), (9, (iv (w64 (1 + (Int.tmod (w64 (p1)) 4))))), (10, (iv (w64 (1 + (Int.tmod (w64 (p2)) 4))))), (12, (pt g5710)), (16, (iv x10464)), (17, (iv x10789)), (19, (iv t10797.2)), (159, (.bool false)), (162, (.bool true)), (178, (.bool (t10797.1.Height != x10789)))] [.cell ⟨g10804, 1, none⟩ (iv t10797.1.Height)] (fun fb => by kernel_rfl) rfl ⟨hS10858.cell 0 rfl 1 rfl, trivial⟩ ?_
           exact WL.toV K (t10797.1.Height != x10789) [178, 0, 9, 10, 12, 16, 17, 19, 159, 162] rfl (by first | (rw [h10861]; done) | (rw [h10861]; rfl))
          rintro b10862 rfl
          refine seg 23 [] [0, 9, 10, 12, 16, 17, 19, 159, 179] [(0, (.slice A_p0 p0.length c_p0)), (9, (iv (w64 (1 + (Int.tmod (w64 (p1)) 4))))), (10, (iv (w64 (1 + (Int.tmod (w64 (p2)) 4))))), (12, (pt g5710)), (16, (iv x10464)), (17, (iv x10789)), (19, (iv t10797.2)), (159, (.bool false)), (179, (.bool (((!t10854) || (t10797.1.Width != x10464)) || (t10797.1.Height != x10789))))] [] (fun fb => by kernel_rfl) rfl trivial ?_
          injection hx10852 with hx10852
          exact WL.to K (((!t10854) || (t10797.1.Width != x10464)) || (t10797.1.Height != x10789)) [0, 9, 10, 12, 16, 17, 19, 159, 179] rfl ⟨⟨(hS10858.subR [0, 1]).sub [2, 3] (by decide), hx10852.symm⟩, trivial⟩
         refine WL.setB 162 h10853 rfl ?_
         refine seg 23 [] [0, 9, 10, 12, 16, 17, 19, 159, 179] [(0, (.slice A_p0 p0.length c_p0)), (9, (iv (w64 (1 + (Int.tmod (w64 (p1)) 4))))), (10, (iv (w64 (1 + (Int.tmod (w64 (p2)) 4))))), (12, (pt g5710)), (16, (iv x10464)), (17, (iv x10789)), (19, (iv t10797.2)), (159, (.bool false)), (179, (.bool false))] [] (fun fb => by kernel_rfl) rfl trivial ?_
         injection hx10852 with hx10852
         exact WL.to K false [0, 9, 10, 12, 16, 17, 19, 159, 179] rfl ⟨⟨(hS10809.subR [0, 1]).sub [2, 3] (by decide), hx10852.symm⟩, trivial⟩
        rintro y10863 w10865 ⟨⟨hS10866, hq10864⟩, hF10867⟩
        subst hq10864
        refine seg 24 [] [0, 9, 10, 12, 16, 17, 19, 180] [(0, (.slice A_p0 p0.length c_p0)), (9, (iv (w64 (1 + (Int.tmod (w64 (p1)) 4))))), (10, (iv (w64 (1 + (Int.tmod (w64 (p2)) 4))))), (12, (pt g5710)), (16, (iv x10464)), (17, (iv x10789)), (19, (iv t10797.2)), (180, (.bool x10851))] [] (fun fb => by kernel_rfl) rfl trivial ?_
        injection hx10839 with hx10839
        exact WL.to K x10851 [0, 9, 10, 12, 16, 17, 19, 180] rfl ⟨⟨(hS10866.subR [0, 1]).sub [0, 1] (by decide), hx10839.symm⟩, trivial⟩
       rintro y10868 w10870 ⟨⟨hS10871, hq10869⟩, hF10872⟩
       subst hq10869
       refine seg 25 [] [0, 9, 10, 12, 16, 17, 19, 181] [(0, (.slice A_p0 p0.length c_p0)), (9, (iv (w64 (1 + (Int.tmod (w64 (p1)) 4))))), (10, (iv (w64 (1 + (Int.tmod (w64 (p2)) 4))))), (12, (pt g5710)), (16, (iv x10464)), (17, (iv x10789)), (19, (iv t10797.2)), (181, (.bool x10838))] [] (fun fb => by kernel_rfl) rfl trivial ?_
       obtain ⟨x10893, hx10894, hl10795⟩ := bind_some hl10795
       refine WL.cutW (T := Bool) 34 (fun t => [(0, (.slice A_p0 p0.length c_p0)), (9, (iv (w64 (1 + (Int.tmod (w64 (p1)) 4))))), (10, (iv (w64 (1 + (Int.tmod (w64 (p2)) 4))))), (12, (pt g5710)), (16, (iv x10464)), (17, (iv x10789)), (190, (.bool t))]) (fun t w1 => (St NoS w w1 [rowR enc_Tile A_p0 c_p0 p0, cel ⟨2, 0, none⟩ (iv mG)] [blk g5710 (.cells #[(iv t5703.1.Width), (iv t5703.1.Height), (.slice A5708 t5703.1.Cells.length c5709)] 27 (0, 0)), rowO 3 encInt A5708 c5709 t5703.1.Cells] ∧ x10893 = t) ∧ CellsOK [] w1) (fun K => ?_) ?_
       ·
        rcases br_some hx10894 with ⟨h10895, hx10894⟩ | ⟨h10895, hx10894⟩
        ·
         refine WL.setB 181 h10895 rfl ?_
         refine seg 34 [] [0, 9, 10, 12, 16, 17, 190] [(0, (.slice A_p0 p0.length c_p0)), (9, (iv (w64 (1 + (Int.tmod (w64 (p1)) 4))))), (10, (iv (w64 (1 + (Int.tmod (w64 (p2)) 4))))), (12, (pt g5710)), (16, (iv x10464)), (17, (iv x10789)), (190, (.bool true))] [] (fun fb => by kernel_rfl) rfl trivial ?_
         injection hx10894 with hx10894
         exact WL.to K true [0, 9, 10, 12, 16, 17, 190] rfl ⟨⟨(hS10871.subR [0, 1]).sub [0, 1] (by decide), hx10894.symm⟩, trivial⟩
        refine WL.setB 181 h10895 rfl ?_
        refine seg 28 [] [0, 9, 10, 12, 16, 17, 181, 184] [(0, (.slice A_p0 p0.length c_p0)), (9, (iv (w64 (1 + (Int.tmod (w64 (p1)) 4))))), (10, (iv (w64 (1 + (Int.tmod (w64 (p2)) 4))))), (12, (pt g5710)), (16, (iv x10464)), (17, (iv x10789)), (181, (.bool false)), (184, (.bool (t10797.2 != 0)))] [] (fun fb => by kernel_rfl) rfl trivial ?_
        obtain ⟨x10902, hx10903, hx10894⟩ := bind_some hx10894
        refine WL.cutW (T := Bool) 33 (fun t => [(0, (.slice A_p0 p0.length c_p0)), (9, (iv (w64 (1 + (Int.tmod (w64 (p1)) 4))))), (10, (iv (w64 (1 + (Int.tmod (w64 (p2)) 4))))), (12, (pt g5710)), (16, (iv x10464)), (17, (iv x10789)), (181, (.bool false)), (189, (.bool t))]) (fun t w1 => (St NoS w w1 [rowR enc_Tile A_p0 c_p0 p0, cel ⟨2, 0, none⟩ (iv mG)] [blk g5710 (.cells #[(iv t5703.1.Width), (iv t5703.1.Height), (.slice A5708 t5703.1.Cells.length c5709)] 27 (0, 0)), rowO 3 encInt A5708 c5709 t5703.1.Cells] ∧ x10902 = t) ∧ CellsOK [] w1) (fun K => ?_) ?_
        ·
         rcases br_some hx10903 with ⟨h10904, hx10903⟩ | ⟨h10904, hx10903⟩
         ·
          refine WL.setB 184 h10904 rfl ?_
          refine seg 30 [] [0, 9, 10, 12, 16, 17, 181, 184, 185, 186] [(0, (.slice A_p0 p0.length c_p0)), (9, (iv (w64 (1 + (Int.tmod (w64 (p1)) 4))))), (10, (iv (w64 (1 + (Int.tmod (w64 (p2)) 4))))), (12, (pt g5710)), (16, (iv x10464)), (17, (iv x10789)), (181, (.bool false)), (184, (.bool true)), (185, (.slice A_p0 p0.length c_p0)), (186, (iv x10464))] [] (fun fb => by kernel_rfl) rfl trivial ?_
          obtain ⟨t10905, ht10906, hx10903⟩ := bind_some hx10903
          refine WL.call (some 187) 19 #[(.slice A_p0 p0.length c_p0), (iv x10464)] (fun fb => by kernel_rfl) (ref02_Great_calls _ p0 x10464 A_p0 c_p0 t10905 _ (hS10871.rd 0) ht10906) (fun v w10907 hR10908 => ?_)
          obtain ⟨rfl, hk_⟩ := hR10908
          have hS10909 := hS10871.keepN hk_
          refine ⟨trivial, ?_⟩
          refine seg 33 [] [0, 9, 10, 12, 16, 17, 181, 189] [(0, (.slice A_p0 p0.length c_p0)), (9, (iv (w64 (1 + (Int.tmod (w64 (p1)) 4))))), (10, (iv (w64 (1 + (Int.tmod (w64 (p2)) 4))))), (12, (pt g5710)), (16, (iv x10464)), (17, (iv x10789)), (181, (.bool false)), (189, (.bool (!t10905)))] [] (fun fb => by kernel_rfl) rfl trivial ?_
          injection hx10903 with hx10903
          exact WL.to K (!t10905) [0, 9, 10, 12, 16, 17, 181, 189] rfl ⟨⟨(hS10909.subR [0, 1]).sub [0, 1] (by decide), hx10903.symm⟩, trivial⟩
         refine WL.setB 184 h10904 rfl ?_
         refine seg 33 [] [0, 9, 10, 12, 16, 17, 181, 189] [(0, (.slice A_p0 p0.length c_p0)), (9, (iv (w64 (1 + (Int.tmod (w64 (p1)) 4))))), (10, (iv (w64 (1 + (Int.tmod (w64 (p2)) 4))))), (12, (pt g5710)), (16, (iv x10464)), (17, (iv x10789)), (181, (.bool false)), (189, (.bool false))] [] (fun fb => by kernel_rfl) rfl trivial ?_
         injection hx10903 with hx10903
         exact WL.to K false [0, 9, 10, 12, 16, 17, 181, 189] rfl ⟨⟨(hS10871.subR [0, 1]).sub [0, 1] (by decide), hx10903.symm⟩, trivial⟩
        rintro y10910 w10912 ⟨⟨hS10913, hq10911⟩, hF10914⟩
        subst hq10911
        refine seg 34 [] [0, 9, 10, 12, 16, 17, 190] [(0, (.slice A_p0 p0.length c_p0)), (9, (iv (w64 (1 + (Int.tmod (w64 (p1)) 4))))), (10, (iv (w64 (1 + (Int.tmod (w64 (p2)) 4))))), (12, (pt g5710)), (16, (iv x10464)), (17, (iv x10789)), (190, (.bool x10902))] [] (fun fb => by kernel_rfl) rfl trivial ?_
        injection hx10894 with hx10894
        exact WL.to K x10902 [0, 9, 10, 12, 16, 17, 190] rfl ⟨⟨(hS10913.subR [0, 1]).sub [0, 1] (by decide), hx10894.symm⟩, trivial⟩
       rintro y10915 w10917 ⟨⟨hS10918, hq10916⟩, hF10919⟩
       subst hq10916
       refine WL.done rfl ?_
       refine WX.next ?_
       rcases br_some hl10795 with ⟨h10920, hl10795⟩ | ⟨h10920, hl10795⟩
       ·refine WC.condT2 (fun fb => by kernel_rfl) h10920 ?_
        refine WC.seq ?_
        refine WC.region ?_
        refine seg 1 [] [8] [(8, (.bool false))] [] (fun fb => by kernel_rfl) rfl trivial ?_
        refine WL.done rfl ?_
        refine WX.next ?_
        refine WC.ret ?_
        injection hl10795 with hl10795
        subst hl10795
        injection hl10470 with hl10470
        subst hl10470
        injection hf with hf
        subst hf
        exact WX.thenR (WX.blockR (WX.thenR (WX.thenR (WX.blockR (WX.blockR (WX.thenR (WX.thenR (WX.blockR (WX.thenR (WX.ret_ [] (.bool false) [] (fun fb => by kernel_rfl) trivial ⟨_, rfl, rfl, hS10918.keep⟩))))))))))
       refine WC.condF2 (fun fb => by kernel_rfl) h10920 ?_
       refine WC.skip ?_
       refine WX.next ?_
       refine WC.seq ?_
       refine WC.region ?_
       refine seg 3 [.v (iv t5703.1.Width), .v (iv t5703.1.Height), .v (.slice A5708 t5703.1.Cells.length c5709)] [0, 9, 10, 12, 16, 17, 192, 193, 194] [(0, (.slice A_p0 p0.length c_p0)), (9, (iv (w64 (1 + (Int.tmod (w64 (p1)) 4))))), (10, (iv (w64 (1 + (Int.tmod (w64 (p2)) 4))))), (12, (pt g5710)), (16, (iv x10464)), (17, (iv x10789)), (192, (.agg #[(iv t5703.1.Width), (iv t5703.1.Height), (.slice A5708 t5703.1.Cells.length c5709)])), (193, (iv x10464)), (194, (iv x10789))] [.cell ⟨g5710, 0, none⟩ (iv t5703.1.Width), .cell ⟨g5710, 1, none⟩ (iv t5703.1.Height), .cell ⟨g5710, 2, none⟩ (.slice A5708 t5703.1.Cells.length c5709)] (fun fb => by kernel_rfl) rfl ⟨hS10918.cell 0 rfl 0 rfl, hS10918.cell 0 rfl 1 rfl, hS10918.cell 0 rfl 2 rfl, trivial⟩ ?_
       obtain ⟨t10921, ht10922, hl10795⟩ := bind_some hl10795
       refine WL.call (some 195) 47 #[(.agg #[(iv t5703.1.Width), (iv t5703.1.Height), (.slice A5708 t5703.1.Cells.length c5709)]), (iv x10464), (iv x10789)] (fun fb => by kernel_rfl) (tile_Repeat_calls _ t5703.1 x10464 x10789 A5708 c5709 t10921 _ (hS10918.ow 1).ofO ht10922) (fun v w10923 hR10924 => ?_)
       obtain ⟨A10926, c10927, rfl, hk_⟩ := hR10924
       have hS10925 : St NoS w w10923 [rowR enc_Tile A_p0 c_p0 p0, cel ⟨2, 0, none⟩ (iv mG)] [rowO 3 encInt A10926 c10927 t10921.1.Cells, blk g5710 (.cells #[(iv t5703.1.Width), (iv t5703.1.Height), (.slice A5708 t5703.1.Cells.length c5709)] 27 (0, 0)), rowO 3 encInt A5708 c5709 t5703.1.Cells] := hS10918.call hk_ [] [0, 1] (fun g hg => hg.elim) (by simp) (by decide)
       refine ⟨trivial, ?_⟩
       refine seg 7 [] [0, 9, 10, 12, 16, 17, 196, 197] [(0, (.slice A_p0 p0.length c_p0)), (9, (iv (w64 (1 + (Int.tmod (w64 (p1)) 4))))), (10, (iv (w64 (1 + (Int.tmod (w64 (p2)) 4))))), (12, (pt g5710)), (16, (iv x10464)), (17, (iv x10789)), (196, (.agg #[(iv t10921.1.Width), (iv t10921.1.Height), (.slice A10926 t10921.1.Cells.length c10927)])), (197, (iv t10921.2))] [] (fun fb => by kernel_rfl) rfl trivial ?_
       refine WL.new hS10925 20 [] (fun g => (.pointer (some ⟨g, 0, none⟩))) (.cells #[(iv 0), (iv 0), (.slice none 0 0)] 27 (0, 0)) [] (fun fb g => by kernel_rfl) trivial (fun g10928 w10929 hS10930 => ?_)
       refine ⟨trivial, ?_⟩
       refine WL.store hS10930 0 rfl [(0, (iv t10921.1.Width)), (1, (iv t10921.1.Height)), (2, (.slice A10926 t10921.1.Cells.length c10927))] #[(iv t10921.1.Width), (iv t10921.1.Height), (.slice A10926 t10921.1.Cells.length c10927)] (fun fb => by kernel_rfl) (by kernel_rfl) rfl [1, 2, 3] (by decide) (by decide) (fun w10932 hS10933 => ?_)
       refine ⟨trivial, ?_⟩
       refine seg 10 [] [0, 9, 10, 12, 16, 17, 20, 21] [(0, (.slice A_p0 p0.length c_p0)), (9, (iv (w64 (1 + (Int.tmod (w64 (p1)) 4))))), (10, (iv (w64 (1 + (Int.tmod (w64 (p2)) 4))))), (12, (pt g5710)), (16, (iv x10464)), (17, (iv x10789)), (20, (pt g10928)), (21, (iv t10921.2))] [] (fun fb => by kernel_rfl) rfl trivial ?_
       refine WL.done rfl ?_
       refine WX.next ?_
       refine WC.seq ?_
       refine WC.region ?_
       refine seg 3 [] [0, 9, 10, 12, 16, 17, 20, 200] [(0, (.slice A_p0 p0.length c_p0)), (9, (iv (w64 (1 + (Int.tmod (w64 (p1)) 4))))), (10, (iv (w64 (1 + (Int.tmod (w64 (p2)) 4))))), (12, (pt g5710)), (16, (iv x10464)), (17, (iv x10789)), (20, (pt g10928)), (200, (.bool (t10921.2 != 0)))] [] (fun fb => by kernel_rfl) rfl trivial ?_
       obtain ⟨x10940, hx10941, hl10795⟩ := bind_some hl10795
       refine WL.cutW (T := Bool) 8 (fun t => [(0, (.slice A_p0 p0.length c_p0)), (9, (iv (w64 (1 + (Int.tmod (w64 (p1)) 4))))), (10, (iv (w64 (1 + (Int.tmod (w64 (p2)) 4))))), (12, (pt g5710)), (16, (iv x10464)), (17, (iv x10789)), (205, (.bool t))]) (fun t w1 => (St NoS w w1 [rowR enc_Tile A_p0 c_p0 p0, cel ⟨2, 0, none⟩ (iv mG)] [blk g5710 (.cells #[(iv t5703.1.Width), (iv t5703.1.Height), (.slice A5708 t5703.1.Cells.length c5709)] 27 (0, 0)), rowO 3 encInt A5708 c5709 t5703.1.Cells] ∧ x10940 = t) ∧ CellsOK [] w1) (fun K => ?_) ?_
       ·
        rcases br_some hx10941 with ⟨h10942, hx10941⟩ | ⟨h10942, hx10941⟩
        ·
         refine WL.setB 200 h10942 rfl ?_
         refine seg 8 [] [0, 9, 10, 12, 16, 17, 205] [(0, (.slice A_p0 p0.length c_p0)), (9, (iv (w64 (1 + (Int.tmod (w64 (p1)) 4))))), (10, (iv (w64 (1 + (Int.tmod (w64 (p2)) 4))))), (12, (pt g5710)), (16, (iv x10464)), (17, (iv x10789)), (205, (.bool true))] [] (fun fb => by kernel_rfl) rfl trivial ?_
         injection hx10941 with hx10941
         exact WL.to K true [0, 9, 10, 12, 16, 17, 205] rfl ⟨⟨(hS10933.subR [0, 1]).sub [2, 3] (by decide), hx10941.symm⟩, trivial⟩
        refine WL.setB 200 h10942 rfl ?_
        refine seg 5 [.v (iv t10921.1.Width), .v (iv t10921.1.Height), .v (.slice A10926 t10921.1.Cells.length c10927)] [0, 9, 10, 12, 16, 17, 200, 201, 202] [(0, (.slice A_p0 p0.length c_p0)), (9, (iv (w64 (1 + (Int.tmod (w64 (p1)) 4))))), (10, (iv (w64 (1 + (Int.tmod (w64 (p2)) 4))))), (12, (pt g5710)), (16, (iv x10464)), (17, (iv x10789)), (200, (.bool false)), (201, (.slice A_p0 p0.length c_p0)), (202, (.agg #[(iv t10921.1.Width), (iv t10921.1.Height), (.slice A10926 t10921.1.Cells.length c10927)]))] [.cell ⟨g10928, 0, none⟩ (iv t10921.1.Width), .cell ⟨g10928, 1, none⟩ (iv t10921.1.Height), .cell ⟨g10928, 2, none⟩ (.slice A10926 t10921.1.Cells.length c10927)] (fun fb => by kernel_rfl) rfl ⟨hS10933.cell 0 rfl 0 rfl, hS10933.cell 0 rfl 1 rfl, hS10933.cell 0 rfl 2 rfl, trivial⟩ ?_
        obtain ⟨t10943, ht10944, hx10941⟩ := bind_some hx10941
        refine WL.call (some 203) 48 #[(.slice A_p0 p0.length c_p0), (.agg #[(iv t10921.1.Width), (iv t10921.1.Height), (.slice A10926 t10921.1.Cells.length c10927)])] (fun fb => by kernel_rfl) (tile_Repeats_calls _ p0 t10921.1 A_p0 c_p0 A10926 c10927 t10943 _ (hS10933.rd 0) (hS10933.ow 1).ofO ht10944) (fun v w10945 hR10946 => ?_)
        obtain ⟨rfl, hk_⟩ := hR10946
        have hS10947 := hS10933.keepN hk_
        refine ⟨trivial, ?_⟩
        refine seg 8 [] [0, 9, 10, 12, 16, 17, 205] [(0, (.slice A_p0 p0.length c_p0)), (9, (iv (w64 (1 + (Int.tmod (w64 (p1)) 4))))), (10, (iv (w64 (1 + (Int.tmod (w64 (p2)) 4))))), (12, (pt g5710)), (16, (iv x10464)), (17, (iv x10789)), (205, (.bool (!t10943)))] [] (fun fb => by kernel_rfl) rfl trivial ?_
        injection hx10941 with hx10941
        exact WL.to K (!t10943) [0, 9, 10, 12, 16, 17, 205] rfl ⟨⟨(hS10947.subR [0, 1]).sub [2, 3] (by decide), hx10941.symm⟩, trivial⟩
       rintro y10948 w10950 ⟨⟨hS10951, hq10949⟩, hF10952⟩
       subst hq10949
       refine WL.done rfl ?_
       refine WX.next ?_
       rcases br_some hl10795 with ⟨h10953, hl10795⟩ | ⟨h10953, hl10795⟩
       ·refine WC.condT2 (fun fb => by kernel_rfl) h10953 ?_
        refine WC.seq ?_
        refine WC.region ?_
        refine seg 1 [] [8] [(8, (.bool false))] [] (fun fb => by kernel_rfl) rfl trivial ?_
        refine WL.done rfl ?_
        refine WX.next ?_
        refine WC.ret ?_
        injection hl10795 with hl10795
        subst hl10795
        injection hl10470 with hl10470
        subst hl10470
        injection hf with hf
        subst hf
        exact WX.blockR (WX.thenR (WX.thenR (WX.blockR (WX.blockR (WX.thenR (WX.thenR (WX.blockR (WX.thenR (WX.ret_ [] (.bool false) [] (fun fb => by kernel_rfl) trivial ⟨_, rfl, rfl, hS10951.keep⟩)))))))))
       refine WC.condF2 (fun fb => by kernel_rfl) h10953 ?_
       refine WC.skip ?_
       refine WX.blockN (WX.next ?_)
       refine WC.region ?_
       refine seg 4 [] [0, 9, 10, 12, 16, 17] [(0, (.slice A_p0 p0.length c_p0)), (9, (iv (w64 (1 + (Int.tmod (w64 (p1)) 4))))), (10, (iv (w64 (1 + (Int.tmod (w64 (p2)) 4))))), (12, (pt g5710)), (16, (iv x10464)), (17, (iv (w64 (x10789 + (w64 (1 + (Int.tmod (w64 (p2)) 4)))))))] [] (fun fb => by kernel_rfl) rfl trivial ?_
       refine WL.done rfl ?_
       exact WX.again k10792 (Nat.lt_succ_self _) (w64 (x10789 + (w64 (1 + (Int.tmod (w64 (p2)) 4))))) [0, 9, 10, 12, 16, 17] rfl ⟨(hS10951.subR [0, 1]).sub [0, 1] (by decide), hl10795⟩
      refine WC.condF2 (fun fb => by kernel_rfl) h10796 ?_
      refine WC.exit ?_
      injection hl10795 with hl10795
      exact WX.thenX (WX.thenX (WX.blockHere (WX.to Kx10790 () [0, 9, 10, 12, 16] rfl ⟨(hS10794.subR [0, 1]).sub [0, 1] (by decide), hl10795.symm⟩)))
    rintro y10957 w10954 ⟨hS10955, hq10956⟩
    subst hq10956
    have hl10470 := sum_inr hl10470
    refine WX.blockN (WX.next ?_)
    refine WC.region ?_
    refine seg 4 [] [0, 9, 10, 12, 16] [(0, (.slice A_p0 p0.length c_p0)), (9, (iv (w64 (1 + (Int.tmod (w64 (p1)) 4))))), (10, (iv (w64 (1 + (Int.tmod (w64 (p2)) 4))))), (12, (pt g5710)), (16, (iv (w64 (x10464 + (w64 (1 + (Int.tmod (w64 (p1)) 4)))))))] [] (fun fb => by kernel_rfl) rfl trivial ?_
    refine WL.done rfl ?_
    exact WX.again k10467 (Nat.lt_succ_self _) (w64 (x10464 + (w64 (1 + (Int.tmod (w64 (p1)) 4))))) [0, 9, 10, 12, 16] rfl ⟨(hS10955.subR [0, 1]).sub [0, 1] (by decide), hl10470⟩
   refine WC.condF2 (fun fb => by kernel_rfl) h10471 ?_
   refine WC.exit ?_
   injection hl10470 with hl10470
   exact WX.thenX (WX.thenX (WX.blockHere (WX.to Kx10465 () [] rfl ⟨(hS10469.subR [0, 1]).sub [] (by decide), hl10470.symm⟩)))
 rintro y10962 w10959 ⟨hS10960, hq10961⟩
 subst hq10961
 have hf := sum_inr hf
 refine WX.next ?_
 refine WC.seq ?_
 refine WC.region ?_
 obtain ⟨t10964, ht10965, hf⟩ := bind_some hf
 refine WL.call (some 206) 14 #[] (fun fb => by kernel_rfl) (law03_awake_calls _ mG t10964 _ (hS10960.rd 1) ht10965) (fun v w10966 hR10967 => ?_)
 obtain ⟨rfl, hk_⟩ := hR10967
 have hS10968 := hS10960.keepN hk_
 refine ⟨trivial, ?_⟩
 refine seg 2 [] [8] [(8, (.bool t10964))] [] (fun fb => by kernel_rfl) rfl trivial ?_
 refine WL.done rfl ?_
 refine WX.next ?_
 refine WC.ret ?_
 injection hf with hf
 subst hf
 exact WX.ret_ [] (.bool t10964) [] (fun fb => by kernel_rfl) trivial ⟨_, rfl, rfl, hS10968.keep⟩
end Gp
