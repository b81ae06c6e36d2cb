/- Walks: each function of the program computes its plain function. -/
import Derived.Test.YtmdkdigmkcpceaaGx4
set_option linter.unusedVariables false
set_option linter.unusedSimpArgs false
set_option maxHeartbeats 4000000
namespace Gp
open Go Gw Go.Proofs
theorem top_TopDecided_calls (k : Nat) (p0 : A3_Tile) (p1 : Int) (p2 : Pattern) (A_p2_Cells : Option Addr) (c_p2_Cells : Nat) (r : Bool) (w : World) (hR0 : RO NoS w (rowR encInt A_p2_Cells c_p2_Cells p2.Cells)) (hf : top_TopDecided k p0 p1 p2 = some r) :
  CallsR Try.prog 9 #[(.agg #[(iv p0.e0.N), (iv p0.e0.E), (iv p0.e0.S), (iv p0.e0.W), (iv p0.e1.N), (iv p0.e1.E), (iv p0.e1.S), (iv p0.e1.W), (iv p0.e2.N), (iv p0.e2.E), (iv p0.e2.S), (iv p0.e2.W)]), (iv p1), (.agg #[(iv p2.Width), (iv p2.Height), (.slice A_p2_Cells p2.Cells.length c_p2_Cells)])] w (fun v w' => v = (.bool r) ∧ Keeps NoS w w') := by
 have hS : St NoS w w [rowR encInt A_p2_Cells c_p2_Cells p2.Cells] [] := St.init (ro_cons hR0 (ro_nil _ _))
 refine enter 90 Try.func9 rfl Try.ntmps9 rfl ?_
 unfold top_TopDecided at hf
 refine WC.seq ?_
 refine WC.region ?_
 refine WL.new hS 3 [] (fun g => (.pointer (some ⟨g, 0, none⟩))) (.cells #[(iv p0.e0.N), (iv p0.e0.E), (iv p0.e0.S), (iv p0.e0.W), (iv p0.e1.N), (iv p0.e1.E), (iv p0.e1.S), (iv p0.e1.W), (iv p0.e2.N), (iv p0.e2.E), (iv p0.e2.S), (iv p0.e2.W)] 59 (0, 0)) [] (fun fb g => by kernel_rfl) trivial (fun g1 w2 hS3 => ?_)
 refine ⟨trivial, ?_⟩
 refine WL.new hS3 5 [] (fun g => (.pointer (some ⟨g, 0, none⟩))) (.cells #[(iv p2.Width), (iv p2.Height), (.slice A_p2_Cells p2.Cells.length c_p2_Cells)] 38 (0, 0)) [] (fun fb g => by kernel_rfl) trivial (fun g5 w6 hS7 => ?_)
 refine ⟨trivial, ?_⟩
 refine seg 3 [] [1, 3, 5] [(1, (iv p1)), (3, (pt g1)), (5, (pt g5))] [] (fun fb => by kernel_rfl) rfl trivial ?_
 refine WL.done rfl ?_
 refine WX.next ?_
 refine WC.seq ?_
 refine WC.region ?_
 refine seg 2 [.v (iv p0.e0.N), .v (iv p0.e0.E), .v (iv p0.e0.S), .v (iv p0.e0.W), .v (iv p0.e1.N), .v (iv p0.e1.E), .v (iv p0.e1.S), .v (iv p0.e1.W), .v (iv p0.e2.N), .v (iv p0.e2.E), .v (iv p0.e2.S), .v (iv p0.e2.W)] [5, 12, 13] [(5, (pt g5)), (12, (.agg #[(iv p0.e0.N), (iv p0.e0.E), (iv p0.e0.S), (iv p0.e0.W), (iv p0.e1.N), (iv p0.e1.E), (iv p0.e1.S), (iv p0.e1.W), (iv p0.e2.N), (iv p0.e2.E), (iv p0.e2.S), (iv p0.e2.W)])), (13, (iv p1))] [.cell ⟨g1, 0, none⟩ (iv p0.e0.N), .cell ⟨g1, 1, none⟩ (iv p0.e0.E), .cell ⟨g1, 2, none⟩ (iv p0.e0.S), .cell ⟨g1, 3, none⟩ (iv p0.e0.W), .cell ⟨g1, 4, none⟩ (iv p0.e1.N), .cell ⟨g1, 5, none⟩ (iv p0.e1.E), .cell ⟨g1, 6, none⟩ (iv p0.e1.S), .cell ⟨g1, 7, none⟩ (iv p0.e1.W), .cell ⟨g1, 8, none⟩ (iv p0.e2.N), .cell ⟨g1, 9, none⟩ (iv p0.e2.E), .cell ⟨g1, 10, none⟩ (iv p0.e2.S), .cell ⟨g1, 11, none⟩ (iv p0.e2.W)] (fun fb => by kernel_rfl) rfl ⟨hS7.cell 1 rfl 0 rfl, hS7.cell 1 rfl 1 rfl, hS7.cell 1 rfl 2 rfl, hS7.cell 1 rfl 3 rfl, hS7.cell 1 rfl 4 rfl, hS7.cell 1 rfl 5 rfl, hS7.cell 1 rfl 6 rfl, hS7.cell 1 rfl 7 rfl, hS7.cell 1 rfl 8 rfl, hS7.cell 1 rfl 9 rfl, hS7.cell 1 rfl 10 rfl, hS7.cell 1 rfl 11 rfl, trivial⟩ ?_
 obtain ⟨t1128, ht1129, hf⟩ := bind_some hf
 refine WL.call (some 14) 31 #[(.agg #[(iv p0.e0.N), (iv p0.e0.E), (iv p0.e0.S), (iv p0.e0.W), (iv p0.e1.N), (iv p0.e1.E), (iv p0.e1.S), (iv p0.e1.W), (iv p0.e2.N), (iv p0.e2.E), (iv p0.e2.S), (iv p0.e2.W)]), (iv p1)] (fun fb => by kernel_rfl) (top_small_calls _ p0 p1 t1128 _ ht1129) (fun v w1130 hR1131 => ?_)
 obtain ⟨A1133, c1134, rfl, hk_⟩ := hR1131
 have hS1132 : St NoS w w1130 [rowR encInt A_p2_Cells c_p2_Cells p2.Cells] [rowO 24 enc_Tile A1133 c1134 t1128, blk g5 (.cells #[(iv p2.Width), (iv p2.Height), (.slice A_p2_Cells p2.Cells.length c_p2_Cells)] 38 (0, 0)), blk g1 (.cells #[(iv p0.e0.N), (iv p0.e0.E), (iv p0.e0.S), (iv p0.e0.W), (iv p0.e1.N), (iv p0.e1.E), (iv p0.e1.S), (iv p0.e1.W), (iv p0.e2.N), (iv p0.e2.E), (iv p0.e2.S), (iv p0.e2.W)] 59 (0, 0))] := hS7.call hk_ [] [0, 1] (fun g hg => hg.elim) (by simp) (by decide)
 refine ⟨trivial, ?_⟩
 refine seg 4 [] [5, 7] [(5, (pt g5)), (7, (.slice A1133 t1128.length c1134))] [] (fun fb => by kernel_rfl) rfl trivial ?_
 refine WL.done rfl ?_
 refine WX.next ?_
 refine WC.seq ?_
 refine WC.region ?_
 refine seg 1 [] [5, 7, 16] [(5, (pt g5)), (7, (.slice A1133 t1128.length c1134)), (16, (.slice A1133 t1128.length c1134))] [] (fun fb => by kernel_rfl) rfl trivial ?_
 obtain ⟨t10078, ht10079, hf⟩ := bind_some hf
 refine WL.call (some 17) 22 #[(.slice A1133 t1128.length c1134)] (fun fb => by kernel_rfl) (decide_Decide_calls _ t1128 A1133 c1134 t10078 _ (hS1132.ow 0).ofO ht10079) (fun v w10080 hR10081 => ?_)
 obtain ⟨A10083, c10084, rfl, hk_⟩ := hR10081
 have hS10082 : St NoS w w10080 [rowR encInt A_p2_Cells c_p2_Cells p2.Cells] [rowO 3 encInt A10083 c10084 t10078.1.Torus.Cells, rowO 24 enc_Tile A1133 c1134 t1128, blk g5 (.cells #[(iv p2.Width), (iv p2.Height), (.slice A_p2_Cells p2.Cells.length c_p2_Cells)] 38 (0, 0)), blk g1 (.cells #[(iv p0.e0.N), (iv p0.e0.E), (iv p0.e0.S), (iv p0.e0.W), (iv p0.e1.N), (iv p0.e1.E), (iv p0.e1.S), (iv p0.e1.W), (iv p0.e2.N), (iv p0.e2.E), (iv p0.e2.S), (iv p0.e2.W)] 59 (0, 0))] := hS1132.call hk_ [] [0, 1, 2] (fun g hg => hg.elim) (by simp) (by decide)
 refine ⟨trivial, ?_⟩
 refine seg 5 [] [5, 7, 18, 19] [(5, (pt g5)), (7, (.slice A1133 t1128.length c1134)), (18, (.agg #[(.bool t10078.1.Fills), (iv t10078.1.Torus.Width), (iv t10078.1.Torus.Height), (.slice A10083 t10078.1.Torus.Cells.length c10084), (iv t10078.1.Side)])), (19, (iv t10078.2))] [] (fun fb => by kernel_rfl) rfl trivial ?_
 refine WL.new hS10082 8 [] (fun g => (.pointer (some ⟨g, 0, none⟩))) (.cells #[(.bool false), (iv 0), (iv 0), (.slice none 0 0), (iv 0)] 40 (0, 0)) [] (fun fb g => by kernel_rfl) trivial (fun g10085 w10086 hS10087 => ?_)
 refine ⟨trivial, ?_⟩
 refine WL.store hS10087 0 rfl [(0, (.bool t10078.1.Fills)), (1, (iv t10078.1.Torus.Width)), (2, (iv t10078.1.Torus.Height)), (3, (.slice A10083 t10078.1.Torus.Cells.length c10084)), (4, (iv t10078.1.Side))] #[(.bool t10078.1.Fills), (iv t10078.1.Torus.Width), (iv t10078.1.Torus.Height), (.slice A10083 t10078.1.Torus.Cells.length c10084), (iv t10078.1.Side)] (fun fb => by kernel_rfl) (by kernel_rfl) rfl [1, 2, 3, 4] (by decide) (by decide) (fun w10089 hS10090 => ?_)
 refine ⟨trivial, ?_⟩
 refine seg 8 [] [5, 7, 8, 9] [(5, (pt g5)), (7, (.slice A1133 t1128.length c1134)), (8, (pt g10085)), (9, (iv t10078.2))] [] (fun fb => by kernel_rfl) rfl trivial ?_
 refine WL.done rfl ?_
 refine WX.next ?_
 refine WC.seq ?_
 refine WC.region ?_
 refine seg 2 [.v (.bool t10078.1.Fills), .v (iv t10078.1.Torus.Width), .v (iv t10078.1.Torus.Height), .v (.slice A10083 t10078.1.Torus.Cells.length c10084), .v (iv t10078.1.Side)] [5, 7, 8, 9, 21, 22] [(5, (pt g5)), (7, (.slice A1133 t1128.length c1134)), (8, (pt g10085)), (9, (iv t10078.2)), (21, (.slice A1133 t1128.length c1134)), (22, (.agg #[(.bool t10078.1.Fills), (iv t10078.1.Torus.Width), (iv t10078.1.Torus.Height), (.slice A10083 t10078.1.Torus.Cells.length c10084), (iv t10078.1.Side)]))] [.cell ⟨g10085, 0, none⟩ (.bool t10078.1.Fills), .cell ⟨g10085, 1, none⟩ (iv t10078.1.Torus.Width), .cell ⟨g10085, 2, none⟩ (iv t10078.1.Torus.Height), .cell ⟨g10085, 3, none⟩ (.slice A10083 t10078.1.Torus.Cells.length c10084), .cell ⟨g10085, 4, none⟩ (iv t10078.1.Side)] (fun fb => by kernel_rfl) rfl ⟨hS10090.cell 0 rfl 0 rfl, hS10090.cell 0 rfl 1 rfl, hS10090.cell 0 rfl 2 rfl, hS10090.cell 0 rfl 3 rfl, hS10090.cell 0 rfl 4 rfl, trivial⟩ ?_
 obtain ⟨t10536, ht10537, hf⟩ := bind_some hf
 refine WL.call (some 23) 18 #[(.slice A1133 t1128.length c1134), (.agg #[(.bool t10078.1.Fills), (iv t10078.1.Torus.Width), (iv t10078.1.Torus.Height), (.slice A10083 t10078.1.Torus.Cells.length c10084), (iv t10078.1.Side)])] (fun fb => by kernel_rfl) (decide_Check_calls _ t1128 t10078.1 A1133 c1134 A10083 c10084 t10536 _ (hS10090.ow 2).ofO (hS10090.ow 1).ofO ht10537) (fun v w10538 hR10539 => ?_)
 obtain ⟨rfl, hk_⟩ := hR10539
 have hS10540 := hS10090.keepN hk_
 refine ⟨trivial, ?_⟩
 refine seg 8 [] [5, 7, 8, 9, 10, 11] [(5, (pt g5)), (7, (.slice A1133 t1128.length c1134)), (8, (pt g10085)), (9, (iv t10078.2)), (10, (.bool t10536.1)), (11, (iv t10536.2))] [] (fun fb => by kernel_rfl) rfl trivial ?_
 refine WL.done rfl ?_
 refine WX.next ?_
 refine WC.seq ?_
 refine WC.seq ?_
 refine WC.region ?_
 refine seg 3 [] [5, 7, 8, 10, 11, 28] [(5, (pt g5)), (7, (.slice A1133 t1128.length c1134)), (8, (pt g10085)), (10, (.bool t10536.1)), (11, (iv t10536.2)), (28, (.bool (t10078.2 != 0)))] [] (fun fb => by kernel_rfl) rfl trivial ?_
 refine WL.cutV (T := Bool) 6 (fun t => [(31, (.bool t)), (5, (pt g5)), (7, (.slice A1133 t1128.length c1134)), (8, (pt g10085)), (10, (.bool t10536.1))]) (fun t => ((t10078.2 != 0) || (t10536.2 != 0)) = t) (fun K => ?_) ?_
 ·
  rcases Bool.eq_false_or_eq_true (t10078.2 != 0) with h10541 | h10541
  ·
   refine WL.setB 28 h10541 rfl ?_
   refine seg 6 [] [5, 7, 8, 10, 31] [(5, (pt g5)), (7, (.slice A1133 t1128.length c1134)), (8, (pt g10085)), (10, (.bool t10536.1)), (31, (.bool true))] [] (fun fb => by kernel_rfl) rfl trivial ?_
   exact WL.toV K true [31, 5, 7, 8, 10] rfl (by first | (rw [h10541]; done) | (rw [h10541]; rfl))
  refine WL.setB 28 h10541 rfl ?_
  refine seg 6 [] [5, 7, 8, 10, 31] [(5, (pt g5)), (7, (.slice A1133 t1128.length c1134)), (8, (pt g10085)), (10, (.bool t10536.1)), (31, (.bool (t10536.2 != 0)))] [] (fun fb => by kernel_rfl) rfl trivial ?_
  exact WL.toV K (t10536.2 != 0) [31, 5, 7, 8, 10] rfl (by first | (rw [h10541]; done) | (rw [h10541]; rfl))
 rintro b10542 rfl
 refine seg 7 [] [5, 7, 8, 10, 32] [(5, (pt g5)), (7, (.slice A1133 t1128.length c1134)), (8, (pt g10085)), (10, (.bool t10536.1)), (32, (.bool ((t10078.2 != 0) || (t10536.2 != 0))))] [] (fun fb => by kernel_rfl) rfl trivial ?_
 refine WL.cutV (T := Bool) 10 (fun t => [(35, (.bool t)), (5, (pt g5)), (7, (.slice A1133 t1128.length c1134)), (8, (pt g10085))]) (fun t => (((t10078.2 != 0) || (t10536.2 != 0)) || (!t10536.1)) = t) (fun K => ?_) ?_
 ·
  rcases Bool.eq_false_or_eq_true ((t10078.2 != 0) || (t10536.2 != 0)) with h10543 | h10543
  ·
   refine WL.setB 32 h10543 rfl ?_
   refine seg 10 [] [5, 7, 8, 35] [(5, (pt g5)), (7, (.slice A1133 t1128.length c1134)), (8, (pt g10085)), (35, (.bool true))] [] (fun fb => by kernel_rfl) rfl trivial ?_
   exact WL.toV K true [35, 5, 7, 8] rfl (by first | (rw [h10543]; done) | (rw [h10543]; rfl))
  refine WL.setB 32 h10543 rfl ?_
  refine seg 10 [] [5, 7, 8, 35] [(5, (pt g5)), (7, (.slice A1133 t1128.length c1134)), (8, (pt g10085)), (35, (.bool (!t10536.1)))] [] (fun fb => by kernel_rfl) rfl trivial ?_
  exact WL.toV K (!t10536.1) [35, 5, 7, 8] rfl (by first | (rw [h10543]; done) | (rw [h10543]; rfl))
 rintro b10544 rfl
 refine WL.done rfl ?_
 refine WX.next ?_
 rcases br_some hf with ⟨h10545, hf⟩ | ⟨h10545, hf⟩
 ·refine WC.condT2 (fun fb => by kernel_rfl) h10545 ?_
  refine WC.seq ?_
  refine WC.region ?_
  refine seg 1 [] [6] [(6, (.bool false))] [] (fun fb => by kernel_rfl) rfl trivial ?_
  refine WL.done rfl ?_
  refine WX.next ?_
  refine WC.ret ?_
  injection hf with hf
  subst hf
  exact WX.thenR (WX.ret_ [] (.bool false) [] (fun fb => by kernel_rfl) trivial ⟨_, rfl, rfl, hS10540.keep⟩)
 refine WC.condF2 (fun fb => by kernel_rfl) h10545 ?_
 refine WC.skip ?_
 refine WX.next ?_
 refine WC.seq ?_
 refine WC.seq ?_
 refine WC.region ?_
 refine seg 2 [.v (.bool t10078.1.Fills)] [5, 7, 8, 37] [(5, (pt g5)), (7, (.slice A1133 t1128.length c1134)), (8, (pt g10085)), (37, (.bool t10078.1.Fills))] [.cell ⟨g10085, 0, none⟩ (.bool t10078.1.Fills)] (fun fb => by kernel_rfl) rfl ⟨hS10540.cell 0 rfl 0 rfl, trivial⟩ ?_
 refine WL.done rfl ?_
 refine WX.next ?_
 rcases br_some hf with ⟨h10546, hf⟩ | ⟨h10546, hf⟩
 ·refine WC.condT2 (fun fb => by kernel_rfl) h10546 ?_
  refine WC.seq ?_
  refine WC.region ?_
  refine seg 4 [.v (iv t10078.1.Side)] [7, 8, 41] [(7, (.slice A1133 t1128.length c1134)), (8, (pt g10085)), (41, (.bool (t10078.1.Side == 0)))] [.cell ⟨g10085, 4, none⟩ (iv t10078.1.Side)] (fun fb => by kernel_rfl) rfl ⟨hS10540.cell 0 rfl 4 rfl, trivial⟩ ?_
  obtain ⟨x11995, hx11996, hf⟩ := bind_some hf
  refine WL.cutW (T := Bool) 9 (fun t => [(46, (.bool t))]) (fun t w1 => (St NoS w w1 [rowR encInt A_p2_Cells c_p2_Cells p2.Cells] [] ∧ x11995 = t) ∧ CellsOK [] w1) (fun K => ?_) ?_
  ·
   rcases br_some hx11996 with ⟨h11997, hx11996⟩ | ⟨h11997, hx11996⟩
   ·
    refine WL.setB 41 h11997 rfl ?_
    refine seg 7 [.v (iv t10078.1.Torus.Width), .v (iv t10078.1.Torus.Height), .v (.slice A10083 t10078.1.Torus.Cells.length c10084)] [41, 42, 44] [(41, (.bool true)), (42, (.slice A1133 t1128.length c1134)), (44, (.agg #[(iv t10078.1.Torus.Width), (iv t10078.1.Torus.Height), (.slice A10083 t10078.1.Torus.Cells.length c10084)]))] [.cell ⟨g10085, 1, none⟩ (iv t10078.1.Torus.Width), .cell ⟨g10085, 2, none⟩ (iv t10078.1.Torus.Height), .cell ⟨g10085, 3, none⟩ (.slice A10083 t10078.1.Torus.Cells.length c10084)] (fun fb => by kernel_rfl) rfl ⟨hS10540.cell 0 rfl 1 rfl, hS10540.cell 0 rfl 2 rfl, hS10540.cell 0 rfl 3 rfl, trivial⟩ ?_
    obtain ⟨t11998, ht11999, hx11996⟩ := bind_some hx11996
    refine WL.call (some 45) 29 #[(.slice A1133 t1128.length c1134), (.agg #[(iv t10078.1.Torus.Width), (iv t10078.1.Torus.Height), (.slice A10083 t10078.1.Torus.Cells.length c10084)]), (.bool true)] (fun fb => by kernel_rfl) (top_of_calls _ t1128 t10078.1.Torus true A1133 c1134 A10083 c10084 t11998 _ (hS10540.ow 2).ofO (hS10540.ow 1).ofO ht11999) (fun v w12000 hR12001 => ?_)
    obtain ⟨rfl, hk_⟩ := hR12001
    have hS12002 := hS10540.keepN hk_
    refine ⟨trivial, ?_⟩
    refine seg 9 [] [46] [(46, (.bool t11998))] [] (fun fb => by kernel_rfl) rfl trivial ?_
    injection hx11996 with hx11996
    exact WL.to K t11998 [46] rfl ⟨⟨(hS12002.subR [0]).sub [] (by decide), hx11996.symm⟩, trivial⟩
   refine WL.setB 41 h11997 rfl ?_
   refine seg 9 [] [46] [(46, (.bool false))] [] (fun fb => by kernel_rfl) rfl trivial ?_
   injection hx11996 with hx11996
   exact WL.to K false [46] rfl ⟨⟨(hS10540.subR [0]).sub [] (by decide), hx11996.symm⟩, trivial⟩
  rintro y12003 w12005 ⟨⟨hS12006, hq12004⟩, hF12007⟩
  subst hq12004
  refine seg 10 [] [47] [(47, (.bool x11995))] [] (fun fb => by kernel_rfl) rfl trivial ?_
  obtain ⟨x13244, hx13245, hf⟩ := bind_some hf
  refine WL.cutW (T := Bool) 12 (fun t => [(49, (.bool t))]) (fun t w1 => (St NoS w w1 [rowR encInt A_p2_Cells c_p2_Cells p2.Cells] [] ∧ x13244 = t) ∧ CellsOK [] w1) (fun K => ?_) ?_
  ·
   rcases br_some hx13245 with ⟨h13246, hx13245⟩ | ⟨h13246, hx13245⟩
   ·
    refine WL.setB 47 h13246 rfl ?_
    obtain ⟨t13247, ht13248, hx13245⟩ := bind_some hx13245
    refine WL.call (some 48) 32 #[] (fun fb => by kernel_rfl) (top_decides_calls _ t13247 _ ht13248) (fun v w13249 hR13250 => ?_)
    obtain ⟨rfl, hk_⟩ := hR13250
    have hS13251 := hS12006.keepN hk_
    refine ⟨trivial, ?_⟩
    refine seg 12 [] [49] [(49, (.bool t13247))] [] (fun fb => by kernel_rfl) rfl trivial ?_
    injection hx13245 with hx13245
    exact WL.to K t13247 [49] rfl ⟨⟨(hS13251.subR [0]).sub [] (by decide), hx13245.symm⟩, trivial⟩
   refine WL.setB 47 h13246 rfl ?_
   refine seg 12 [] [49] [(49, (.bool false))] [] (fun fb => by kernel_rfl) rfl trivial ?_
   injection hx13245 with hx13245
   exact WL.to K false [49] rfl ⟨⟨(hS12006.subR [0]).sub [] (by decide), hx13245.symm⟩, trivial⟩
  rintro y13252 w13254 ⟨⟨hS13255, hq13253⟩, hF13256⟩
  subst hq13253
  refine seg 13 [] [6] [(6, (.bool x13244))] [] (fun fb => by kernel_rfl) rfl trivial ?_
  refine WL.done rfl ?_
  refine WX.next ?_
  refine WC.ret ?_
  injection hf with hf
  subst hf
  exact WX.thenR (WX.ret_ [] (.bool x13244) [] (fun fb => by kernel_rfl) trivial ⟨_, rfl, rfl, hS13255.keep⟩)
 refine WC.condF2 (fun fb => by kernel_rfl) h10546 ?_
 refine WC.skip ?_
 refine WX.next ?_
 refine WC.seq ?_
 refine WC.seq ?_
 refine WC.region ?_
 refine seg 4 [.v (iv t10078.1.Side)] [5, 7, 8, 53] [(5, (pt g5)), (7, (.slice A1133 t1128.length c1134)), (8, (pt g10085)), (53, (.bool (decide (t10078.1.Side < 1))))] [.cell ⟨g10085, 4, none⟩ (iv t10078.1.Side)] (fun fb => by kernel_rfl) rfl ⟨hS10540.cell 0 rfl 4 rfl, trivial⟩ ?_
 refine WL.cutV (T := Bool) 8 (fun t => [(57, (.bool t)), (5, (pt g5)), (7, (.slice A1133 t1128.length c1134)), (8, (pt g10085))]) (fun t => ((decide (t10078.1.Side < 1)) || (decide (t10078.1.Side > 8))) = t) (fun K => ?_) ?_
 ·
  rcases Bool.eq_false_or_eq_true (decide (t10078.1.Side < 1)) with h13257 | h13257
  ·
   refine WL.setB 53 h13257 rfl ?_
   refine seg 8 [] [5, 7, 8, 57] [(5, (pt g5)), (7, (.slice A1133 t1128.length c1134)), (8, (pt g10085)), (57, (.bool true))] [] (fun fb => by kernel_rfl) rfl trivial ?_
   exact WL.toV K true [57, 5, 7, 8] rfl (by first | (rw [h13257]; done) | (rw [h13257]; rfl))
  refine WL.setB 53 h13257 rfl ?_
  refine seg 8 [.v (iv t10078.1.Side)] [5, 7, 8, 57] [(5, (pt g5)), (7, (.slice A1133 t1128.length c1134)), (8, (pt g10085)), (57, (.bool (decide (t10078.1.Side > 8))))] [.cell ⟨g10085, 4, none⟩ (iv t10078.1.Side)] (fun fb => by kernel_rfl) rfl ⟨hS10540.cell 0 rfl 4 rfl, trivial⟩ ?_
  exact WL.toV K (decide (t10078.1.Side > 8)) [57, 5, 7, 8] rfl (by first | (rw [h13257]; done) | (rw [h13257]; rfl))
 rintro b13258 rfl
 refine WL.done rfl ?_
 refine WX.next ?_
 rcases br_some hf with ⟨h13259, hf⟩ | ⟨h13259, hf⟩
 ·refine WC.condT2 (fun fb => by kernel_rfl) h13259 ?_
  refine WC.seq ?_
  refine WC.region ?_
  refine seg 1 [] [6] [(6, (.bool false))] [] (fun fb => by kernel_rfl) rfl trivial ?_
  refine WL.done rfl ?_
  refine WX.next ?_
  refine WC.ret ?_
  injection hf with hf
  subst hf
  exact WX.thenR (WX.ret_ [] (.bool false) [] (fun fb => by kernel_rfl) trivial ⟨_, rfl, rfl, hS10540.keep⟩)
 refine WC.condF2 (fun fb => by kernel_rfl) h13259 ?_
 refine WC.skip ?_
 refine WX.next ?_
 refine WC.seq ?_
 refine WC.seq ?_
 refine WC.region ?_
 refine seg 4 [.v (.slice A_p2_Cells p2.Cells.length c_p2_Cells)] [5, 7, 8, 61] [(5, (pt g5)), (7, (.slice A1133 t1128.length c1134)), (8, (pt g10085)), (61, (.bool (decide ((p2.Cells.length : Int) > 5000))))] [.cell ⟨g5, 2, none⟩ (.slice A_p2_Cells p2.Cells.length c_p2_Cells)] (fun fb => by kernel_rfl) rfl ⟨hS10540.cell 3 rfl 2 rfl, trivial⟩ ?_
 refine WL.done rfl ?_
 refine WX.next ?_
 rcases br_some hf with ⟨h13260, hf⟩ | ⟨h13260, hf⟩
 ·refine WC.condT2 (fun fb => by kernel_rfl) h13260 ?_
  refine WC.seq ?_
  refine WC.region ?_
  obtain ⟨t13261, ht13262, hf⟩ := bind_some hf
  refine WL.call (some 62) 32 #[] (fun fb => by kernel_rfl) (top_decides_calls _ t13261 _ ht13262) (fun v w13263 hR13264 => ?_)
  obtain ⟨rfl, hk_⟩ := hR13264
  have hS13265 := hS10540.keepN hk_
  refine ⟨trivial, ?_⟩
  refine seg 2 [] [6] [(6, (.bool t13261))] [] (fun fb => by kernel_rfl) rfl trivial ?_
  refine WL.done rfl ?_
  refine WX.next ?_
  refine WC.ret ?_
  injection hf with hf
  subst hf
  exact WX.thenR (WX.ret_ [] (.bool t13261) [] (fun fb => by kernel_rfl) trivial ⟨_, rfl, rfl, hS13265.keep⟩)
 refine WC.condF2 (fun fb => by kernel_rfl) h13260 ?_
 refine WC.skip ?_
 refine WX.next ?_
 refine WC.seq ?_
 refine WC.region ?_
 refine seg 2 [.v (iv p2.Width), .v (iv p2.Height), .v (.slice A_p2_Cells p2.Cells.length c_p2_Cells)] [5, 7, 8, 63, 64] [(5, (pt g5)), (7, (.slice A1133 t1128.length c1134)), (8, (pt g10085)), (63, (.slice A1133 t1128.length c1134)), (64, (.agg #[(iv p2.Width), (iv p2.Height), (.slice A_p2_Cells p2.Cells.length c_p2_Cells)]))] [.cell ⟨g5, 0, none⟩ (iv p2.Width), .cell ⟨g5, 1, none⟩ (iv p2.Height), .cell ⟨g5, 2, none⟩ (.slice A_p2_Cells p2.Cells.length c_p2_Cells)] (fun fb => by kernel_rfl) rfl ⟨hS10540.cell 3 rfl 0 rfl, hS10540.cell 3 rfl 1 rfl, hS10540.cell 3 rfl 2 rfl, trivial⟩ ?_
 obtain ⟨t13266, ht13267, hf⟩ := bind_some hf
 refine WL.call (some 65) 29 #[(.slice A1133 t1128.length c1134), (.agg #[(iv p2.Width), (iv p2.Height), (.slice A_p2_Cells p2.Cells.length c_p2_Cells)]), (.bool true)] (fun fb => by kernel_rfl) (top_of_calls _ t1128 p2 true A1133 c1134 A_p2_Cells c_p2_Cells t13266 _ (hS10540.ow 2).ofO (hS10540.rd 0) ht13267) (fun v w13268 hR13269 => ?_)
 obtain ⟨rfl, hk_⟩ := hR13269
 have hS13270 := hS10540.keepN hk_
 refine ⟨trivial, ?_⟩
 refine seg 5 [] [5, 7, 8, 67] [(5, (pt g5)), (7, (.slice A1133 t1128.length c1134)), (8, (pt g10085)), (67, (.bool (!t13266)))] [] (fun fb => by kernel_rfl) rfl trivial ?_
 obtain ⟨x13293, hx13294, hf⟩ := bind_some hf
 refine WL.cutW (T := Bool) 24 (fun t => [(86, (.bool t))]) (fun t w1 => (St NoS w w1 [rowR encInt A_p2_Cells c_p2_Cells p2.Cells] [] ∧ x13293 = t) ∧ CellsOK [] w1) (fun K => ?_) ?_
 ·
  rcases br_some hx13294 with ⟨h13295, hx13294⟩ | ⟨h13295, hx13294⟩
  ·
   refine WL.setB 67 h13295 rfl ?_
   refine seg 11 [.v (iv p2.Width), .v (iv t10078.1.Side)] [5, 7, 8, 67, 73] [(5, (pt g5)), (7, (.slice A1133 t1128.length c1134)), (8, (pt g10085)), (67, (.bool true)), (73, (.bool (decide (p2.Width < t10078.1.Side))))] [.cell ⟨g5, 0, none⟩ (iv p2.Width), .cell ⟨g10085, 4, none⟩ (iv t10078.1.Side)] (fun fb => by kernel_rfl) rfl ⟨hS13270.cell 3 rfl 0 rfl, hS13270.cell 0 rfl 4 rfl, trivial⟩ ?_
   refine WL.cutV (T := Bool) 17 (fun t => [(79, (.bool t)), (5, (pt g5)), (7, (.slice A1133 t1128.length c1134)), (67, (.bool true))]) (fun t => ((decide (p2.Width < t10078.1.Side)) || (decide (p2.Height < t10078.1.Side))) = t) (fun K => ?_) ?_
   ·
    rcases Bool.eq_false_or_eq_true (decide (p2.Width < t10078.1.Side)) with h13296 | h13296
    ·
     refine WL.setB 73 h13296 rfl ?_
     refine seg 17 [] [5, 7, 67, 79] [(5, (pt g5)), (7, (.slice A1133 t1128.length c1134)), (67, (.bool true)), (79, (.bool true))] [] (fun fb => by kernel_rfl) rfl trivial ?_
     exact WL.toV K true [79, 5, 7, 67] rfl (by first | (rw [h13296]; done) | (rw [h13296]; rfl))
    refine WL.setB 73 h13296 rfl ?_
    refine seg 17 [.v (iv p2.Height), .v (iv t10078.1.Side)] [5, 7, 67, 79] [(5, (pt g5)), (7, (.slice A1133 t1128.length c1134)), (67, (.bool true)), (79, (.bool (decide (p2.Height < t10078.1.Side))))] [.cell ⟨g5, 1, none⟩ (iv p2.Height), .cell ⟨g10085, 4, none⟩ (iv t10078.1.Side)] (fun fb => by kernel_rfl) rfl ⟨hS13270.cell 3 rfl 1 rfl, hS13270.cell 0 rfl 4 rfl, trivial⟩ ?_
    exact WL.toV K (decide (p2.Height < t10078.1.Side)) [79, 5, 7, 67] rfl (by first | (rw [h13296]; done) | (rw [h13296]; rfl))
   rintro b13297 rfl
   refine seg 18 [] [5, 7, 67, 80] [(5, (pt g5)), (7, (.slice A1133 t1128.length c1134)), (67, (.bool true)), (80, (.bool ((decide (p2.Width < t10078.1.Side)) || (decide (p2.Height < t10078.1.Side)))))] [] (fun fb => by kernel_rfl) rfl trivial ?_
   obtain ⟨x13304, hx13305, hx13294⟩ := bind_some hx13294
   refine WL.cutW (T := Bool) 23 (fun t => [(67, (.bool true)), (85, (.bool t))]) (fun t w1 => (St NoS w w1 [rowR encInt A_p2_Cells c_p2_Cells p2.Cells] [] ∧ x13304 = t) ∧ CellsOK [] w1) (fun K => ?_) ?_
   ·
    rcases br_some hx13305 with ⟨h13306, hx13305⟩ | ⟨h13306, hx13305⟩
    ·
     refine WL.setB 80 h13306 rfl ?_
     refine seg 23 [] [67, 85] [(67, (.bool true)), (85, (.bool true))] [] (fun fb => by kernel_rfl) rfl trivial ?_
     injection hx13305 with hx13305
     exact WL.to K true [67, 85] rfl ⟨⟨(hS13270.subR [0]).sub [] (by decide), hx13305.symm⟩, trivial⟩
    refine WL.setB 80 h13306 rfl ?_
    refine seg 20 [.v (iv p2.Width), .v (iv p2.Height), .v (.slice A_p2_Cells p2.Cells.length c_p2_Cells)] [67, 80, 81, 82] [(67, (.bool true)), (80, (.bool false)), (81, (.slice A1133 t1128.length c1134)), (82, (.agg #[(iv p2.Width), (iv p2.Height), (.slice A_p2_Cells p2.Cells.length c_p2_Cells)]))] [.cell ⟨g5, 0, none⟩ (iv p2.Width), .cell ⟨g5, 1, none⟩ (iv p2.Height), .cell ⟨g5, 2, none⟩ (.slice A_p2_Cells p2.Cells.length c_p2_Cells)] (fun fb => by kernel_rfl) rfl ⟨hS13270.cell 3 rfl 0 rfl, hS13270.cell 3 rfl 1 rfl, hS13270.cell 3 rfl 2 rfl, trivial⟩ ?_
    obtain ⟨t13307, ht13308, hx13305⟩ := bind_some hx13305
    refine WL.call (some 83) 29 #[(.slice A1133 t1128.length c1134), (.agg #[(iv p2.Width), (iv p2.Height), (.slice A_p2_Cells p2.Cells.length c_p2_Cells)]), (.bool false)] (fun fb => by kernel_rfl) (top_of_calls _ t1128 p2 false A1133 c1134 A_p2_Cells c_p2_Cells t13307 _ (hS13270.ow 2).ofO (hS13270.rd 0) ht13308) (fun v w13309 hR13310 => ?_)
    obtain ⟨rfl, hk_⟩ := hR13310
    have hS13311 := hS13270.keepN hk_
    refine ⟨trivial, ?_⟩
    refine seg 23 [] [67, 85] [(67, (.bool true)), (85, (.bool (!t13307)))] [] (fun fb => by kernel_rfl) rfl trivial ?_
    injection hx13305 with hx13305
    exact WL.to K (!t13307) [67, 85] rfl ⟨⟨(hS13311.subR [0]).sub [] (by decide), hx13305.symm⟩, trivial⟩
   rintro y13312 w13314 ⟨⟨hS13315, hq13313⟩, hF13316⟩
   subst hq13313
   refine seg 24 [] [86] [(86, (.bool x13304))] [] (fun fb => by kernel_rfl) rfl trivial ?_
   injection hx13294 with hx13294
   exact WL.to K x13304 [86] rfl ⟨⟨(hS13315.subR [0]).sub [] (by decide), hx13294.symm⟩, trivial⟩
  refine WL.setB 67 h13295 rfl ?_
  refine seg 24 [] [86] [(86, (.bool false))] [] (fun fb => by kernel_rfl) rfl trivial ?_
  injection hx13294 with hx13294
  exact WL.to K false [86] rfl ⟨⟨(hS13270.subR [0]).sub [] (by decide), hx13294.symm⟩, trivial⟩
 rintro y13317 w13319 ⟨⟨hS13320, hq13318⟩, hF13321⟩
 subst hq13318
 refine seg 25 [] [87] [(87, (.bool x13293))] [] (fun fb => by kernel_rfl) rfl trivial ?_
 obtain ⟨x13328, hx13329, hf⟩ := bind_some hf
 refine WL.cutW (T := Bool) 27 (fun t => [(89, (.bool t))]) (fun t w1 => (St NoS w w1 [rowR encInt A_p2_Cells c_p2_Cells p2.Cells] [] ∧ x13328 = t) ∧ CellsOK [] w1) (fun K => ?_) ?_
 ·
  rcases br_some hx13329 with ⟨h13330, hx13329⟩ | ⟨h13330, hx13329⟩
  ·
   refine WL.setB 87 h13330 rfl ?_
   obtain ⟨t13331, ht13332, hx13329⟩ := bind_some hx13329
   refine WL.call (some 88) 32 #[] (fun fb => by kernel_rfl) (top_decides_calls _ t13331 _ ht13332) (fun v w13333 hR13334 => ?_)
   obtain ⟨rfl, hk_⟩ := hR13334
   have hS13335 := hS13320.keepN hk_
   refine ⟨trivial, ?_⟩
   refine seg 27 [] [89] [(89, (.bool t13331))] [] (fun fb => by kernel_rfl) rfl trivial ?_
   injection hx13329 with hx13329
   exact WL.to K t13331 [89] rfl ⟨⟨(hS13335.subR [0]).sub [] (by decide), hx13329.symm⟩, trivial⟩
  refine WL.setB 87 h13330 rfl ?_
  refine seg 27 [] [89] [(89, (.bool false))] [] (fun fb => by kernel_rfl) rfl trivial ?_
  injection hx13329 with hx13329
  exact WL.to K false [89] rfl ⟨⟨(hS13320.subR [0]).sub [] (by decide), hx13329.symm⟩, trivial⟩
 rintro y13336 w13338 ⟨⟨hS13339, hq13337⟩, hF13340⟩
 subst hq13337
 refine seg 28 [] [6] [(6, (.bool x13328))] [] (fun fb => by kernel_rfl) rfl trivial ?_
 refine WL.done rfl ?_
 refine WX.next ?_
 refine WC.ret ?_
 injection hf with hf
 subst hf
 exact WX.ret_ [] (.bool x13328) [] (fun fb => by kernel_rfl) trivial ⟨_, rfl, rfl, hS13339.keep⟩
end Gp
