/- Walks: each function of the program computes its plain function. -/
import Derived.Test.YtmdkdigmkcpceaaGx3
set_option linter.unusedVariables false
set_option linter.unusedSimpArgs false
set_option maxHeartbeats 4000000
namespace Gp
open Go Gw Go.Proofs
theorem law09_DecideChecks_calls (k : Nat) (p0 : List Tile) (p1 : Verdict) (A_p0 : Option Addr) (c_p0 : Nat) (A_p1_Torus_Cells : Option Addr) (c_p1_Torus_Cells : Nat) (r : Bool) (w : World) (hR0 : RO NoS w (rowR enc_Tile A_p0 c_p0 p0)) (hR1 : RO NoS w (rowR encInt A_p1_Torus_Cells c_p1_Torus_Cells p1.Torus.Cells)) (hf : law09_DecideChecks k p0 p1 = some r) :
  CallsR Try.prog 5 #[(.slice A_p0 p0.length c_p0), (.agg #[(.bool p1.Fills), (iv p1.Torus.Width), (iv p1.Torus.Height), (.slice A_p1_Torus_Cells p1.Torus.Cells.length c_p1_Torus_Cells), (iv p1.Side)])] w (fun v w' => v = (.bool r) ∧ Keeps NoS w w') := by
 have hS : St NoS w w [rowR enc_Tile A_p0 c_p0 p0, rowR encInt A_p1_Torus_Cells c_p1_Torus_Cells p1.Torus.Cells] [] := St.init (ro_cons hR0 (ro_cons hR1 (ro_nil _ _)))
 refine enter 106 Try.func5 rfl Try.ntmps5 rfl ?_
 unfold law09_DecideChecks at hf
 refine WC.seq ?_
 refine WC.region ?_
 refine WL.new hS 3 [] (fun g => (.pointer (some ⟨g, 0, none⟩))) (.cells #[(.bool p1.Fills), (iv p1.Torus.Width), (iv p1.Torus.Height), (.slice A_p1_Torus_Cells p1.Torus.Cells.length c_p1_Torus_Cells), (iv p1.Side)] 40 (0, 0)) [] (fun fb g => by kernel_rfl) trivial (fun g1 w2 hS3 => ?_)
 refine ⟨trivial, ?_⟩
 refine seg 2 [] [0, 3] [(0, (.slice A_p0 p0.length c_p0)), (3, (pt g1))] [] (fun fb => by kernel_rfl) rfl trivial ?_
 refine WL.done rfl ?_
 refine WX.next ?_
 refine WC.seq ?_
 refine WC.seq ?_
 refine WC.region ?_
 refine seg 4 [] [0, 3, 13] [(0, (.slice A_p0 p0.length c_p0)), (3, (pt g1)), (13, (.bool (decide ((p0.length : Int) > 2000))))] [] (fun fb => by kernel_rfl) rfl trivial ?_
 refine WL.cutV (T := Bool) 23 (fun t => [(32, (.bool t)), (0, (.slice A_p0 p0.length c_p0)), (3, (pt g1))]) (fun t => ((decide ((p0.length : Int) > 2000)) || ((((!p1.Fills) && (decide ((p0.length : Int) > 4))) && (decide (p1.Side > 3))) && (decide (p1.Side ≤ 8)))) = t) (fun K => ?_) ?_
 ·
  rcases Bool.eq_false_or_eq_true (decide ((p0.length : Int) > 2000)) with h11 | h11
  ·
   refine WL.setB 13 h11 rfl ?_
   refine seg 23 [] [0, 3, 32] [(0, (.slice A_p0 p0.length c_p0)), (3, (pt g1)), (32, (.bool true))] [] (fun fb => by kernel_rfl) rfl trivial ?_
   exact WL.toV K true [32, 0, 3] rfl (by first | (rw [h11]; done) | (rw [h11]; rfl))
  refine WL.setB 13 h11 rfl ?_
  refine seg 8 [.v (.bool p1.Fills)] [0, 3, 13, 17] [(0, (.slice A_p0 p0.length c_p0)), (3, (pt g1)), (13, (.bool false)), (17, (.bool (!p1.Fills)))] [.cell ⟨g1, 0, none⟩ (.bool p1.Fills)] (fun fb => by kernel_rfl) rfl ⟨hS3.cell 0 rfl 0 rfl, trivial⟩ ?_
  refine WL.cutV (T := Bool) 12 (fun t => [(21, (.bool t)), (0, (.slice A_p0 p0.length c_p0)), (3, (pt g1)), (13, (.bool false))]) (fun t => ((!p1.Fills) && (decide ((p0.length : Int) > 4))) = t) (fun K => ?_) ?_
  ·
   rcases Bool.eq_false_or_eq_true (!p1.Fills) with h12 | h12
   ·
    refine WL.setB 17 h12 rfl ?_
    refine seg 12 [] [0, 3, 13, 21] [(0, (.slice A_p0 p0.length c_p0)), (3, (pt g1)), (13, (.bool false)), (21, (.bool (decide ((p0.length : Int) > 4))))] [] (fun fb => by kernel_rfl) rfl trivial ?_
    exact WL.toV K (decide ((p0.length : Int) > 4)) [21, 0, 3, 13] rfl (by first | (rw [h12]; done) | (rw [h12]; rfl))
   refine WL.setB 17 h12 rfl ?_
   refine seg 12 [] [0, 3, 13, 21] [(0, (.slice A_p0 p0.length c_p0)), (3, (pt g1)), (13, (.bool false)), (21, (.bool false))] [] (fun fb => by kernel_rfl) rfl trivial ?_
   exact WL.toV K false [21, 0, 3, 13] rfl (by first | (rw [h12]; done) | (rw [h12]; rfl))
  rintro b13 rfl
  refine seg 13 [] [0, 3, 13, 22] [(0, (.slice A_p0 p0.length c_p0)), (3, (pt g1)), (13, (.bool false)), (22, (.bool ((!p1.Fills) && (decide ((p0.length : Int) > 4)))))] [] (fun fb => by kernel_rfl) rfl trivial ?_
  refine WL.cutV (T := Bool) 17 (fun t => [(26, (.bool t)), (0, (.slice A_p0 p0.length c_p0)), (3, (pt g1)), (13, (.bool false))]) (fun t => (((!p1.Fills) && (decide ((p0.length : Int) > 4))) && (decide (p1.Side > 3))) = t) (fun K => ?_) ?_
  ·
   rcases Bool.eq_false_or_eq_true ((!p1.Fills) && (decide ((p0.length : Int) > 4))) with h14 | h14
   ·
    refine WL.setB 22 h14 rfl ?_
    refine seg 17 [.v (iv p1.Side)] [0, 3, 13, 26] [(0, (.slice A_p0 p0.length c_p0)), (3, (pt g1)), (13, (.bool false)), (26, (.bool (decide (p1.Side > 3))))] [.cell ⟨g1, 4, none⟩ (iv p1.Side)] (fun fb => by kernel_rfl) rfl ⟨hS3.cell 0 rfl 4 rfl, trivial⟩ ?_
    exact WL.toV K (decide (p1.Side > 3)) [26, 0, 3, 13] rfl (by first | (rw [h14]; done) | (rw [h14]; rfl))
   refine WL.setB 22 h14 rfl ?_
   refine seg 17 [] [0, 3, 13, 26] [(0, (.slice A_p0 p0.length c_p0)), (3, (pt g1)), (13, (.bool false)), (26, (.bool false))] [] (fun fb => by kernel_rfl) rfl trivial ?_
   exact WL.toV K false [26, 0, 3, 13] rfl (by first | (rw [h14]; done) | (rw [h14]; rfl))
  rintro b15 rfl
  refine seg 18 [] [0, 3, 13, 27] [(0, (.slice A_p0 p0.length c_p0)), (3, (pt g1)), (13, (.bool false)), (27, (.bool (((!p1.Fills) && (decide ((p0.length : Int) > 4))) && (decide (p1.Side > 3)))))] [] (fun fb => by kernel_rfl) rfl trivial ?_
  refine WL.cutV (T := Bool) 22 (fun t => [(31, (.bool t)), (0, (.slice A_p0 p0.length c_p0)), (3, (pt g1)), (13, (.bool false))]) (fun t => ((((!p1.Fills) && (decide ((p0.length : Int) > 4))) && (decide (p1.Side > 3))) && (decide (p1.Side ≤ 8))) = t) (fun K => ?_) ?_
  ·
   rcases Bool.eq_false_or_eq_true (((!p1.Fills) && (decide ((p0.length : Int) > 4))) && (decide (p1.Side > 3))) with h16 | h16
   ·
    refine WL.setB 27 h16 rfl ?_
    refine seg 22 [.v (iv p1.Side)] [0, 3, 13, 31] [(0, (.slice A_p0 p0.length c_p0)), (3, (pt g1)), (13, (.bool false)), (31, (.bool (decide (p1.Side ≤ 8))))] [.cell ⟨g1, 4, none⟩ (iv p1.Side)] (fun fb => by kernel_rfl) rfl ⟨hS3.cell 0 rfl 4 rfl, trivial⟩ ?_
    exact WL.toV K (decide (p1.Side ≤ 8)) [31, 0, 3, 13] rfl (by first | (rw [h16]; done) | (rw [h16]; rfl))
   refine WL.setB 27 h16 rfl ?_
   refine seg 22 [] [0, 3, 13, 31] [(0, (.slice A_p0 p0.length c_p0)), (3, (pt g1)), (13, (.bool false)), (31, (.bool false))] [] (fun fb => by kernel_rfl) rfl trivial ?_
   exact WL.toV K false [31, 0, 3, 13] rfl (by first | (rw [h16]; done) | (rw [h16]; rfl))
  rintro b17 rfl
  refine seg 23 [] [0, 3, 32] [(0, (.slice A_p0 p0.length c_p0)), (3, (pt g1)), (32, (.bool ((((!p1.Fills) && (decide ((p0.length : Int) > 4))) && (decide (p1.Side > 3))) && (decide (p1.Side ≤ 8)))))] [] (fun fb => by kernel_rfl) rfl trivial ?_
  exact WL.toV K ((((!p1.Fills) && (decide ((p0.length : Int) > 4))) && (decide (p1.Side > 3))) && (decide (p1.Side ≤ 8))) [32, 0, 3] rfl (by first | (rw [h11]; done) | (rw [h11]; rfl))
 rintro b18 rfl
 refine WL.done rfl ?_
 refine WX.next ?_
 rcases br_some hf with ⟨h19, hf⟩ | ⟨h19, hf⟩
 ·refine WC.condT2 (fun fb => by kernel_rfl) h19 ?_
  refine WC.seq ?_
  refine WC.region ?_
  obtain ⟨t9135, ht9136, hf⟩ := bind_some hf
  refine WL.call (some 33) 14 #[] (fun fb => by kernel_rfl) (law09_awake_calls _ t9135 _ ht9136) (fun v w9137 hR9138 => ?_)
  obtain ⟨rfl, hk_⟩ := hR9138
  have hS9139 := hS3.keepN hk_
  refine ⟨trivial, ?_⟩
  refine seg 2 [] [4] [(4, (.bool t9135))] [] (fun fb => by kernel_rfl) rfl trivial ?_
  refine WL.done rfl ?_
  refine WX.next ?_
  refine WC.ret ?_
  injection hf with hf
  subst hf
  exact WX.thenR (WX.ret_ [] (.bool t9135) [] (fun fb => by kernel_rfl) trivial ⟨_, rfl, rfl, hS9139.keep⟩)
 refine WC.condF2 (fun fb => by kernel_rfl) h19 ?_
 refine WC.skip ?_
 refine WX.next ?_
 refine WC.seq ?_
 refine WC.region ?_
 refine seg 2 [.v (.bool p1.Fills), .v (iv p1.Torus.Width), .v (iv p1.Torus.Height), .v (.slice A_p1_Torus_Cells p1.Torus.Cells.length c_p1_Torus_Cells), .v (iv p1.Side)] [0, 3, 35, 36] [(0, (.slice A_p0 p0.length c_p0)), (3, (pt g1)), (35, (.slice A_p0 p0.length c_p0)), (36, (.agg #[(.bool p1.Fills), (iv p1.Torus.Width), (iv p1.Torus.Height), (.slice A_p1_Torus_Cells p1.Torus.Cells.length c_p1_Torus_Cells), (iv p1.Side)]))] [.cell ⟨g1, 0, none⟩ (.bool p1.Fills), .cell ⟨g1, 1, none⟩ (iv p1.Torus.Width), .cell ⟨g1, 2, none⟩ (iv p1.Torus.Height), .cell ⟨g1, 3, none⟩ (.slice A_p1_Torus_Cells p1.Torus.Cells.length c_p1_Torus_Cells), .cell ⟨g1, 4, none⟩ (iv p1.Side)] (fun fb => by kernel_rfl) rfl ⟨hS3.cell 0 rfl 0 rfl, hS3.cell 0 rfl 1 rfl, hS3.cell 0 rfl 2 rfl, hS3.cell 0 rfl 3 rfl, hS3.cell 0 rfl 4 rfl, trivial⟩ ?_
 obtain ⟨t9585, ht9586, hf⟩ := bind_some hf
 refine WL.call (some 37) 18 #[(.slice A_p0 p0.length c_p0), (.agg #[(.bool p1.Fills), (iv p1.Torus.Width), (iv p1.Torus.Height), (.slice A_p1_Torus_Cells p1.Torus.Cells.length c_p1_Torus_Cells), (iv p1.Side)])] (fun fb => by kernel_rfl) (decide_Check_calls _ p0 p1 A_p0 c_p0 A_p1_Torus_Cells c_p1_Torus_Cells t9585 _ (hS3.rd 0) (hS3.rd 1) ht9586) (fun v w9587 hR9588 => ?_)
 obtain ⟨rfl, hk_⟩ := hR9588
 have hS9589 := hS3.keepN hk_
 refine ⟨trivial, ?_⟩
 refine seg 8 [] [0, 3, 5, 6] [(0, (.slice A_p0 p0.length c_p0)), (3, (pt g1)), (5, (.bool t9585.1)), (6, (iv t9585.2))] [] (fun fb => by kernel_rfl) rfl trivial ?_
 refine WL.done rfl ?_
 refine WX.next ?_
 refine WC.seq ?_
 refine WC.seq ?_
 refine WC.region ?_
 refine seg 1 [] [0, 3, 5, 6, 40] [(0, (.slice A_p0 p0.length c_p0)), (3, (pt g1)), (5, (.bool t9585.1)), (6, (iv t9585.2)), (40, (.slice A_p0 p0.length c_p0))] [] (fun fb => by kernel_rfl) rfl trivial ?_
 obtain ⟨t10193, ht10194, hf⟩ := bind_some hf
 refine WL.call (some 41) 13 #[(.slice A_p0 p0.length c_p0)] (fun fb => by kernel_rfl) (ref01_Valid_calls _ p0 A_p0 c_p0 t10193 _ (hS9589.rd 0) ht10194) (fun v w10195 hR10196 => ?_)
 obtain ⟨rfl, hk_⟩ := hR10196
 have hS10197 := hS9589.keepN hk_
 refine ⟨trivial, ?_⟩
 refine seg 3 [] [0, 3, 5, 6, 42] [(0, (.slice A_p0 p0.length c_p0)), (3, (pt g1)), (5, (.bool t9585.1)), (6, (iv t9585.2)), (42, (.bool (!t10193)))] [] (fun fb => by kernel_rfl) rfl trivial ?_
 refine WL.done rfl ?_
 refine WX.next ?_
 rcases br_some hf with ⟨h10198, hf⟩ | ⟨h10198, hf⟩
 ·refine WC.condT2 (fun fb => by kernel_rfl) h10198 ?_
  refine WC.seq ?_
  refine WC.region ?_
  refine seg 3 [] [5, 45] [(5, (.bool t9585.1)), (45, (.bool (t9585.2 == 1)))] [] (fun fb => by kernel_rfl) rfl trivial ?_
  refine WL.cutV (T := Bool) 6 (fun t => [(48, (.bool t))]) (fun t => ((t9585.2 == 1) && (!t9585.1)) = t) (fun K => ?_) ?_
  ·
   rcases Bool.eq_false_or_eq_true (t9585.2 == 1) with h10199 | h10199
   ·
    refine WL.setB 45 h10199 rfl ?_
    refine seg 6 [] [48] [(48, (.bool (!t9585.1)))] [] (fun fb => by kernel_rfl) rfl trivial ?_
    exact WL.toV K (!t9585.1) [48] rfl (by first | (rw [h10199]; done) | (rw [h10199]; rfl))
   refine WL.setB 45 h10199 rfl ?_
   refine seg 6 [] [48] [(48, (.bool false))] [] (fun fb => by kernel_rfl) rfl trivial ?_
   exact WL.toV K false [48] rfl (by first | (rw [h10199]; done) | (rw [h10199]; rfl))
  rintro b10200 rfl
  refine seg 7 [] [49] [(49, (.bool ((t9585.2 == 1) && (!t9585.1))))] [] (fun fb => by kernel_rfl) rfl trivial ?_
  obtain ⟨x10207, hx10208, hf⟩ := bind_some hf
  refine WL.cutW (T := Bool) 9 (fun t => [(51, (.bool t))]) (fun t w1 => (St NoS w w1 [rowR enc_Tile A_p0 c_p0 p0, rowR encInt A_p1_Torus_Cells c_p1_Torus_Cells p1.Torus.Cells] [] ∧ x10207 = t) ∧ CellsOK [] w1) (fun K => ?_) ?_
  ·
   rcases br_some hx10208 with ⟨h10209, hx10208⟩ | ⟨h10209, hx10208⟩
   ·
    refine WL.setB 49 h10209 rfl ?_
    obtain ⟨t10210, ht10211, hx10208⟩ := bind_some hx10208
    refine WL.call (some 50) 14 #[] (fun fb => by kernel_rfl) (law09_awake_calls _ t10210 _ ht10211) (fun v w10212 hR10213 => ?_)
    obtain ⟨rfl, hk_⟩ := hR10213
    have hS10214 := hS10197.keepN hk_
    refine ⟨trivial, ?_⟩
    refine seg 9 [] [51] [(51, (.bool t10210))] [] (fun fb => by kernel_rfl) rfl trivial ?_
    injection hx10208 with hx10208
    exact WL.to K t10210 [51] rfl ⟨⟨(hS10214.subR [0, 1]).sub [] (by decide), hx10208.symm⟩, trivial⟩
   refine WL.setB 49 h10209 rfl ?_
   refine seg 9 [] [51] [(51, (.bool false))] [] (fun fb => by kernel_rfl) rfl trivial ?_
   injection hx10208 with hx10208
   exact WL.to K false [51] rfl ⟨⟨(hS10197.subR [0, 1]).sub [] (by decide), hx10208.symm⟩, trivial⟩
  rintro y10215 w10217 ⟨⟨hS10218, hq10216⟩, hF10219⟩
  subst hq10216
  refine seg 10 [] [4] [(4, (.bool x10207))] [] (fun fb => by kernel_rfl) rfl trivial ?_
  refine WL.done rfl ?_
  refine WX.next ?_
  refine WC.ret ?_
  injection hf with hf
  subst hf
  exact WX.thenR (WX.ret_ [] (.bool x10207) [] (fun fb => by kernel_rfl) trivial ⟨_, rfl, rfl, hS10218.keep⟩)
 refine WC.condF2 (fun fb => by kernel_rfl) h10198 ?_
 refine WC.skip ?_
 refine WX.next ?_
 refine WC.seq ?_
 refine WC.region ?_
 refine seg 3 [.v (.bool p1.Fills)] [0, 3, 5, 6, 54] [(0, (.slice A_p0 p0.length c_p0)), (3, (pt g1)), (5, (.bool t9585.1)), (6, (iv t9585.2)), (54, (.bool p1.Fills))] [.cell ⟨g1, 0, none⟩ (.bool p1.Fills)] (fun fb => by kernel_rfl) rfl ⟨hS10197.cell 0 rfl 0 rfl, trivial⟩ ?_
 refine WL.cutV (T := Bool) 7 (fun t => [(58, (.bool t)), (0, (.slice A_p0 p0.length c_p0)), (3, (pt g1)), (5, (.bool t9585.1)), (6, (iv t9585.2))]) (fun t => (p1.Fills && (p1.Side == 0)) = t) (fun K => ?_) ?_
 ·
  rcases Bool.eq_false_or_eq_true p1.Fills with h10220 | h10220
  ·
   refine WL.setB 54 h10220 rfl ?_
   refine seg 7 [.v (iv p1.Side)] [0, 3, 5, 6, 58] [(0, (.slice A_p0 p0.length c_p0)), (3, (pt g1)), (5, (.bool t9585.1)), (6, (iv t9585.2)), (58, (.bool (p1.Side == 0)))] [.cell ⟨g1, 4, none⟩ (iv p1.Side)] (fun fb => by kernel_rfl) rfl ⟨hS10197.cell 0 rfl 4 rfl, trivial⟩ ?_
   exact WL.toV K (p1.Side == 0) [58, 0, 3, 5, 6] rfl (by first | (rw [h10220]; done) | (rw [h10220]; rfl))
  refine WL.setB 54 h10220 rfl ?_
  refine seg 7 [] [0, 3, 5, 6, 58] [(0, (.slice A_p0 p0.length c_p0)), (3, (pt g1)), (5, (.bool t9585.1)), (6, (iv t9585.2)), (58, (.bool false))] [] (fun fb => by kernel_rfl) rfl trivial ?_
  exact WL.toV K false [58, 0, 3, 5, 6] rfl (by first | (rw [h10220]; done) | (rw [h10220]; rfl))
 rintro b10221 rfl
 refine seg 8 [] [0, 3, 5, 6, 59] [(0, (.slice A_p0 p0.length c_p0)), (3, (pt g1)), (5, (.bool t9585.1)), (6, (iv t9585.2)), (59, (.bool (p1.Fills && (p1.Side == 0))))] [] (fun fb => by kernel_rfl) rfl trivial ?_
 obtain ⟨x12929, hx12930, hf⟩ := bind_some hf
 refine WL.cutW (T := Bool) 13 (fun t => [(0, (.slice A_p0 p0.length c_p0)), (3, (pt g1)), (5, (.bool t9585.1)), (6, (iv t9585.2)), (64, (.bool t))]) (fun t w1 => (St NoS w w1 [rowR enc_Tile A_p0 c_p0 p0, rowR encInt A_p1_Torus_Cells c_p1_Torus_Cells p1.Torus.Cells] [blk g1 (.cells #[(.bool p1.Fills), (iv p1.Torus.Width), (iv p1.Torus.Height), (.slice A_p1_Torus_Cells p1.Torus.Cells.length c_p1_Torus_Cells), (iv p1.Side)] 40 (0, 0))] ∧ x12929 = t) ∧ CellsOK [] w1) (fun K => ?_) ?_
 ·
  rcases br_some hx12930 with ⟨h12931, hx12930⟩ | ⟨h12931, hx12930⟩
  ·
   refine WL.setB 59 h12931 rfl ?_
   refine seg 11 [.v (iv p1.Torus.Width), .v (iv p1.Torus.Height), .v (.slice A_p1_Torus_Cells p1.Torus.Cells.length c_p1_Torus_Cells)] [0, 3, 5, 6, 59, 60, 62] [(0, (.slice A_p0 p0.length c_p0)), (3, (pt g1)), (5, (.bool t9585.1)), (6, (iv t9585.2)), (59, (.bool true)), (60, (.slice A_p0 p0.length c_p0)), (62, (.agg #[(iv p1.Torus.Width), (iv p1.Torus.Height), (.slice A_p1_Torus_Cells p1.Torus.Cells.length c_p1_Torus_Cells)]))] [.cell ⟨g1, 1, none⟩ (iv p1.Torus.Width), .cell ⟨g1, 2, none⟩ (iv p1.Torus.Height), .cell ⟨g1, 3, none⟩ (.slice A_p1_Torus_Cells p1.Torus.Cells.length c_p1_Torus_Cells)] (fun fb => by kernel_rfl) rfl ⟨hS10197.cell 0 rfl 1 rfl, hS10197.cell 0 rfl 2 rfl, hS10197.cell 0 rfl 3 rfl, trivial⟩ ?_
   obtain ⟨t12932, ht12933, hx12930⟩ := bind_some hx12930
   refine WL.call (some 63) 19 #[(.slice A_p0 p0.length c_p0), (.agg #[(iv p1.Torus.Width), (iv p1.Torus.Height), (.slice A_p1_Torus_Cells p1.Torus.Cells.length c_p1_Torus_Cells)])] (fun fb => by kernel_rfl) (ref01_Torus_calls _ p0 p1.Torus A_p0 c_p0 A_p1_Torus_Cells c_p1_Torus_Cells t12932 _ (hS10197.rd 0) (hS10197.rd 1) ht12933) (fun v w12934 hR12935 => ?_)
   obtain ⟨rfl, hk_⟩ := hR12935
   have hS12936 := hS10197.keepN hk_
   refine ⟨trivial, ?_⟩
   refine seg 13 [] [0, 3, 5, 6, 64] [(0, (.slice A_p0 p0.length c_p0)), (3, (pt g1)), (5, (.bool t9585.1)), (6, (iv t9585.2)), (64, (.bool t12932))] [] (fun fb => by kernel_rfl) rfl trivial ?_
   injection hx12930 with hx12930
   exact WL.to K t12932 [0, 3, 5, 6, 64] rfl ⟨⟨(hS12936.subR [0, 1]).sub [0] (by decide), hx12930.symm⟩, trivial⟩
  refine WL.setB 59 h12931 rfl ?_
  refine seg 13 [] [0, 3, 5, 6, 64] [(0, (.slice A_p0 p0.length c_p0)), (3, (pt g1)), (5, (.bool t9585.1)), (6, (iv t9585.2)), (64, (.bool false))] [] (fun fb => by kernel_rfl) rfl trivial ?_
  injection hx12930 with hx12930
  exact WL.to K false [0, 3, 5, 6, 64] rfl ⟨⟨(hS10197.subR [0, 1]).sub [0] (by decide), hx12930.symm⟩, trivial⟩
 rintro y12937 w12939 ⟨⟨hS12940, hq12938⟩, hF12941⟩
 subst hq12938
 refine seg 14 [] [0, 3, 5, 6, 7] [(0, (.slice A_p0 p0.length c_p0)), (3, (pt g1)), (5, (.bool t9585.1)), (6, (iv t9585.2)), (7, (.bool x12929))] [] (fun fb => by kernel_rfl) rfl trivial ?_
 refine WL.done rfl ?_
 refine WX.next ?_
 refine WC.seq ?_
 refine WC.seq ?_
 refine WC.region ?_
 refine seg 4 [.v (.bool p1.Fills)] [0, 3, 5, 6, 7, 68] [(0, (.slice A_p0 p0.length c_p0)), (3, (pt g1)), (5, (.bool t9585.1)), (6, (iv t9585.2)), (7, (.bool x12929)), (68, (.bool (!p1.Fills)))] [.cell ⟨g1, 0, none⟩ (.bool p1.Fills)] (fun fb => by kernel_rfl) rfl ⟨hS12940.cell 0 rfl 0 rfl, trivial⟩ ?_
 obtain ⟨x12956, hx12957, hf⟩ := bind_some hf
 refine WL.cutW (T := Bool) 8 (fun t => [(0, (.slice A_p0 p0.length c_p0)), (3, (pt g1)), (5, (.bool t9585.1)), (6, (iv t9585.2)), (7, (.bool x12929)), (72, (.bool t))]) (fun t w1 => (St NoS w w1 [rowR enc_Tile A_p0 c_p0 p0, rowR encInt A_p1_Torus_Cells c_p1_Torus_Cells p1.Torus.Cells] [blk g1 (.cells #[(.bool p1.Fills), (iv p1.Torus.Width), (iv p1.Torus.Height), (.slice A_p1_Torus_Cells p1.Torus.Cells.length c_p1_Torus_Cells), (iv p1.Side)] 40 (0, 0))] ∧ x12956 = t) ∧ CellsOK [] w1) (fun K => ?_) ?_
 ·
  rcases br_some hx12957 with ⟨h12958, hx12957⟩ | ⟨h12958, hx12957⟩
  ·
   refine WL.setB 68 h12958 rfl ?_
   refine seg 6 [.v (iv p1.Torus.Width), .v (iv p1.Torus.Height), .v (.slice A_p1_Torus_Cells p1.Torus.Cells.length c_p1_Torus_Cells)] [0, 3, 5, 6, 7, 68, 70] [(0, (.slice A_p0 p0.length c_p0)), (3, (pt g1)), (5, (.bool t9585.1)), (6, (iv t9585.2)), (7, (.bool x12929)), (68, (.bool true)), (70, (.agg #[(iv p1.Torus.Width), (iv p1.Torus.Height), (.slice A_p1_Torus_Cells p1.Torus.Cells.length c_p1_Torus_Cells)]))] [.cell ⟨g1, 1, none⟩ (iv p1.Torus.Width), .cell ⟨g1, 2, none⟩ (iv p1.Torus.Height), .cell ⟨g1, 3, none⟩ (.slice A_p1_Torus_Cells p1.Torus.Cells.length c_p1_Torus_Cells)] (fun fb => by kernel_rfl) rfl ⟨hS12940.cell 0 rfl 1 rfl, hS12940.cell 0 rfl 2 rfl, hS12940.cell 0 rfl 3 rfl, trivial⟩ ?_
   obtain ⟨t12959, ht12960, hx12957⟩ := bind_some hx12957
   refine WL.call (some 71) 20 #[(.agg #[(iv p1.Torus.Width), (iv p1.Torus.Height), (.slice A_p1_Torus_Cells p1.Torus.Cells.length c_p1_Torus_Cells)])] (fun fb => by kernel_rfl) (law09_none_calls p1.Torus A_p1_Torus_Cells c_p1_Torus_Cells t12959 _ (hS12940.rd 1) ht12960) (fun v w12961 hR12962 => ?_)
   obtain ⟨rfl, hk_⟩ := hR12962
   have hS12963 := hS12940.keepN hk_
   refine ⟨trivial, ?_⟩
   refine seg 8 [] [0, 3, 5, 6, 7, 72] [(0, (.slice A_p0 p0.length c_p0)), (3, (pt g1)), (5, (.bool t9585.1)), (6, (iv t9585.2)), (7, (.bool x12929)), (72, (.bool t12959))] [] (fun fb => by kernel_rfl) rfl trivial ?_
   injection hx12957 with hx12957
   exact WL.to K t12959 [0, 3, 5, 6, 7, 72] rfl ⟨⟨(hS12963.subR [0, 1]).sub [0] (by decide), hx12957.symm⟩, trivial⟩
  refine WL.setB 68 h12958 rfl ?_
  refine seg 8 [] [0, 3, 5, 6, 7, 72] [(0, (.slice A_p0 p0.length c_p0)), (3, (pt g1)), (5, (.bool t9585.1)), (6, (iv t9585.2)), (7, (.bool x12929)), (72, (.bool false))] [] (fun fb => by kernel_rfl) rfl trivial ?_
  injection hx12957 with hx12957
  exact WL.to K false [0, 3, 5, 6, 7, 72] rfl ⟨⟨(hS12940.subR [0, 1]).sub [0] (by decide), hx12957.symm⟩, trivial⟩
 rintro y12964 w12966 ⟨⟨hS12967, hq12965⟩, hF12968⟩
 subst hq12965
 refine seg 9 [] [0, 3, 5, 6, 7, 73] [(0, (.slice A_p0 p0.length c_p0)), (3, (pt g1)), (5, (.bool t9585.1)), (6, (iv t9585.2)), (7, (.bool x12929)), (73, (.bool x12956))] [] (fun fb => by kernel_rfl) rfl trivial ?_
 refine WL.cutV (T := Bool) 13 (fun t => [(77, (.bool t)), (0, (.slice A_p0 p0.length c_p0)), (3, (pt g1)), (5, (.bool t9585.1)), (6, (iv t9585.2)), (7, (.bool x12929))]) (fun t => (x12956 && (decide (p1.Side ≥ 1))) = t) (fun K => ?_) ?_
 ·
  rcases Bool.eq_false_or_eq_true x12956 with h12969 | h12969
  ·
   refine WL.setB 73 h12969 rfl ?_
   refine seg 13 [.v (iv p1.Side)] [0, 3, 5, 6, 7, 77] [(0, (.slice A_p0 p0.length c_p0)), (3, (pt g1)), (5, (.bool t9585.1)), (6, (iv t9585.2)), (7, (.bool x12929)), (77, (.bool (decide (p1.Side ≥ 1))))] [.cell ⟨g1, 4, none⟩ (iv p1.Side)] (fun fb => by kernel_rfl) rfl ⟨hS12967.cell 0 rfl 4 rfl, trivial⟩ ?_
   exact WL.toV K (decide (p1.Side ≥ 1)) [77, 0, 3, 5, 6, 7] rfl (by first | (rw [h12969]; done) | (rw [h12969]; rfl))
  refine WL.setB 73 h12969 rfl ?_
  refine seg 13 [] [0, 3, 5, 6, 7, 77] [(0, (.slice A_p0 p0.length c_p0)), (3, (pt g1)), (5, (.bool t9585.1)), (6, (iv t9585.2)), (7, (.bool x12929)), (77, (.bool false))] [] (fun fb => by kernel_rfl) rfl trivial ?_
  exact WL.toV K false [77, 0, 3, 5, 6, 7] rfl (by first | (rw [h12969]; done) | (rw [h12969]; rfl))
 rintro b12970 rfl
 refine seg 14 [] [0, 3, 5, 6, 7, 78] [(0, (.slice A_p0 p0.length c_p0)), (3, (pt g1)), (5, (.bool t9585.1)), (6, (iv t9585.2)), (7, (.bool x12929)), (78, (.bool (x12956 && (decide (p1.Side ≥ 1)))))] [] (fun fb => by kernel_rfl) rfl trivial ?_
 refine WL.cutV (T := Bool) 18 (fun t => [(82, (.bool t)), (0, (.slice A_p0 p0.length c_p0)), (3, (pt g1)), (5, (.bool t9585.1)), (6, (iv t9585.2)), (7, (.bool x12929))]) (fun t => ((x12956 && (decide (p1.Side ≥ 1))) && (decide (p1.Side ≤ 8))) = t) (fun K => ?_) ?_
 ·
  rcases Bool.eq_false_or_eq_true (x12956 && (decide (p1.Side ≥ 1))) with h12971 | h12971
  ·
   refine WL.setB 78 h12971 rfl ?_
   refine seg 18 [.v (iv p1.Side)] [0, 3, 5, 6, 7, 82] [(0, (.slice A_p0 p0.length c_p0)), (3, (pt g1)), (5, (.bool t9585.1)), (6, (iv t9585.2)), (7, (.bool x12929)), (82, (.bool (decide (p1.Side ≤ 8))))] [.cell ⟨g1, 4, none⟩ (iv p1.Side)] (fun fb => by kernel_rfl) rfl ⟨hS12967.cell 0 rfl 4 rfl, trivial⟩ ?_
   exact WL.toV K (decide (p1.Side ≤ 8)) [82, 0, 3, 5, 6, 7] rfl (by first | (rw [h12971]; done) | (rw [h12971]; rfl))
  refine WL.setB 78 h12971 rfl ?_
  refine seg 18 [] [0, 3, 5, 6, 7, 82] [(0, (.slice A_p0 p0.length c_p0)), (3, (pt g1)), (5, (.bool t9585.1)), (6, (iv t9585.2)), (7, (.bool x12929)), (82, (.bool false))] [] (fun fb => by kernel_rfl) rfl trivial ?_
  exact WL.toV K false [82, 0, 3, 5, 6, 7] rfl (by first | (rw [h12971]; done) | (rw [h12971]; rfl))
 rintro b12972 rfl
 refine WL.done rfl ?_
 refine WX.next ?_
 obtain ⟨x12982, hx12983, hf⟩ := bind_some hf
 refine WC.cutN (T := Bool) (fun t => [(5, (.bool t9585.1)), (6, (iv t9585.2)), (7, (.bool t))]) (fun t w1 => St NoS w w1 [rowR enc_Tile A_p0 c_p0 p0, rowR encInt A_p1_Torus_Cells c_p1_Torus_Cells p1.Torus.Cells] [] ∧ x12982 = t) (fun Kx12982 => ?_) ?_
 ·
  rcases br_some hx12983 with ⟨h12984, hx12983⟩ | ⟨h12984, hx12983⟩
  ·refine WC.condT2 (fun fb => by kernel_rfl) h12984 ?_
   refine WC.seq ?_
   refine WC.region ?_
   refine seg 3 [.v (iv p1.Side)] [5, 6, 84, 86] [(5, (.bool t9585.1)), (6, (iv t9585.2)), (84, (.slice A_p0 p0.length c_p0)), (86, (iv p1.Side))] [.cell ⟨g1, 4, none⟩ (iv p1.Side)] (fun fb => by kernel_rfl) rfl ⟨hS12967.cell 0 rfl 4 rfl, trivial⟩ ?_
   obtain ⟨t12985, ht12986, hx12983⟩ := bind_some hx12983
   refine WL.call (some 87) 21 #[(.slice A_p0 p0.length c_p0), (iv p1.Side)] (fun fb => by kernel_rfl) (square_Exists_calls _ p0 p1.Side A_p0 c_p0 t12985 _ (hS12967.rd 0) ht12986) (fun v w12987 hR12988 => ?_)
   obtain ⟨rfl, hk_⟩ := hR12988
   have hS12989 := hS12967.keepN hk_
   refine ⟨trivial, ?_⟩
   refine seg 9 [] [5, 6, 8, 9] [(5, (.bool t9585.1)), (6, (iv t9585.2)), (8, (.bool t12985.1)), (9, (iv t12985.2))] [] (fun fb => by kernel_rfl) rfl trivial ?_
   refine WL.done rfl ?_
   refine WX.next ?_
   refine WC.region ?_
   refine seg 3 [] [5, 6, 8, 92] [(5, (.bool t9585.1)), (6, (iv t9585.2)), (8, (.bool t12985.1)), (92, (.bool (t12985.2 == 0)))] [] (fun fb => by kernel_rfl) rfl trivial ?_
   refine WL.cutV (T := Bool) 6 (fun t => [(95, (.bool t)), (5, (.bool t9585.1)), (6, (iv t9585.2))]) (fun t => ((t12985.2 == 0) && (!t12985.1)) = t) (fun K => ?_) ?_
   ·
    rcases Bool.eq_false_or_eq_true (t12985.2 == 0) with h12990 | h12990
    ·
     refine WL.setB 92 h12990 rfl ?_
     refine seg 6 [] [5, 6, 95] [(5, (.bool t9585.1)), (6, (iv t9585.2)), (95, (.bool (!t12985.1)))] [] (fun fb => by kernel_rfl) rfl trivial ?_
     exact WL.toV K (!t12985.1) [95, 5, 6] rfl (by first | (rw [h12990]; done) | (rw [h12990]; rfl))
    refine WL.setB 92 h12990 rfl ?_
    refine seg 6 [] [5, 6, 95] [(5, (.bool t9585.1)), (6, (iv t9585.2)), (95, (.bool false))] [] (fun fb => by kernel_rfl) rfl trivial ?_
    exact WL.toV K false [95, 5, 6] rfl (by first | (rw [h12990]; done) | (rw [h12990]; rfl))
   rintro b12991 rfl
   refine seg 7 [] [5, 6, 7] [(5, (.bool t9585.1)), (6, (iv t9585.2)), (7, (.bool ((t12985.2 == 0) && (!t12985.1))))] [] (fun fb => by kernel_rfl) rfl trivial ?_
   refine WL.done rfl ?_
   injection hx12983 with hx12983
   exact WX.to Kx12982 ((t12985.2 == 0) && (!t12985.1)) [5, 6, 7] rfl ⟨(hS12989.subR [0, 1]).sub [] (by decide), hx12983.symm⟩
  refine WC.condF2 (fun fb => by kernel_rfl) h12984 ?_
  refine WC.skip ?_
  injection hx12983 with hx12983
  exact WX.to Kx12982 x12929 [5, 6, 7] rfl ⟨(hS12967.subR [0, 1]).sub [] (by decide), hx12983.symm⟩
 rintro y12995 w12992 ⟨hS12993, hq12994⟩
 subst hq12994
 refine WX.next ?_
 refine WC.seq ?_
 refine WC.region ?_
 refine seg 3 [] [5, 7, 98] [(5, (.bool t9585.1)), (7, (.bool x12982)), (98, (.bool (t9585.2 == 0)))] [] (fun fb => by kernel_rfl) rfl trivial ?_
 refine WL.cutV (T := Bool) 7 (fun t => [(102, (.bool t))]) (fun t => ((t9585.2 == 0) && (t9585.1 == x12982)) = t) (fun K => ?_) ?_
 ·
  rcases Bool.eq_false_or_eq_true (t9585.2 == 0) with h12996 | h12996
  ·
   refine WL.setB 98 h12996 rfl ?_
   refine seg 7 [] [102] [(102, (.bool (t9585.1 == x12982)))] [] (fun fb => by kernel_rfl) rfl trivial ?_
   exact WL.toV K (t9585.1 == x12982) [102] rfl (by first | (rw [h12996]; done) | (rw [h12996]; rfl))
  refine WL.setB 98 h12996 rfl ?_
  refine seg 7 [] [102] [(102, (.bool false))] [] (fun fb => by kernel_rfl) rfl trivial ?_
  exact WL.toV K false [102] rfl (by first | (rw [h12996]; done) | (rw [h12996]; rfl))
 rintro b12997 rfl
 refine seg 8 [] [103] [(103, (.bool ((t9585.2 == 0) && (t9585.1 == x12982))))] [] (fun fb => by kernel_rfl) rfl trivial ?_
 obtain ⟨x13004, hx13005, hf⟩ := bind_some hf
 refine WL.cutW (T := Bool) 10 (fun t => [(105, (.bool t))]) (fun t w1 => (St NoS w w1 [rowR enc_Tile A_p0 c_p0 p0, rowR encInt A_p1_Torus_Cells c_p1_Torus_Cells p1.Torus.Cells] [] ∧ x13004 = t) ∧ CellsOK [] w1) (fun K => ?_) ?_
 ·
  rcases br_some hx13005 with ⟨h13006, hx13005⟩ | ⟨h13006, hx13005⟩
  ·
   refine WL.setB 103 h13006 rfl ?_
   obtain ⟨t13007, ht13008, hx13005⟩ := bind_some hx13005
   refine WL.call (some 104) 14 #[] (fun fb => by kernel_rfl) (law09_awake_calls _ t13007 _ ht13008) (fun v w13009 hR13010 => ?_)
   obtain ⟨rfl, hk_⟩ := hR13010
   have hS13011 := hS12993.keepN hk_
   refine ⟨trivial, ?_⟩
   refine seg 10 [] [105] [(105, (.bool t13007))] [] (fun fb => by kernel_rfl) rfl trivial ?_
   injection hx13005 with hx13005
   exact WL.to K t13007 [105] rfl ⟨⟨(hS13011.subR [0, 1]).sub [] (by decide), hx13005.symm⟩, trivial⟩
  refine WL.setB 103 h13006 rfl ?_
  refine seg 10 [] [105] [(105, (.bool false))] [] (fun fb => by kernel_rfl) rfl trivial ?_
  injection hx13005 with hx13005
  exact WL.to K false [105] rfl ⟨⟨(hS12993.subR [0, 1]).sub [] (by decide), hx13005.symm⟩, trivial⟩
 rintro y13012 w13014 ⟨⟨hS13015, hq13013⟩, hF13016⟩
 subst hq13013
 refine seg 11 [] [4] [(4, (.bool x13004))] [] (fun fb => by kernel_rfl) rfl trivial ?_
 refine WL.done rfl ?_
 refine WX.next ?_
 refine WC.ret ?_
 injection hf with hf
 subst hf
 exact WX.ret_ [] (.bool x13004) [] (fun fb => by kernel_rfl) trivial ⟨_, rfl, rfl, hS13015.keep⟩
end Gp
