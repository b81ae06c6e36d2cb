/- Walks: each function of the program computes its plain function. -/
import Derived.Test.YtcmgcacpmbldeaaDoorGx1
set_option linter.unusedVariables false
set_option linter.unusedSimpArgs false
namespace Gp
open Go Gw Go.Proofs
theorem tile_Cut_calls (k : Nat) (p0 : Pattern) (p1 : Int) (p2 : Int) (p3 : Int) (p4 : Int) (A_p0_Cells : Option Addr) (c_p0_Cells : Nat) (r : Pattern × Int) (w : World) (hR0 : RO NoS w (rowR encInt A_p0_Cells c_p0_Cells p0.Cells)) (hf : tile_Cut k p0 p1 p2 p3 p4 = some r) :
    CallsR Tryd.prog 31 #[(.agg #[(.int .i64 p0.Width), (.int .i64 p0.Height), (.slice A_p0_Cells p0.Cells.length c_p0_Cells)]), (.int .i64 p1), (.int .i64 p2), (.int .i64 p3), (.int .i64 p4)] w (fun v w' => ∃ (A1_ : Option Addr), ∃ (c1_ : Nat), v = (.tuple #[(.agg #[(.int .i64 r.1.Width), (.int .i64 r.1.Height), (.slice A1_ r.1.Cells.length c1_)]), (.int .i64 r.2)]) ∧ St NoS w w' [] [rowO 3 encInt A1_ c1_ r.1.Cells]) := by
  have hS : St NoS w w [rowR encInt A_p0_Cells c_p0_Cells p0.Cells] [] := St.init (ro_cons hR0 (ro_nil _ _))
  refine enter 90 Tryd.func31 rfl Tryd.ntmps31 rfl ?_
  unfold tile_Cut at hf
  refine WC.seq ?_
  refine WC.region ?_
  refine WL.new hS 5 [] (fun g => (.pointer (some ⟨g, 0, none⟩))) (.cells #[(.int .i64 p0.Width), (.int .i64 p0.Height), (.slice A_p0_Cells p0.Cells.length c_p0_Cells)] 35 (0, 0)) [] (fun fb g => by kernel_rfl) trivial (fun g7395 w7396 hS7397 => ?_)
  refine ⟨trivial, ?_⟩
  refine WL.new hS7397 10 [] (fun g => (.pointer (some ⟨g, 0, none⟩))) (.cells #[(.int .i64 0), (.int .i64 0), (.slice none 0 0)] 35 (0, 0)) [] (fun fb g => by kernel_rfl) trivial (fun g7399 w7400 hS7401 => ?_)
  refine ⟨trivial, ?_⟩
  refine seg 3 [] [1, 2, 3, 4, 5, 10] [(1, (.int .i64 p1)), (2, (.int .i64 p2)), (3, (.int .i64 p3)), (4, (.int .i64 p4)), (5, (.pointer (some ⟨g7395, 0, none⟩))), (10, (.pointer (some ⟨g7399, 0, none⟩)))] [] (fun fb => by kernel_rfl) rfl trivial ?_
  refine WL.done rfl ?_
  refine WX.next ?_
  refine WC.seq ?_
  refine WC.seq ?_
  refine WC.region ?_
  refine seg 1 [.v (.int .i64 p0.Width), .v (.int .i64 p0.Height), .v (.slice A_p0_Cells p0.Cells.length c_p0_Cells)] [1, 2, 3, 4, 5, 10, 15] [(1, (.int .i64 p1)), (2, (.int .i64 p2)), (3, (.int .i64 p3)), (4, (.int .i64 p4)), (5, (.pointer (some ⟨g7395, 0, none⟩))), (10, (.pointer (some ⟨g7399, 0, none⟩))), (15, (.agg #[(.int .i64 p0.Width), (.int .i64 p0.Height), (.slice A_p0_Cells p0.Cells.length c_p0_Cells)]))] [.cell ⟨g7395, 0, none⟩ (.int .i64 p0.Width), .cell ⟨g7395, 1, none⟩ (.int .i64 p0.Height), .cell ⟨g7395, 2, none⟩ (.slice A_p0_Cells p0.Cells.length c_p0_Cells)] (fun fb => by kernel_rfl) rfl ⟨hS7401.cell 1 rfl 0 rfl, hS7401.cell 1 rfl 1 rfl, hS7401.cell 1 rfl 2 rfl, trivial⟩ ?_
  obtain ⟨t7403, ht7404, hf⟩ := bind_some hf
  refine WL.call (some 16) 54 #[(.agg #[(.int .i64 p0.Width), (.int .i64 p0.Height), (.slice A_p0_Cells p0.Cells.length c_p0_Cells)])] (fun fb => by kernel_rfl) (tile_Form_calls p0 A_p0_Cells c_p0_Cells t7403 _ (hS7401.rd 0) ht7404) (fun v w7405 hR7406 => ?_)
  obtain ⟨rfl, hk_⟩ := hR7406
  have hS7407 := hS7401.keepN hk_
  refine ⟨trivial, ?_⟩
  refine seg 3 [] [1, 2, 3, 4, 5, 10, 17] [(1, (.int .i64 p1)), (2, (.int .i64 p2)), (3, (.int .i64 p3)), (4, (.int .i64 p4)), (5, (.pointer (some ⟨g7395, 0, none⟩))), (10, (.pointer (some ⟨g7399, 0, none⟩))), (17, (.bool (!t7403)))] [] (fun fb => by kernel_rfl) rfl trivial ?_
  refine WL.done rfl ?_
  refine WX.next ?_
  rcases br_some hf with ⟨h7408, hf⟩ | ⟨h7408, hf⟩
  · refine WC.condT2 (fun fb => by kernel_rfl) h7408 ?_
    refine WC.seq ?_
    refine WC.region ?_
    refine seg 1 [] [10, 18] [(10, (.pointer (some ⟨g7399, 0, none⟩))), (18, (.agg #[(.int .i64 0), (.int .i64 0), (.slice none 0 0)]))] [] (fun fb => by kernel_rfl) rfl trivial ?_
    refine WL.store hS7407 0 rfl [(0, (.int .i64 0)), (1, (.int .i64 0)), (2, (.slice none 0 0))] #[(.int .i64 0), (.int .i64 0), (.slice none 0 0)] (fun fb => by kernel_rfl) (by kernel_rfl) rfl [1] (by decide) (by decide) (fun w7409 hS7410 => ?_)
    refine ⟨trivial, ?_⟩
    refine seg 3 [] [10, 11] [(10, (.pointer (some ⟨g7399, 0, none⟩))), (11, (.int .i64 1))] [] (fun fb => by kernel_rfl) rfl trivial ?_
    refine WL.done rfl ?_
    refine WX.next ?_
    refine WC.ret ?_
    have hS7411 := hS7410.nilrow 3 encInt
    injection hf with hf
    subst hf
    exact WX.thenR (WX.ret_ [.v (.int .i64 0), .v (.int .i64 0), .v (.slice none 0 0)] (.tuple #[(.agg #[(.int .i64 0), (.int .i64 0), (.slice none ([] : List Int).length 0)]), (.int .i64 1)]) [.cell ⟨g7399, 0, none⟩ (.int .i64 0), .cell ⟨g7399, 1, none⟩ (.int .i64 0), .cell ⟨g7399, 2, none⟩ (.slice none 0 0)] (fun fb => by kernel_rfl) ⟨hS7410.cell 0 rfl 0 rfl, hS7410.cell 0 rfl 1 rfl, hS7410.cell 0 rfl 2 rfl, trivial⟩ ⟨_, rfl, none, 0, rfl, (hS7411.sub [0] (by decide)).noR⟩)
  refine WC.condF2 (fun fb => by kernel_rfl) h7408 ?_
  refine WC.skip ?_
  refine WX.next ?_
  refine WC.seq ?_
  refine WC.seq ?_
  refine WC.region ?_
  refine seg 3 [] [1, 2, 3, 4, 5, 10, 21] [(1, (.int .i64 p1)), (2, (.int .i64 p2)), (3, (.int .i64 p3)), (4, (.int .i64 p4)), (5, (.pointer (some ⟨g7395, 0, none⟩))), (10, (.pointer (some ⟨g7399, 0, none⟩))), (21, (.bool (decide (p3 < 1))))] [] (fun fb => by kernel_rfl) rfl trivial ?_
  refine WL.cutV (T := Bool) 6 (fun t => [(24, (.bool t)), (1, (.int .i64 p1)), (2, (.int .i64 p2)), (3, (.int .i64 p3)), (4, (.int .i64 p4)), (5, (.pointer (some ⟨g7395, 0, none⟩))), (10, (.pointer (some ⟨g7399, 0, none⟩)))]) (fun t => t = ((decide (p3 < 1)) || (decide (p4 < 1)))) (fun K => ?_) ?_
  ·
    rcases Bool.eq_false_or_eq_true (decide (p3 < 1)) with h7412 | h7412
    ·
      refine WL.setB 21 h7412 rfl ?_
      refine seg 6 [] [1, 2, 3, 4, 5, 10, 24] [(1, (.int .i64 p1)), (2, (.int .i64 p2)), (3, (.int .i64 p3)), (4, (.int .i64 p4)), (5, (.pointer (some ⟨g7395, 0, none⟩))), (10, (.pointer (some ⟨g7399, 0, none⟩))), (24, (.bool true))] [] (fun fb => by kernel_rfl) rfl trivial ?_
      exact WL.toV K true [24, 1, 2, 3, 4, 5, 10] rfl (by first | (rw [h7412]; done) | (rw [h7412]; rfl))
    refine WL.setB 21 h7412 rfl ?_
    refine seg 6 [] [1, 2, 3, 4, 5, 10, 24] [(1, (.int .i64 p1)), (2, (.int .i64 p2)), (3, (.int .i64 p3)), (4, (.int .i64 p4)), (5, (.pointer (some ⟨g7395, 0, none⟩))), (10, (.pointer (some ⟨g7399, 0, none⟩))), (24, (.bool (decide (p4 < 1))))] [] (fun fb => by kernel_rfl) rfl trivial ?_
    exact WL.toV K (decide (p4 < 1)) [24, 1, 2, 3, 4, 5, 10] rfl (by first | (rw [h7412]; done) | (rw [h7412]; rfl))
  rintro b7413 rfl
  refine seg 7 [] [1, 2, 3, 4, 5, 10, 25] [(1, (.int .i64 p1)), (2, (.int .i64 p2)), (3, (.int .i64 p3)), (4, (.int .i64 p4)), (5, (.pointer (some ⟨g7395, 0, none⟩))), (10, (.pointer (some ⟨g7399, 0, none⟩))), (25, (.bool ((decide (p3 < 1)) || (decide (p4 < 1)))))] [] (fun fb => by kernel_rfl) rfl trivial ?_
  refine WL.cutV (T := Bool) 10 (fun t => [(28, (.bool t)), (1, (.int .i64 p1)), (2, (.int .i64 p2)), (3, (.int .i64 p3)), (4, (.int .i64 p4)), (5, (.pointer (some ⟨g7395, 0, none⟩))), (10, (.pointer (some ⟨g7399, 0, none⟩)))]) (fun t => t = (((decide (p3 < 1)) || (decide (p4 < 1))) || (decide (p1 < 0)))) (fun K => ?_) ?_
  ·
    rcases Bool.eq_false_or_eq_true ((decide (p3 < 1)) || (decide (p4 < 1))) with h7414 | h7414
    ·
      refine WL.setB 25 h7414 rfl ?_
      refine seg 10 [] [1, 2, 3, 4, 5, 10, 28] [(1, (.int .i64 p1)), (2, (.int .i64 p2)), (3, (.int .i64 p3)), (4, (.int .i64 p4)), (5, (.pointer (some ⟨g7395, 0, none⟩))), (10, (.pointer (some ⟨g7399, 0, none⟩))), (28, (.bool true))] [] (fun fb => by kernel_rfl) rfl trivial ?_
      exact WL.toV K true [28, 1, 2, 3, 4, 5, 10] rfl (by first | (rw [h7414]; done) | (rw [h7414]; rfl))
    refine WL.setB 25 h7414 rfl ?_
    refine seg 10 [] [1, 2, 3, 4, 5, 10, 28] [(1, (.int .i64 p1)), (2, (.int .i64 p2)), (3, (.int .i64 p3)), (4, (.int .i64 p4)), (5, (.pointer (some ⟨g7395, 0, none⟩))), (10, (.pointer (some ⟨g7399, 0, none⟩))), (28, (.bool (decide (p1 < 0))))] [] (fun fb => by kernel_rfl) rfl trivial ?_
    exact WL.toV K (decide (p1 < 0)) [28, 1, 2, 3, 4, 5, 10] rfl (by first | (rw [h7414]; done) | (rw [h7414]; rfl))
  rintro b7415 rfl
  refine seg 11 [] [1, 2, 3, 4, 5, 10, 29] [(1, (.int .i64 p1)), (2, (.int .i64 p2)), (3, (.int .i64 p3)), (4, (.int .i64 p4)), (5, (.pointer (some ⟨g7395, 0, none⟩))), (10, (.pointer (some ⟨g7399, 0, none⟩))), (29, (.bool (((decide (p3 < 1)) || (decide (p4 < 1))) || (decide (p1 < 0)))))] [] (fun fb => by kernel_rfl) rfl trivial ?_
  refine WL.cutV (T := Bool) 14 (fun t => [(32, (.bool t)), (1, (.int .i64 p1)), (2, (.int .i64 p2)), (3, (.int .i64 p3)), (4, (.int .i64 p4)), (5, (.pointer (some ⟨g7395, 0, none⟩))), (10, (.pointer (some ⟨g7399, 0, none⟩)))]) (fun t => t = ((((decide (p3 < 1)) || (decide (p4 < 1))) || (decide (p1 < 0))) || (decide (p2 < 0)))) (fun K => ?_) ?_
  ·
    rcases Bool.eq_false_or_eq_true (((decide (p3 < 1)) || (decide (p4 < 1))) || (decide (p1 < 0))) with h7416 | h7416
    ·
      refine WL.setB 29 h7416 rfl ?_
      refine seg 14 [] [1, 2, 3, 4, 5, 10, 32] [(1, (.int .i64 p1)), (2, (.int .i64 p2)), (3, (.int .i64 p3)), (4, (.int .i64 p4)), (5, (.pointer (some ⟨g7395, 0, none⟩))), (10, (.pointer (some ⟨g7399, 0, none⟩))), (32, (.bool true))] [] (fun fb => by kernel_rfl) rfl trivial ?_
      exact WL.toV K true [32, 1, 2, 3, 4, 5, 10] rfl (by first | (rw [h7416]; done) | (rw [h7416]; rfl))
    refine WL.setB 29 h7416 rfl ?_
    refine seg 14 [] [1, 2, 3, 4, 5, 10, 32] [(1, (.int .i64 p1)), (2, (.int .i64 p2)), (3, (.int .i64 p3)), (4, (.int .i64 p4)), (5, (.pointer (some ⟨g7395, 0, none⟩))), (10, (.pointer (some ⟨g7399, 0, none⟩))), (32, (.bool (decide (p2 < 0))))] [] (fun fb => by kernel_rfl) rfl trivial ?_
    exact WL.toV K (decide (p2 < 0)) [32, 1, 2, 3, 4, 5, 10] rfl (by first | (rw [h7416]; done) | (rw [h7416]; rfl))
  rintro b7417 rfl
  refine seg 15 [] [1, 2, 3, 4, 5, 10, 33] [(1, (.int .i64 p1)), (2, (.int .i64 p2)), (3, (.int .i64 p3)), (4, (.int .i64 p4)), (5, (.pointer (some ⟨g7395, 0, none⟩))), (10, (.pointer (some ⟨g7399, 0, none⟩))), (33, (.bool ((((decide (p3 < 1)) || (decide (p4 < 1))) || (decide (p1 < 0))) || (decide (p2 < 0)))))] [] (fun fb => by kernel_rfl) rfl trivial ?_
  refine WL.cutV (T := Bool) 20 (fun t => [(38, (.bool t)), (1, (.int .i64 p1)), (2, (.int .i64 p2)), (3, (.int .i64 p3)), (4, (.int .i64 p4)), (5, (.pointer (some ⟨g7395, 0, none⟩))), (10, (.pointer (some ⟨g7399, 0, none⟩)))]) (fun t => t = (((((decide (p3 < 1)) || (decide (p4 < 1))) || (decide (p1 < 0))) || (decide (p2 < 0))) || (decide (p3 > p0.Width)))) (fun K => ?_) ?_
  ·
    rcases Bool.eq_false_or_eq_true ((((decide (p3 < 1)) || (decide (p4 < 1))) || (decide (p1 < 0))) || (decide (p2 < 0))) with h7418 | h7418
    ·
      refine WL.setB 33 h7418 rfl ?_
      refine seg 20 [] [1, 2, 3, 4, 5, 10, 38] [(1, (.int .i64 p1)), (2, (.int .i64 p2)), (3, (.int .i64 p3)), (4, (.int .i64 p4)), (5, (.pointer (some ⟨g7395, 0, none⟩))), (10, (.pointer (some ⟨g7399, 0, none⟩))), (38, (.bool true))] [] (fun fb => by kernel_rfl) rfl trivial ?_
      exact WL.toV K true [38, 1, 2, 3, 4, 5, 10] rfl (by first | (rw [h7418]; done) | (rw [h7418]; rfl))
    refine WL.setB 33 h7418 rfl ?_
    refine seg 20 [.v (.int .i64 p0.Width)] [1, 2, 3, 4, 5, 10, 38] [(1, (.int .i64 p1)), (2, (.int .i64 p2)), (3, (.int .i64 p3)), (4, (.int .i64 p4)), (5, (.pointer (some ⟨g7395, 0, none⟩))), (10, (.pointer (some ⟨g7399, 0, none⟩))), (38, (.bool (decide (p3 > p0.Width))))] [.cell ⟨g7395, 0, none⟩ (.int .i64 p0.Width)] (fun fb => by kernel_rfl) rfl ⟨hS7407.cell 1 rfl 0 rfl, trivial⟩ ?_
    exact WL.toV K (decide (p3 > p0.Width)) [38, 1, 2, 3, 4, 5, 10] rfl (by first | (rw [h7418]; done) | (rw [h7418]; rfl))
  rintro b7419 rfl
  refine seg 21 [] [1, 2, 3, 4, 5, 10, 39] [(1, (.int .i64 p1)), (2, (.int .i64 p2)), (3, (.int .i64 p3)), (4, (.int .i64 p4)), (5, (.pointer (some ⟨g7395, 0, none⟩))), (10, (.pointer (some ⟨g7399, 0, none⟩))), (39, (.bool (((((decide (p3 < 1)) || (decide (p4 < 1))) || (decide (p1 < 0))) || (decide (p2 < 0))) || (decide (p3 > p0.Width)))))] [] (fun fb => by kernel_rfl) rfl trivial ?_
  refine WL.cutV (T := Bool) 26 (fun t => [(44, (.bool t)), (1, (.int .i64 p1)), (2, (.int .i64 p2)), (3, (.int .i64 p3)), (4, (.int .i64 p4)), (5, (.pointer (some ⟨g7395, 0, none⟩))), (10, (.pointer (some ⟨g7399, 0, none⟩)))]) (fun t => t = ((((((decide (p3 < 1)) || (decide (p4 < 1))) || (decide (p1 < 0))) || (decide (p2 < 0))) || (decide (p3 > p0.Width))) || (decide (p4 > p0.Height)))) (fun K => ?_) ?_
  ·
    rcases Bool.eq_false_or_eq_true (((((decide (p3 < 1)) || (decide (p4 < 1))) || (decide (p1 < 0))) || (decide (p2 < 0))) || (decide (p3 > p0.Width))) with h7420 | h7420
    ·
      refine WL.setB 39 h7420 rfl ?_
      refine seg 26 [] [1, 2, 3, 4, 5, 10, 44] [(1, (.int .i64 p1)), (2, (.int .i64 p2)), (3, (.int .i64 p3)), (4, (.int .i64 p4)), (5, (.pointer (some ⟨g7395, 0, none⟩))), (10, (.pointer (some ⟨g7399, 0, none⟩))), (44, (.bool true))] [] (fun fb => by kernel_rfl) rfl trivial ?_
      exact WL.toV K true [44, 1, 2, 3, 4, 5, 10] rfl (by first | (rw [h7420]; done) | (rw [h7420]; rfl))
    refine WL.setB 39 h7420 rfl ?_
    refine seg 26 [.v (.int .i64 p0.Height)] [1, 2, 3, 4, 5, 10, 44] [(1, (.int .i64 p1)), (2, (.int .i64 p2)), (3, (.int .i64 p3)), (4, (.int .i64 p4)), (5, (.pointer (some ⟨g7395, 0, none⟩))), (10, (.pointer (some ⟨g7399, 0, none⟩))), (44, (.bool (decide (p4 > p0.Height))))] [.cell ⟨g7395, 1, none⟩ (.int .i64 p0.Height)] (fun fb => by kernel_rfl) rfl ⟨hS7407.cell 1 rfl 1 rfl, trivial⟩ ?_
    exact WL.toV K (decide (p4 > p0.Height)) [44, 1, 2, 3, 4, 5, 10] rfl (by first | (rw [h7420]; done) | (rw [h7420]; rfl))
  rintro b7421 rfl
  refine seg 27 [] [1, 2, 3, 4, 5, 10, 45] [(1, (.int .i64 p1)), (2, (.int .i64 p2)), (3, (.int .i64 p3)), (4, (.int .i64 p4)), (5, (.pointer (some ⟨g7395, 0, none⟩))), (10, (.pointer (some ⟨g7399, 0, none⟩))), (45, (.bool ((((((decide (p3 < 1)) || (decide (p4 < 1))) || (decide (p1 < 0))) || (decide (p2 < 0))) || (decide (p3 > p0.Width))) || (decide (p4 > p0.Height)))))] [] (fun fb => by kernel_rfl) rfl trivial ?_
  refine WL.cutV (T := Bool) 34 (fun t => [(52, (.bool t)), (1, (.int .i64 p1)), (2, (.int .i64 p2)), (3, (.int .i64 p3)), (4, (.int .i64 p4)), (5, (.pointer (some ⟨g7395, 0, none⟩))), (10, (.pointer (some ⟨g7399, 0, none⟩)))]) (fun t => t = (((((((decide (p3 < 1)) || (decide (p4 < 1))) || (decide (p1 < 0))) || (decide (p2 < 0))) || (decide (p3 > p0.Width))) || (decide (p4 > p0.Height))) || (decide (p1 > w64 (p0.Width - p3))))) (fun K => ?_) ?_
  ·
    rcases Bool.eq_false_or_eq_true ((((((decide (p3 < 1)) || (decide (p4 < 1))) || (decide (p1 < 0))) || (decide (p2 < 0))) || (decide (p3 > p0.Width))) || (decide (p4 > p0.Height))) with h7422 | h7422
    ·
      refine WL.setB 45 h7422 rfl ?_
      refine seg 34 [] [1, 2, 3, 4, 5, 10, 52] [(1, (.int .i64 p1)), (2, (.int .i64 p2)), (3, (.int .i64 p3)), (4, (.int .i64 p4)), (5, (.pointer (some ⟨g7395, 0, none⟩))), (10, (.pointer (some ⟨g7399, 0, none⟩))), (52, (.bool true))] [] (fun fb => by kernel_rfl) rfl trivial ?_
      exact WL.toV K true [52, 1, 2, 3, 4, 5, 10] rfl (by first | (rw [h7422]; done) | (rw [h7422]; rfl))
    refine WL.setB 45 h7422 rfl ?_
    refine seg 34 [.v (.int .i64 p0.Width)] [1, 2, 3, 4, 5, 10, 52] [(1, (.int .i64 p1)), (2, (.int .i64 p2)), (3, (.int .i64 p3)), (4, (.int .i64 p4)), (5, (.pointer (some ⟨g7395, 0, none⟩))), (10, (.pointer (some ⟨g7399, 0, none⟩))), (52, (.bool (decide (p1 > w64 (p0.Width - p3)))))] [.cell ⟨g7395, 0, none⟩ (.int .i64 p0.Width)] (fun fb => by kernel_rfl) rfl ⟨hS7407.cell 1 rfl 0 rfl, trivial⟩ ?_
    exact WL.toV K (decide (p1 > w64 (p0.Width - p3))) [52, 1, 2, 3, 4, 5, 10] rfl (by first | (rw [h7422]; done) | (rw [h7422]; rfl))
  rintro b7423 rfl
  refine seg 35 [] [1, 2, 3, 4, 5, 10, 53] [(1, (.int .i64 p1)), (2, (.int .i64 p2)), (3, (.int .i64 p3)), (4, (.int .i64 p4)), (5, (.pointer (some ⟨g7395, 0, none⟩))), (10, (.pointer (some ⟨g7399, 0, none⟩))), (53, (.bool (((((((decide (p3 < 1)) || (decide (p4 < 1))) || (decide (p1 < 0))) || (decide (p2 < 0))) || (decide (p3 > p0.Width))) || (decide (p4 > p0.Height))) || (decide (p1 > w64 (p0.Width - p3))))))] [] (fun fb => by kernel_rfl) rfl trivial ?_
  refine WL.cutV (T := Bool) 42 (fun t => [(60, (.bool t)), (1, (.int .i64 p1)), (2, (.int .i64 p2)), (3, (.int .i64 p3)), (4, (.int .i64 p4)), (5, (.pointer (some ⟨g7395, 0, none⟩))), (10, (.pointer (some ⟨g7399, 0, none⟩)))]) (fun t => t = ((((((((decide (p3 < 1)) || (decide (p4 < 1))) || (decide (p1 < 0))) || (decide (p2 < 0))) || (decide (p3 > p0.Width))) || (decide (p4 > p0.Height))) || (decide (p1 > w64 (p0.Width - p3)))) || (decide (p2 > w64 (p0.Height - p4))))) (fun K => ?_) ?_
  ·
    rcases Bool.eq_false_or_eq_true (((((((decide (p3 < 1)) || (decide (p4 < 1))) || (decide (p1 < 0))) || (decide (p2 < 0))) || (decide (p3 > p0.Width))) || (decide (p4 > p0.Height))) || (decide (p1 > w64 (p0.Width - p3)))) with h7424 | h7424
    ·
      refine WL.setB 53 h7424 rfl ?_
      refine seg 42 [] [1, 2, 3, 4, 5, 10, 60] [(1, (.int .i64 p1)), (2, (.int .i64 p2)), (3, (.int .i64 p3)), (4, (.int .i64 p4)), (5, (.pointer (some ⟨g7395, 0, none⟩))), (10, (.pointer (some ⟨g7399, 0, none⟩))), (60, (.bool true))] [] (fun fb => by kernel_rfl) rfl trivial ?_
      exact WL.toV K true [60, 1, 2, 3, 4, 5, 10] rfl (by first | (rw [h7424]; done) | (rw [h7424]; rfl))
    refine WL.setB 53 h7424 rfl ?_
    refine seg 42 [.v (.int .i64 p0.Height)] [1, 2, 3, 4, 5, 10, 60] [(1, (.int .i64 p1)), (2, (.int .i64 p2)), (3, (.int .i64 p3)), (4, (.int .i64 p4)), (5, (.pointer (some ⟨g7395, 0, none⟩))), (10, (.pointer (some ⟨g7399, 0, none⟩))), (60, (.bool (decide (p2 > w64 (p0.Height - p4)))))] [.cell ⟨g7395, 1, none⟩ (.int .i64 p0.Height)] (fun fb => by kernel_rfl) rfl ⟨hS7407.cell 1 rfl 1 rfl, trivial⟩ ?_
    exact WL.toV K (decide (p2 > w64 (p0.Height - p4))) [60, 1, 2, 3, 4, 5, 10] rfl (by first | (rw [h7424]; done) | (rw [h7424]; rfl))
  rintro b7425 rfl
  refine WL.done rfl ?_
  refine WX.next ?_
  rcases br_some hf with ⟨h7426, hf⟩ | ⟨h7426, hf⟩
  · refine WC.condT2 (fun fb => by kernel_rfl) h7426 ?_
    refine WC.seq ?_
    refine WC.region ?_
    refine seg 1 [] [10, 61] [(10, (.pointer (some ⟨g7399, 0, none⟩))), (61, (.agg #[(.int .i64 0), (.int .i64 0), (.slice none 0 0)]))] [] (fun fb => by kernel_rfl) rfl trivial ?_
    refine WL.store hS7407 0 rfl [(0, (.int .i64 0)), (1, (.int .i64 0)), (2, (.slice none 0 0))] #[(.int .i64 0), (.int .i64 0), (.slice none 0 0)] (fun fb => by kernel_rfl) (by kernel_rfl) rfl [1] (by decide) (by decide) (fun w7427 hS7428 => ?_)
    refine ⟨trivial, ?_⟩
    refine seg 3 [] [10, 11] [(10, (.pointer (some ⟨g7399, 0, none⟩))), (11, (.int .i64 2))] [] (fun fb => by kernel_rfl) rfl trivial ?_
    refine WL.done rfl ?_
    refine WX.next ?_
    refine WC.ret ?_
    have hS7429 := hS7428.nilrow 3 encInt
    injection hf with hf
    subst hf
    exact WX.thenR (WX.ret_ [.v (.int .i64 0), .v (.int .i64 0), .v (.slice none 0 0)] (.tuple #[(.agg #[(.int .i64 0), (.int .i64 0), (.slice none ([] : List Int).length 0)]), (.int .i64 2)]) [.cell ⟨g7399, 0, none⟩ (.int .i64 0), .cell ⟨g7399, 1, none⟩ (.int .i64 0), .cell ⟨g7399, 2, none⟩ (.slice none 0 0)] (fun fb => by kernel_rfl) ⟨hS7428.cell 0 rfl 0 rfl, hS7428.cell 0 rfl 1 rfl, hS7428.cell 0 rfl 2 rfl, trivial⟩ ⟨_, rfl, none, 0, rfl, (hS7429.sub [0] (by decide)).noR⟩)
  refine WC.condF2 (fun fb => by kernel_rfl) h7426 ?_
  refine WC.skip ?_
  refine WX.next ?_
  refine WC.seq ?_
  refine WC.region ?_
  refine seg 3 [] [1, 2, 3, 4, 5, 10, 64] [(1, (.int .i64 p1)), (2, (.int .i64 p2)), (3, (.int .i64 p3)), (4, (.int .i64 p4)), (5, (.pointer (some ⟨g7395, 0, none⟩))), (10, (.pointer (some ⟨g7399, 0, none⟩))), (64, (.agg #[(.int .i64 p3), (.int .i64 p4), (.slice none 0 0)]))] [] (fun fb => by kernel_rfl) rfl trivial ?_
  refine WL.new hS7407 12 [] (fun g => (.pointer (some ⟨g, 0, none⟩))) (.cells #[(.int .i64 0), (.int .i64 0), (.slice none 0 0)] 35 (0, 0)) [] (fun fb g => by kernel_rfl) trivial (fun g7430 w7431 hS7432 => ?_)
  refine ⟨trivial, ?_⟩
  refine WL.store hS7432 0 rfl [(0, (.int .i64 p3)), (1, (.int .i64 p4)), (2, (.slice none 0 0))] #[(.int .i64 p3), (.int .i64 p4), (.slice none 0 0)] (fun fb => by kernel_rfl) (by kernel_rfl) rfl [1, 2] (by decide) (by decide) (fun w7434 hS7435 => ?_)
  refine ⟨trivial, ?_⟩
  refine WL.done rfl ?_
  refine WX.next ?_
  refine WC.seq ?_
  refine WC.seq ?_
  refine WC.region ?_
  refine seg 2 [] [1, 2, 3, 5, 10, 12, 65, 66] [(1, (.int .i64 p1)), (2, (.int .i64 p2)), (3, (.int .i64 p3)), (5, (.pointer (some ⟨g7395, 0, none⟩))), (10, (.pointer (some ⟨g7399, 0, none⟩))), (12, (.pointer (some ⟨g7430, 0, none⟩))), (65, (.int .i64 p4)), (66, (.int .i64 0))] [] (fun fb => by kernel_rfl) rfl trivial ?_
  refine WL.done rfl ?_
  refine WX.next ?_
  have hS7485 := hS7435.nilrow 3 encInt
  obtain ⟨x7493, hx7494, hf⟩ := bind_some hf
  refine WC.cutN (T := (List Int) × (Option Addr) × Nat) (fun t => [(10, (.pointer (some ⟨g7399, 0, none⟩))), (12, (.pointer (some ⟨g7430, 0, none⟩)))]) (fun t w1 => St NoS w w1 [rowR encInt A_p0_Cells c_p0_Cells p0.Cells] [blk g7399 (.cells #[(.int .i64 0), (.int .i64 0), (.slice none 0 0)] 35 (0, 0)), blk g7430 (.cells #[(.int .i64 p3), (.int .i64 p4), (.slice t.2.1 t.1.length t.2.2)] 35 (0, 0)), rowO 3 encInt t.2.1 t.2.2 t.1] ∧ x7493 = t.1) (fun Kx7493 => ?_) ?_
  ·
    refine WC.block ?_
    refine WC.loop (T := ((List Int) × Int) × (Option Addr) × Nat) (fun t => [(1, (.int .i64 p1)), (2, (.int .i64 p2)), (3, (.int .i64 p3)), (5, (.pointer (some ⟨g7395, 0, none⟩))), (10, (.pointer (some ⟨g7399, 0, none⟩))), (12, (.pointer (some ⟨g7430, 0, none⟩))), (65, (.int .i64 p4)), (66, (.int .i64 t.1.2))]) (fun n t w1 => St NoS w w1 [rowR encInt A_p0_Cells c_p0_Cells p0.Cells] [blk g7395 (.cells #[(.int .i64 p0.Width), (.int .i64 p0.Height), (.slice A_p0_Cells p0.Cells.length c_p0_Cells)] 35 (0, 0)), blk g7399 (.cells #[(.int .i64 0), (.int .i64 0), (.slice none 0 0)] 35 (0, 0)), blk g7430 (.cells #[(.int .i64 p3), (.int .i64 p4), (.slice t.2.1 t.1.1.length t.2.2)] 35 (0, 0)), rowO 3 encInt t.2.1 t.2.2 t.1.1] ∧ tile_Cut.l0 n t.1.1 t.1.2 p0 p1 p2 p3 p4 = some x7493) k ((([] : List Int), 0), none, 0) [1, 2, 3, 5, 10, 12, 65, 66] rfl ⟨(hS7485.subR [0]).sub [3, 2, 1, 0] (by decide), hx7494⟩ ?_
    rintro k7495 ⟨⟨l7488, x7489⟩, A7486, c7487⟩ w7496 ⟨hS7497, hl7498⟩
    cases k7495 with
    | zero => rw [tile_Cut.l0] at hl7498; cases hl7498
    | succ k7495 =>
      rw [tile_Cut.l0] at hl7498
      refine WC.seq ?_
      refine WC.region ?_
      refine seg 1 [] [1, 2, 3, 5, 10, 12, 65, 66, 67] [(1, (.int .i64 p1)), (2, (.int .i64 p2)), (3, (.int .i64 p3)), (5, (.pointer (some ⟨g7395, 0, none⟩))), (10, (.pointer (some ⟨g7399, 0, none⟩))), (12, (.pointer (some ⟨g7430, 0, none⟩))), (65, (.int .i64 p4)), (66, (.int .i64 x7489)), (67, (.bool (decide (x7489 < p4))))] [] (fun fb => by kernel_rfl) rfl trivial ?_
      refine WL.done rfl ?_
      refine WX.next ?_
      refine WC.seq ?_
      rcases br_some hl7498 with ⟨h7499, hl7498⟩ | ⟨h7499, hl7498⟩
      · refine WC.condT2 (fun fb => by kernel_rfl) h7499 ?_
        refine WC.skip ?_
        refine WX.next ?_
        refine WC.seq ?_
        refine WC.block ?_
        refine WC.seq ?_
        refine WC.region ?_
        refine seg 2 [] [1, 2, 3, 5, 10, 12, 13, 65, 66] [(1, (.int .i64 p1)), (2, (.int .i64 p2)), (3, (.int .i64 p3)), (5, (.pointer (some ⟨g7395, 0, none⟩))), (10, (.pointer (some ⟨g7399, 0, none⟩))), (12, (.pointer (some ⟨g7430, 0, none⟩))), (13, (.int .i64 x7489)), (65, (.int .i64 p4)), (66, (.int .i64 x7489))] [] (fun fb => by kernel_rfl) rfl trivial ?_
        refine WL.done rfl ?_
        refine WX.next ?_
        refine WC.seq ?_
        refine WC.region ?_
        refine seg 9 [.v (.int .i64 p0.Width)] [1, 2, 3, 5, 10, 12, 14, 65, 66] [(1, (.int .i64 p1)), (2, (.int .i64 p2)), (3, (.int .i64 p3)), (5, (.pointer (some ⟨g7395, 0, none⟩))), (10, (.pointer (some ⟨g7399, 0, none⟩))), (12, (.pointer (some ⟨g7430, 0, none⟩))), (14, (.int .i64 (w64 ((w64 ((w64 (p2 + x7489)) * p0.Width)) + p1)))), (65, (.int .i64 p4)), (66, (.int .i64 x7489))] [.cell ⟨g7395, 0, none⟩ (.int .i64 p0.Width)] (fun fb => by kernel_rfl) rfl ⟨hS7497.cell 0 rfl 0 rfl, trivial⟩ ?_
        refine WL.done rfl ?_
        refine WX.next ?_
        refine WC.regionD ([(1, ⟨g7430, 2, none⟩, (.slice A7486 l7488.length c7487)), (3, ⟨g7395, 2, none⟩, (.slice A_p0_Cells p0.Cells.length c_p0_Cells))], [0, 1, 2, 3, 4, 5, 6, 7, 10], [[], [0], [], [2], [], [], [], [5, 6], [2, 3, 4, 5, 6, 7], [0, 1, 2, 3, 4, 5, 6, 7, 8], [0, 1, 2, 3, 4, 5, 6, 7, 8, 9], [0, 1, 2, 3, 4, 5, 6, 7, 8, 9, 10]]) [[0, 1, 2, 3, 4, 5, 6, 7, 8, 9, 10, 11]] (by kernel_rfl) (by kernel_rfl) (NoPanic.block (NoPanic.seq (NoPanic.seq (NoPanic.block (NoPanic.seq (NoPanic.body)))))) ?_
        have hS7510 := hS7497.drew
        revert hS7510
        generalize World.drew w7496 = w7509
        intro hS7510
        refine ⟨⟨hS7510.cell 2 rfl 2 rfl, hS7510.cell 0 rfl 2 rfl, trivial⟩, forallC ?_ (forallN)⟩
        refine segF 8 [.v (.slice A7486 l7488.length c7487), .v (.slice A_p0_Cells p0.Cells.length c_p0_Cells)] [1, 2, 3, 5, 10, 12, 65, 66, 78, 80, 81, 84] [(1, (.int .i64 p1)), (2, (.int .i64 p2)), (3, (.int .i64 p3)), (5, (.pointer (some ⟨g7395, 0, none⟩))), (10, (.pointer (some ⟨g7399, 0, none⟩))), (12, (.pointer (some ⟨g7430, 0, none⟩))), (65, (.int .i64 p4)), (66, (.int .i64 x7489)), (78, (.slice A7486 l7488.length c7487)), (80, (.slice A_p0_Cells p0.Cells.length c_p0_Cells)), (81, (.int .i64 (w64 ((w64 ((w64 (p2 + x7489)) * p0.Width)) + p1)))), (84, (.int .i64 (w64 ((w64 ((w64 ((w64 (p2 + x7489)) * p0.Width)) + p1)) + p3))))] [] [0, 1] [(1, ⟨g7430, 2, none⟩, (.slice A7486 l7488.length c7487)), (3, ⟨g7395, 2, none⟩, (.slice A_p0_Cells p0.Cells.length c_p0_Cells))] (fun fb => by kernel_rfl) rfl trivial rfl ?_
        obtain ⟨h7511, hl7498⟩ := as_some hl7498
        refine seg 9 [] [1, 2, 3, 5, 10, 12, 65, 66, 78, 85] [(1, (.int .i64 p1)), (2, (.int .i64 p2)), (3, (.int .i64 p3)), (5, (.pointer (some ⟨g7395, 0, none⟩))), (10, (.pointer (some ⟨g7399, 0, none⟩))), (12, (.pointer (some ⟨g7430, 0, none⟩))), (65, (.int .i64 p4)), (66, (.int .i64 x7489)), (78, (.slice A7486 l7488.length c7487)), (85, (.slice (subA A_p0_Cells c_p0_Cells (w64 ((w64 ((w64 (p2 + x7489)) * p0.Width)) + p1)).toNat 1) ((w64 ((w64 ((w64 ((w64 (p2 + x7489)) * p0.Width)) + p1)) + p3)).toNat - (w64 ((w64 ((w64 (p2 + x7489)) * p0.Width)) + p1)).toNat) (c_p0_Cells - (w64 ((w64 ((w64 (p2 + x7489)) * p0.Width)) + p1)).toNat)))] [.idx (some ⟨0, 0, none⟩) (w64 ((w64 ((w64 (p2 + x7489)) * p0.Width)) + p1)) ((w64 ((w64 ((w64 ((w64 (p2 + x7489)) * p0.Width)) + p1)) + p3)).toNat + 1), .idx (some ⟨0, 0, none⟩) (w64 ((w64 ((w64 ((w64 (p2 + x7489)) * p0.Width)) + p1)) + p3)) (c_p0_Cells + 1)] (fun fb => by kernel_rfl) rfl ⟨cut1 h7511.1 h7511.2.1, cut2 h7511.1 h7511.2.1 h7511.2.2 (hS7510.rd 0).1.2, trivial⟩ ?_
        refine WL.reE [1, 2, 3, 5, 10, 12, 65, 66, 78, 85] [(1, (.int .i64 p1)), (2, (.int .i64 p2)), (3, (.int .i64 p3)), (5, (.pointer (some ⟨g7395, 0, none⟩))), (10, (.pointer (some ⟨g7399, 0, none⟩))), (12, (.pointer (some ⟨g7430, 0, none⟩))), (65, (.int .i64 p4)), (66, (.int .i64 x7489)), (78, (.slice A7486 l7488.length c7487)), (85, (.slice (subA A_p0_Cells c_p0_Cells (w64 ((w64 ((w64 (p2 + x7489)) * p0.Width)) + p1)).toNat 1) ((w64 ((w64 ((w64 ((w64 (p2 + x7489)) * p0.Width)) + p1)) + p3)).toNat - (w64 ((w64 ((w64 (p2 + x7489)) * p0.Width)) + p1)).toNat) (c_p0_Cells - (w64 ((w64 ((w64 (p2 + x7489)) * p0.Width)) + p1)).toNat)))] [(1, (.int .i64 p1)), (2, (.int .i64 p2)), (3, (.int .i64 p3)), (5, (.pointer (some ⟨g7395, 0, none⟩))), (10, (.pointer (some ⟨g7399, 0, none⟩))), (12, (.pointer (some ⟨g7430, 0, none⟩))), (65, (.int .i64 p4)), (66, (.int .i64 x7489)), (78, (.slice A7486 l7488.length c7487)), (85, (.slice (subA A_p0_Cells c_p0_Cells (w64 ((w64 ((w64 (p2 + x7489)) * p0.Width)) + p1)).toNat 1) (cut p0.Cells (w64 ((w64 ((w64 (p2 + x7489)) * p0.Width)) + p1)) (w64 ((w64 ((w64 ((w64 (p2 + x7489)) * p0.Width)) + p1)) + p3))).length (c_p0_Cells - (w64 ((w64 ((w64 (p2 + x7489)) * p0.Width)) + p1)).toNat)))] rfl (by rw [cut_length h7511.1 h7511.2.1 h7511.2.2]) ?_
        have hS7512 := hS7510.cutR 0 rfl h7511.1 h7511.2.1 h7511.2.2
        obtain ⟨h7513, hl7498⟩ := as_some hl7498
        refine WL.append hS7512 3 (d := 86) (tS := 33) (z := (.int .i64 0)) (bytes := 8) (c2 := (c_p0_Cells - (w64 ((w64 ((w64 (p2 + x7489)) * p0.Width)) + p1)).toNat)) rfl (fun fb => by kernel_rfl) (hS7512.rd 0).1 (by kernel_rfl) (by kernel_rfl) rfl (by decide) h7513 (by decide) [0, 1, 2] (by decide) (by decide) (fun A7514 c7515 w7516 hS7517 => ?_)
        refine ⟨trivial, ?_⟩
        refine seg 11 [] [1, 2, 3, 5, 10, 12, 65, 66, 86, 87] [(1, (.int .i64 p1)), (2, (.int .i64 p2)), (3, (.int .i64 p3)), (5, (.pointer (some ⟨g7395, 0, none⟩))), (10, (.pointer (some ⟨g7399, 0, none⟩))), (12, (.pointer (some ⟨g7430, 0, none⟩))), (65, (.int .i64 p4)), (66, (.int .i64 x7489)), (86, (.slice A7514 (l7488 ++ (cut p0.Cells (w64 ((w64 ((w64 (p2 + x7489)) * p0.Width)) + p1)) (w64 ((w64 ((w64 ((w64 (p2 + x7489)) * p0.Width)) + p1)) + p3)))).length c7515)), (87, (.pointer (some ⟨g7430, 2, none⟩)))] [] (fun fb => by kernel_rfl) rfl trivial ?_
        refine WL.store hS7517 3 rfl [(2, (.slice A7514 (l7488 ++ (cut p0.Cells (w64 ((w64 ((w64 (p2 + x7489)) * p0.Width)) + p1)) (w64 ((w64 ((w64 ((w64 (p2 + x7489)) * p0.Width)) + p1)) + p3)))).length c7515))] #[(.int .i64 p3), (.int .i64 p4), (.slice A7514 (l7488 ++ (cut p0.Cells (w64 ((w64 ((w64 (p2 + x7489)) * p0.Width)) + p1)) (w64 ((w64 ((w64 ((w64 (p2 + x7489)) * p0.Width)) + p1)) + p3)))).length c7515)] (fun fb => by kernel_rfl) (by kernel_rfl) rfl [0, 1, 2] (by decide) (by decide) (fun w7518 hS7519 => ?_)
        refine ⟨trivial, ?_⟩
        refine WL.done rfl ?_
        refine WX.blockN (WX.next ?_)
        refine WC.region ?_
        refine seg 2 [] [1, 2, 3, 5, 10, 12, 65, 66] [(1, (.int .i64 p1)), (2, (.int .i64 p2)), (3, (.int .i64 p3)), (5, (.pointer (some ⟨g7395, 0, none⟩))), (10, (.pointer (some ⟨g7399, 0, none⟩))), (12, (.pointer (some ⟨g7430, 0, none⟩))), (65, (.int .i64 p4)), (66, (.int .i64 (w64 (x7489 + 1))))] [] (fun fb => by kernel_rfl) rfl trivial ?_
        refine WL.done rfl ?_
        exact WX.again k7495 (Nat.lt_succ_self _) ((l7488 ++ (cut p0.Cells (w64 ((w64 ((w64 (p2 + x7489)) * p0.Width)) + p1)) (w64 ((w64 ((w64 ((w64 (p2 + x7489)) * p0.Width)) + p1)) + p3))), w64 (x7489 + 1)), A7514, c7515) [1, 2, 3, 5, 10, 12, 65, 66] rfl ⟨(hS7519.subR [1]).sub [2, 3, 0, 1] (by decide), hl7498⟩
      refine WC.condF2 (fun fb => by kernel_rfl) h7499 ?_
      refine WC.exit ?_
      injection hl7498 with hl7498
      exact WX.thenX (WX.thenX (WX.blockHere (WX.to Kx7493 (l7488, A7486, c7487) [10, 12] rfl ⟨(hS7497.subR [0]).sub [1, 2, 3] (by decide), hl7498.symm⟩)))
  rintro ⟨y7523, A7490, c7491⟩ w7520 ⟨hS7521, hq7522⟩
  subst hq7522
  refine WX.next ?_
  refine WC.seq ?_
  refine WC.region ?_
  refine seg 1 [.v (.int .i64 p3), .v (.int .i64 p4), .v (.slice A7490 x7493.length c7491)] [10, 89] [(10, (.pointer (some ⟨g7399, 0, none⟩))), (89, (.agg #[(.int .i64 p3), (.int .i64 p4), (.slice A7490 x7493.length c7491)]))] [.cell ⟨g7430, 0, none⟩ (.int .i64 p3), .cell ⟨g7430, 1, none⟩ (.int .i64 p4), .cell ⟨g7430, 2, none⟩ (.slice A7490 x7493.length c7491)] (fun fb => by kernel_rfl) rfl ⟨hS7521.cell 1 rfl 0 rfl, hS7521.cell 1 rfl 1 rfl, hS7521.cell 1 rfl 2 rfl, trivial⟩ ?_
  refine WL.store hS7521 0 rfl [(0, (.int .i64 p3)), (1, (.int .i64 p4)), (2, (.slice A7490 x7493.length c7491))] #[(.int .i64 p3), (.int .i64 p4), (.slice A7490 x7493.length c7491)] (fun fb => by kernel_rfl) (by kernel_rfl) rfl [1, 2] (by decide) (by decide) (fun w7524 hS7525 => ?_)
  refine ⟨trivial, ?_⟩
  refine seg 3 [] [10, 11] [(10, (.pointer (some ⟨g7399, 0, none⟩))), (11, (.int .i64 0))] [] (fun fb => by kernel_rfl) rfl trivial ?_
  refine WL.done rfl ?_
  refine WX.next ?_
  refine WC.ret ?_
  injection hf with hf
  subst hf
  exact WX.ret_ [.v (.int .i64 p3), .v (.int .i64 p4), .v (.slice A7490 x7493.length c7491)] (.tuple #[(.agg #[(.int .i64 p3), (.int .i64 p4), (.slice A7490 x7493.length c7491)]), (.int .i64 0)]) [.cell ⟨g7399, 0, none⟩ (.int .i64 p3), .cell ⟨g7399, 1, none⟩ (.int .i64 p4), .cell ⟨g7399, 2, none⟩ (.slice A7490 x7493.length c7491)] (fun fb => by kernel_rfl) ⟨hS7525.cell 0 rfl 0 rfl, hS7525.cell 0 rfl 1 rfl, hS7525.cell 0 rfl 2 rfl, trivial⟩ ⟨_, rfl, A7490, c7491, rfl, (hS7525.sub [2] (by decide)).noR⟩
theorem tile_Repeat_calls (k : Nat) (p0 : Pattern) (p1 : Int) (p2 : Int) (A_p0_Cells : Option Addr) (c_p0_Cells : Nat) (r : Pattern × Int) (w : World) (hR0 : RO NoS w (rowR encInt A_p0_Cells c_p0_Cells p0.Cells)) (hf : tile_Repeat k p0 p1 p2 = some r) :
    CallsR Tryd.prog 32 #[(.agg #[(.int .i64 p0.Width), (.int .i64 p0.Height), (.slice A_p0_Cells p0.Cells.length c_p0_Cells)]), (.int .i64 p1), (.int .i64 p2)] w (fun v w' => ∃ (A1_ : Option Addr), ∃ (c1_ : Nat), v = (.tuple #[(.agg #[(.int .i64 r.1.Width), (.int .i64 r.1.Height), (.slice A1_ r.1.Cells.length c1_)]), (.int .i64 r.2)]) ∧ St NoS w w' [] [rowO 3 encInt A1_ c1_ r.1.Cells]) := by
  have hS : St NoS w w [rowR encInt A_p0_Cells c_p0_Cells p0.Cells] [] := St.init (ro_cons hR0 (ro_nil _ _))
  refine enter 70 Tryd.func32 rfl Tryd.ntmps32 rfl ?_
  unfold tile_Repeat at hf
  refine WC.seq ?_
  refine WC.region ?_
  refine WL.new hS 3 [] (fun g => (.pointer (some ⟨g, 0, none⟩))) (.cells #[(.int .i64 p0.Width), (.int .i64 p0.Height), (.slice A_p0_Cells p0.Cells.length c_p0_Cells)] 35 (0, 0)) [] (fun fb g => by kernel_rfl) trivial (fun g7636 w7637 hS7638 => ?_)
  refine ⟨trivial, ?_⟩
  refine WL.new hS7638 6 [] (fun g => (.pointer (some ⟨g, 0, none⟩))) (.cells #[(.int .i64 0), (.int .i64 0), (.slice none 0 0)] 35 (0, 0)) [] (fun fb g => by kernel_rfl) trivial (fun g7640 w7641 hS7642 => ?_)
  refine ⟨trivial, ?_⟩
  refine seg 3 [] [1, 2, 3, 6] [(1, (.int .i64 p1)), (2, (.int .i64 p2)), (3, (.pointer (some ⟨g7636, 0, none⟩))), (6, (.pointer (some ⟨g7640, 0, none⟩)))] [] (fun fb => by kernel_rfl) rfl trivial ?_
  refine WL.done rfl ?_
  refine WX.next ?_
  refine WC.seq ?_
  refine WC.seq ?_
  refine WC.region ?_
  refine seg 1 [.v (.int .i64 p0.Width), .v (.int .i64 p0.Height), .v (.slice A_p0_Cells p0.Cells.length c_p0_Cells)] [1, 2, 3, 6, 11] [(1, (.int .i64 p1)), (2, (.int .i64 p2)), (3, (.pointer (some ⟨g7636, 0, none⟩))), (6, (.pointer (some ⟨g7640, 0, none⟩))), (11, (.agg #[(.int .i64 p0.Width), (.int .i64 p0.Height), (.slice A_p0_Cells p0.Cells.length c_p0_Cells)]))] [.cell ⟨g7636, 0, none⟩ (.int .i64 p0.Width), .cell ⟨g7636, 1, none⟩ (.int .i64 p0.Height), .cell ⟨g7636, 2, none⟩ (.slice A_p0_Cells p0.Cells.length c_p0_Cells)] (fun fb => by kernel_rfl) rfl ⟨hS7642.cell 1 rfl 0 rfl, hS7642.cell 1 rfl 1 rfl, hS7642.cell 1 rfl 2 rfl, trivial⟩ ?_
  obtain ⟨t7644, ht7645, hf⟩ := bind_some hf
  refine WL.call (some 12) 54 #[(.agg #[(.int .i64 p0.Width), (.int .i64 p0.Height), (.slice A_p0_Cells p0.Cells.length c_p0_Cells)])] (fun fb => by kernel_rfl) (tile_Form_calls p0 A_p0_Cells c_p0_Cells t7644 _ (hS7642.rd 0) ht7645) (fun v w7646 hR7647 => ?_)
  obtain ⟨rfl, hk_⟩ := hR7647
  have hS7648 := hS7642.keepN hk_
  refine ⟨trivial, ?_⟩
  refine seg 3 [] [1, 2, 3, 6, 13] [(1, (.int .i64 p1)), (2, (.int .i64 p2)), (3, (.pointer (some ⟨g7636, 0, none⟩))), (6, (.pointer (some ⟨g7640, 0, none⟩))), (13, (.bool (!t7644)))] [] (fun fb => by kernel_rfl) rfl trivial ?_
  refine WL.done rfl ?_
  refine WX.next ?_
  rcases br_some hf with ⟨h7649, hf⟩ | ⟨h7649, hf⟩
  · refine WC.condT2 (fun fb => by kernel_rfl) h7649 ?_
    refine WC.seq ?_
    refine WC.region ?_
    refine seg 1 [] [6, 14] [(6, (.pointer (some ⟨g7640, 0, none⟩))), (14, (.agg #[(.int .i64 0), (.int .i64 0), (.slice none 0 0)]))] [] (fun fb => by kernel_rfl) rfl trivial ?_
    refine WL.store hS7648 0 rfl [(0, (.int .i64 0)), (1, (.int .i64 0)), (2, (.slice none 0 0))] #[(.int .i64 0), (.int .i64 0), (.slice none 0 0)] (fun fb => by kernel_rfl) (by kernel_rfl) rfl [1] (by decide) (by decide) (fun w7650 hS7651 => ?_)
    refine ⟨trivial, ?_⟩
    refine seg 3 [] [6, 7] [(6, (.pointer (some ⟨g7640, 0, none⟩))), (7, (.int .i64 1))] [] (fun fb => by kernel_rfl) rfl trivial ?_
    refine WL.done rfl ?_
    refine WX.next ?_
    refine WC.ret ?_
    have hS7652 := hS7651.nilrow 3 encInt
    injection hf with hf
    subst hf
    exact WX.thenR (WX.ret_ [.v (.int .i64 0), .v (.int .i64 0), .v (.slice none 0 0)] (.tuple #[(.agg #[(.int .i64 0), (.int .i64 0), (.slice none ([] : List Int).length 0)]), (.int .i64 1)]) [.cell ⟨g7640, 0, none⟩ (.int .i64 0), .cell ⟨g7640, 1, none⟩ (.int .i64 0), .cell ⟨g7640, 2, none⟩ (.slice none 0 0)] (fun fb => by kernel_rfl) ⟨hS7651.cell 0 rfl 0 rfl, hS7651.cell 0 rfl 1 rfl, hS7651.cell 0 rfl 2 rfl, trivial⟩ ⟨_, rfl, none, 0, rfl, (hS7652.sub [0] (by decide)).noR⟩)
  refine WC.condF2 (fun fb => by kernel_rfl) h7649 ?_
  refine WC.skip ?_
  refine WX.next ?_
  refine WC.seq ?_
  refine WC.seq ?_
  refine WC.region ?_
  refine seg 3 [] [1, 2, 3, 6, 17] [(1, (.int .i64 p1)), (2, (.int .i64 p2)), (3, (.pointer (some ⟨g7636, 0, none⟩))), (6, (.pointer (some ⟨g7640, 0, none⟩))), (17, (.bool (decide (p1 < 1))))] [] (fun fb => by kernel_rfl) rfl trivial ?_
  refine WL.cutV (T := Bool) 6 (fun t => [(20, (.bool t)), (1, (.int .i64 p1)), (2, (.int .i64 p2)), (3, (.pointer (some ⟨g7636, 0, none⟩))), (6, (.pointer (some ⟨g7640, 0, none⟩)))]) (fun t => t = ((decide (p1 < 1)) || (decide (p2 < 1)))) (fun K => ?_) ?_
  ·
    rcases Bool.eq_false_or_eq_true (decide (p1 < 1)) with h7653 | h7653
    ·
      refine WL.setB 17 h7653 rfl ?_
      refine seg 6 [] [1, 2, 3, 6, 20] [(1, (.int .i64 p1)), (2, (.int .i64 p2)), (3, (.pointer (some ⟨g7636, 0, none⟩))), (6, (.pointer (some ⟨g7640, 0, none⟩))), (20, (.bool true))] [] (fun fb => by kernel_rfl) rfl trivial ?_
      exact WL.toV K true [20, 1, 2, 3, 6] rfl (by first | (rw [h7653]; done) | (rw [h7653]; rfl))
    refine WL.setB 17 h7653 rfl ?_
    refine seg 6 [] [1, 2, 3, 6, 20] [(1, (.int .i64 p1)), (2, (.int .i64 p2)), (3, (.pointer (some ⟨g7636, 0, none⟩))), (6, (.pointer (some ⟨g7640, 0, none⟩))), (20, (.bool (decide (p2 < 1))))] [] (fun fb => by kernel_rfl) rfl trivial ?_
    exact WL.toV K (decide (p2 < 1)) [20, 1, 2, 3, 6] rfl (by first | (rw [h7653]; done) | (rw [h7653]; rfl))
  rintro b7654 rfl
  refine WL.done rfl ?_
  refine WX.next ?_
  rcases br_some hf with ⟨h7655, hf⟩ | ⟨h7655, hf⟩
  · refine WC.condT2 (fun fb => by kernel_rfl) h7655 ?_
    refine WC.seq ?_
    refine WC.region ?_
    refine seg 1 [] [6, 21] [(6, (.pointer (some ⟨g7640, 0, none⟩))), (21, (.agg #[(.int .i64 0), (.int .i64 0), (.slice none 0 0)]))] [] (fun fb => by kernel_rfl) rfl trivial ?_
    refine WL.store hS7648 0 rfl [(0, (.int .i64 0)), (1, (.int .i64 0)), (2, (.slice none 0 0))] #[(.int .i64 0), (.int .i64 0), (.slice none 0 0)] (fun fb => by kernel_rfl) (by kernel_rfl) rfl [1] (by decide) (by decide) (fun w7656 hS7657 => ?_)
    refine ⟨trivial, ?_⟩
    refine seg 3 [] [6, 7] [(6, (.pointer (some ⟨g7640, 0, none⟩))), (7, (.int .i64 2))] [] (fun fb => by kernel_rfl) rfl trivial ?_
    refine WL.done rfl ?_
    refine WX.next ?_
    refine WC.ret ?_
    have hS7658 := hS7657.nilrow 3 encInt
    injection hf with hf
    subst hf
    exact WX.thenR (WX.ret_ [.v (.int .i64 0), .v (.int .i64 0), .v (.slice none 0 0)] (.tuple #[(.agg #[(.int .i64 0), (.int .i64 0), (.slice none ([] : List Int).length 0)]), (.int .i64 2)]) [.cell ⟨g7640, 0, none⟩ (.int .i64 0), .cell ⟨g7640, 1, none⟩ (.int .i64 0), .cell ⟨g7640, 2, none⟩ (.slice none 0 0)] (fun fb => by kernel_rfl) ⟨hS7657.cell 0 rfl 0 rfl, hS7657.cell 0 rfl 1 rfl, hS7657.cell 0 rfl 2 rfl, trivial⟩ ⟨_, rfl, none, 0, rfl, (hS7658.sub [0] (by decide)).noR⟩)
  refine WC.condF2 (fun fb => by kernel_rfl) h7655 ?_
  refine WC.skip ?_
  refine WX.next ?_
  refine WC.seq ?_
  refine WC.seq ?_
  refine WC.region ?_
  refine seg 3 [] [1, 2, 3, 6, 24] [(1, (.int .i64 p1)), (2, (.int .i64 p2)), (3, (.pointer (some ⟨g7636, 0, none⟩))), (6, (.pointer (some ⟨g7640, 0, none⟩))), (24, (.bool (decide (p1 > 40000))))] [] (fun fb => by kernel_rfl) rfl trivial ?_
  refine WL.cutV (T := Bool) 6 (fun t => [(27, (.bool t)), (1, (.int .i64 p1)), (2, (.int .i64 p2)), (3, (.pointer (some ⟨g7636, 0, none⟩))), (6, (.pointer (some ⟨g7640, 0, none⟩)))]) (fun t => t = ((decide (p1 > 40000)) || (decide (p2 > 40000)))) (fun K => ?_) ?_
  ·
    rcases Bool.eq_false_or_eq_true (decide (p1 > 40000)) with h7659 | h7659
    ·
      refine WL.setB 24 h7659 rfl ?_
      refine seg 6 [] [1, 2, 3, 6, 27] [(1, (.int .i64 p1)), (2, (.int .i64 p2)), (3, (.pointer (some ⟨g7636, 0, none⟩))), (6, (.pointer (some ⟨g7640, 0, none⟩))), (27, (.bool true))] [] (fun fb => by kernel_rfl) rfl trivial ?_
      exact WL.toV K true [27, 1, 2, 3, 6] rfl (by first | (rw [h7659]; done) | (rw [h7659]; rfl))
    refine WL.setB 24 h7659 rfl ?_
    refine seg 6 [] [1, 2, 3, 6, 27] [(1, (.int .i64 p1)), (2, (.int .i64 p2)), (3, (.pointer (some ⟨g7636, 0, none⟩))), (6, (.pointer (some ⟨g7640, 0, none⟩))), (27, (.bool (decide (p2 > 40000))))] [] (fun fb => by kernel_rfl) rfl trivial ?_
    exact WL.toV K (decide (p2 > 40000)) [27, 1, 2, 3, 6] rfl (by first | (rw [h7659]; done) | (rw [h7659]; rfl))
  rintro b7660 rfl
  refine seg 7 [] [1, 2, 3, 6, 28] [(1, (.int .i64 p1)), (2, (.int .i64 p2)), (3, (.pointer (some ⟨g7636, 0, none⟩))), (6, (.pointer (some ⟨g7640, 0, none⟩))), (28, (.bool ((decide (p1 > 40000)) || (decide (p2 > 40000)))))] [] (fun fb => by kernel_rfl) rfl trivial ?_
  refine WL.cutV (T := Bool) 12 (fun t => [(33, (.bool t)), (1, (.int .i64 p1)), (2, (.int .i64 p2)), (3, (.pointer (some ⟨g7636, 0, none⟩))), (6, (.pointer (some ⟨g7640, 0, none⟩)))]) (fun t => t = (((decide (p1 > 40000)) || (decide (p2 > 40000))) || (decide (w64 (p1 * p2) > 40000)))) (fun K => ?_) ?_
  ·
    rcases Bool.eq_false_or_eq_true ((decide (p1 > 40000)) || (decide (p2 > 40000))) with h7661 | h7661
    ·
      refine WL.setB 28 h7661 rfl ?_
      refine seg 12 [] [1, 2, 3, 6, 33] [(1, (.int .i64 p1)), (2, (.int .i64 p2)), (3, (.pointer (some ⟨g7636, 0, none⟩))), (6, (.pointer (some ⟨g7640, 0, none⟩))), (33, (.bool true))] [] (fun fb => by kernel_rfl) rfl trivial ?_
      exact WL.toV K true [33, 1, 2, 3, 6] rfl (by first | (rw [h7661]; done) | (rw [h7661]; rfl))
    refine WL.setB 28 h7661 rfl ?_
    refine seg 12 [] [1, 2, 3, 6, 33] [(1, (.int .i64 p1)), (2, (.int .i64 p2)), (3, (.pointer (some ⟨g7636, 0, none⟩))), (6, (.pointer (some ⟨g7640, 0, none⟩))), (33, (.bool (decide (w64 (p1 * p2) > 40000))))] [] (fun fb => by kernel_rfl) rfl trivial ?_
    exact WL.toV K (decide (w64 (p1 * p2) > 40000)) [33, 1, 2, 3, 6] rfl (by first | (rw [h7661]; done) | (rw [h7661]; rfl))
  rintro b7662 rfl
  refine WL.done rfl ?_
  refine WX.next ?_
  rcases br_some hf with ⟨h7663, hf⟩ | ⟨h7663, hf⟩
  · refine WC.condT2 (fun fb => by kernel_rfl) h7663 ?_
    refine WC.seq ?_
    refine WC.region ?_
    refine seg 1 [] [6, 34] [(6, (.pointer (some ⟨g7640, 0, none⟩))), (34, (.agg #[(.int .i64 0), (.int .i64 0), (.slice none 0 0)]))] [] (fun fb => by kernel_rfl) rfl trivial ?_
    refine WL.store hS7648 0 rfl [(0, (.int .i64 0)), (1, (.int .i64 0)), (2, (.slice none 0 0))] #[(.int .i64 0), (.int .i64 0), (.slice none 0 0)] (fun fb => by kernel_rfl) (by kernel_rfl) rfl [1] (by decide) (by decide) (fun w7664 hS7665 => ?_)
    refine ⟨trivial, ?_⟩
    refine seg 3 [] [6, 7] [(6, (.pointer (some ⟨g7640, 0, none⟩))), (7, (.int .i64 4))] [] (fun fb => by kernel_rfl) rfl trivial ?_
    refine WL.done rfl ?_
    refine WX.next ?_
    refine WC.ret ?_
    have hS7666 := hS7665.nilrow 3 encInt
    injection hf with hf
    subst hf
    exact WX.thenR (WX.ret_ [.v (.int .i64 0), .v (.int .i64 0), .v (.slice none 0 0)] (.tuple #[(.agg #[(.int .i64 0), (.int .i64 0), (.slice none ([] : List Int).length 0)]), (.int .i64 4)]) [.cell ⟨g7640, 0, none⟩ (.int .i64 0), .cell ⟨g7640, 1, none⟩ (.int .i64 0), .cell ⟨g7640, 2, none⟩ (.slice none 0 0)] (fun fb => by kernel_rfl) ⟨hS7665.cell 0 rfl 0 rfl, hS7665.cell 0 rfl 1 rfl, hS7665.cell 0 rfl 2 rfl, trivial⟩ ⟨_, rfl, none, 0, rfl, (hS7666.sub [0] (by decide)).noR⟩)
  refine WC.condF2 (fun fb => by kernel_rfl) h7663 ?_
  refine WC.skip ?_
  refine WX.next ?_
  refine WC.seq ?_
  refine WC.region ?_
  refine seg 3 [] [1, 2, 3, 6, 37] [(1, (.int .i64 p1)), (2, (.int .i64 p2)), (3, (.pointer (some ⟨g7636, 0, none⟩))), (6, (.pointer (some ⟨g7640, 0, none⟩))), (37, (.agg #[(.int .i64 p1), (.int .i64 p2), (.slice none 0 0)]))] [] (fun fb => by kernel_rfl) rfl trivial ?_
  refine WL.new hS7648 8 [] (fun g => (.pointer (some ⟨g, 0, none⟩))) (.cells #[(.int .i64 0), (.int .i64 0), (.slice none 0 0)] 35 (0, 0)) [] (fun fb g => by kernel_rfl) trivial (fun g7667 w7668 hS7669 => ?_)
  refine ⟨trivial, ?_⟩
  refine WL.store hS7669 0 rfl [(0, (.int .i64 p1)), (1, (.int .i64 p2)), (2, (.slice none 0 0))] #[(.int .i64 p1), (.int .i64 p2), (.slice none 0 0)] (fun fb => by kernel_rfl) (by kernel_rfl) rfl [1, 2] (by decide) (by decide) (fun w7671 hS7672 => ?_)
  refine ⟨trivial, ?_⟩
  refine WL.done rfl ?_
  refine WX.next ?_
  refine WC.seq ?_
  refine WC.seq ?_
  refine WC.region ?_
  refine seg 2 [] [1, 3, 6, 8, 38, 39] [(1, (.int .i64 p1)), (3, (.pointer (some ⟨g7636, 0, none⟩))), (6, (.pointer (some ⟨g7640, 0, none⟩))), (8, (.pointer (some ⟨g7667, 0, none⟩))), (38, (.int .i64 p2)), (39, (.int .i64 0))] [] (fun fb => by kernel_rfl) rfl trivial ?_
  refine WL.done rfl ?_
  refine WX.next ?_
  have hS7942 := hS7672.nilrow 3 encInt
  obtain ⟨x7950, hx7951, hf⟩ := bind_some hf
  refine WC.cutN (T := (List Int) × (Option Addr) × Nat) (fun t => [(6, (.pointer (some ⟨g7640, 0, none⟩))), (8, (.pointer (some ⟨g7667, 0, none⟩)))]) (fun t w1 => St NoS w w1 [rowR encInt A_p0_Cells c_p0_Cells p0.Cells] [blk g7640 (.cells #[(.int .i64 0), (.int .i64 0), (.slice none 0 0)] 35 (0, 0)), blk g7667 (.cells #[(.int .i64 p1), (.int .i64 p2), (.slice t.2.1 t.1.length t.2.2)] 35 (0, 0)), rowO 3 encInt t.2.1 t.2.2 t.1] ∧ x7950 = t.1) (fun Kx7950 => ?_) ?_
  ·
    refine WC.block ?_
    refine WC.loop (T := ((List Int) × Int) × (Option Addr) × Nat) (fun t => [(1, (.int .i64 p1)), (3, (.pointer (some ⟨g7636, 0, none⟩))), (6, (.pointer (some ⟨g7640, 0, none⟩))), (8, (.pointer (some ⟨g7667, 0, none⟩))), (38, (.int .i64 p2)), (39, (.int .i64 t.1.2))]) (fun n t w1 => St NoS w w1 [rowR encInt A_p0_Cells c_p0_Cells p0.Cells] [blk g7636 (.cells #[(.int .i64 p0.Width), (.int .i64 p0.Height), (.slice A_p0_Cells p0.Cells.length c_p0_Cells)] 35 (0, 0)), blk g7640 (.cells #[(.int .i64 0), (.int .i64 0), (.slice none 0 0)] 35 (0, 0)), blk g7667 (.cells #[(.int .i64 p1), (.int .i64 p2), (.slice t.2.1 t.1.1.length t.2.2)] 35 (0, 0)), rowO 3 encInt t.2.1 t.2.2 t.1.1] ∧ tile_Repeat.l0 n t.1.1 t.1.2 p0 p1 p2 = some x7950) k ((([] : List Int), 0), none, 0) [1, 3, 6, 8, 38, 39] rfl ⟨(hS7942.subR [0]).sub [3, 2, 1, 0] (by decide), hx7951⟩ ?_
    rintro k7952 ⟨⟨l7945, x7946⟩, A7943, c7944⟩ w7953 ⟨hS7954, hl7955⟩
    cases k7952 with
    | zero => rw [tile_Repeat.l0] at hl7955; cases hl7955
    | succ k7952 =>
      rw [tile_Repeat.l0] at hl7955
      refine WC.seq ?_
      refine WC.region ?_
      refine seg 1 [] [1, 3, 6, 8, 38, 39, 40] [(1, (.int .i64 p1)), (3, (.pointer (some ⟨g7636, 0, none⟩))), (6, (.pointer (some ⟨g7640, 0, none⟩))), (8, (.pointer (some ⟨g7667, 0, none⟩))), (38, (.int .i64 p2)), (39, (.int .i64 x7946)), (40, (.bool (decide (x7946 < p2))))] [] (fun fb => by kernel_rfl) rfl trivial ?_
      refine WL.done rfl ?_
      refine WX.next ?_
      refine WC.seq ?_
      rcases br_some hl7955 with ⟨h7956, hl7955⟩ | ⟨h7956, hl7955⟩
      · refine WC.condT2 (fun fb => by kernel_rfl) h7956 ?_
        refine WC.skip ?_
        refine WX.next ?_
        refine WC.seq ?_
        refine WC.block ?_
        refine WC.seq ?_
        refine WC.region ?_
        refine seg 2 [] [1, 3, 6, 8, 9, 38, 39] [(1, (.int .i64 p1)), (3, (.pointer (some ⟨g7636, 0, none⟩))), (6, (.pointer (some ⟨g7640, 0, none⟩))), (8, (.pointer (some ⟨g7667, 0, none⟩))), (9, (.int .i64 x7946)), (38, (.int .i64 p2)), (39, (.int .i64 x7946))] [] (fun fb => by kernel_rfl) rfl trivial ?_
        refine WL.done rfl ?_
        refine WX.next ?_
        refine WC.seq ?_
        refine WC.region ?_
        refine seg 2 [] [1, 3, 6, 8, 9, 38, 39, 42, 43] [(1, (.int .i64 p1)), (3, (.pointer (some ⟨g7636, 0, none⟩))), (6, (.pointer (some ⟨g7640, 0, none⟩))), (8, (.pointer (some ⟨g7667, 0, none⟩))), (9, (.int .i64 x7946)), (38, (.int .i64 p2)), (39, (.int .i64 x7946)), (42, (.int .i64 p1)), (43, (.int .i64 0))] [] (fun fb => by kernel_rfl) rfl trivial ?_
        refine WL.done rfl ?_
        refine WX.next ?_
        obtain ⟨x8040, hx8041, hl7955⟩ := bind_some hl7955
        refine WC.cutN (T := (List Int) × (Option Addr) × Nat) (fun t => [(1, (.int .i64 p1)), (3, (.pointer (some ⟨g7636, 0, none⟩))), (6, (.pointer (some ⟨g7640, 0, none⟩))), (8, (.pointer (some ⟨g7667, 0, none⟩))), (38, (.int .i64 p2)), (39, (.int .i64 x7946))]) (fun t w1 => St NoS w w1 [rowR encInt A_p0_Cells c_p0_Cells p0.Cells] [blk g7636 (.cells #[(.int .i64 p0.Width), (.int .i64 p0.Height), (.slice A_p0_Cells p0.Cells.length c_p0_Cells)] 35 (0, 0)), blk g7640 (.cells #[(.int .i64 0), (.int .i64 0), (.slice none 0 0)] 35 (0, 0)), blk g7667 (.cells #[(.int .i64 p1), (.int .i64 p2), (.slice t.2.1 t.1.length t.2.2)] 35 (0, 0)), rowO 3 encInt t.2.1 t.2.2 t.1] ∧ x8040 = t.1) (fun Kx8040 => ?_) ?_
        ·
          refine WC.block ?_
          refine WC.loop (T := ((List Int) × Int) × (Option Addr) × Nat) (fun t => [(1, (.int .i64 p1)), (3, (.pointer (some ⟨g7636, 0, none⟩))), (6, (.pointer (some ⟨g7640, 0, none⟩))), (8, (.pointer (some ⟨g7667, 0, none⟩))), (9, (.int .i64 x7946)), (38, (.int .i64 p2)), (39, (.int .i64 x7946)), (42, (.int .i64 p1)), (43, (.int .i64 t.1.2))]) (fun n t w1 => St NoS w w1 [rowR encInt A_p0_Cells c_p0_Cells p0.Cells] [blk g7636 (.cells #[(.int .i64 p0.Width), (.int .i64 p0.Height), (.slice A_p0_Cells p0.Cells.length c_p0_Cells)] 35 (0, 0)), blk g7640 (.cells #[(.int .i64 0), (.int .i64 0), (.slice none 0 0)] 35 (0, 0)), blk g7667 (.cells #[(.int .i64 p1), (.int .i64 p2), (.slice t.2.1 t.1.1.length t.2.2)] 35 (0, 0)), rowO 3 encInt t.2.1 t.2.2 t.1.1] ∧ tile_Repeat.l1 n t.1.1 t.1.2 p0 p1 x7946 = some x8040) k7952 ((l7945, 0), A7943, c7944) [1, 3, 6, 8, 9, 38, 39, 42, 43] rfl ⟨(hS7954.subR [0]).sub [0, 1, 2, 3] (by decide), hx8041⟩ ?_
          rintro k8042 ⟨⟨l8035, x8036⟩, A8033, c8034⟩ w8043 ⟨hS8044, hl8045⟩
          cases k8042 with
          | zero => rw [tile_Repeat.l1] at hl8045; cases hl8045
          | succ k8042 =>
            rw [tile_Repeat.l1] at hl8045
            refine WC.seq ?_
            refine WC.region ?_
            refine seg 1 [] [1, 3, 6, 8, 9, 38, 39, 42, 43, 44] [(1, (.int .i64 p1)), (3, (.pointer (some ⟨g7636, 0, none⟩))), (6, (.pointer (some ⟨g7640, 0, none⟩))), (8, (.pointer (some ⟨g7667, 0, none⟩))), (9, (.int .i64 x7946)), (38, (.int .i64 p2)), (39, (.int .i64 x7946)), (42, (.int .i64 p1)), (43, (.int .i64 x8036)), (44, (.bool (decide (x8036 < p1))))] [] (fun fb => by kernel_rfl) rfl trivial ?_
            refine WL.done rfl ?_
            refine WX.next ?_
            refine WC.seq ?_
            rcases br_some hl8045 with ⟨h8046, hl8045⟩ | ⟨h8046, hl8045⟩
            · refine WC.condT2 (fun fb => by kernel_rfl) h8046 ?_
              refine WC.skip ?_
              refine WX.next ?_
              refine WC.seq ?_
              refine WC.block ?_
              refine WC.seq ?_
              refine WC.region ?_
              refine seg 2 [] [1, 3, 6, 8, 9, 10, 38, 39, 42, 43] [(1, (.int .i64 p1)), (3, (.pointer (some ⟨g7636, 0, none⟩))), (6, (.pointer (some ⟨g7640, 0, none⟩))), (8, (.pointer (some ⟨g7667, 0, none⟩))), (9, (.int .i64 x7946)), (10, (.int .i64 x8036)), (38, (.int .i64 p2)), (39, (.int .i64 x7946)), (42, (.int .i64 p1)), (43, (.int .i64 x8036))] [] (fun fb => by kernel_rfl) rfl trivial ?_
              refine WL.done rfl ?_
              refine WX.next ?_
              obtain ⟨h8067, hl8045⟩ := as_some hl8045
              obtain ⟨h8068, hl8045⟩ := as_some hl8045
              obtain ⟨h8069, hl8045⟩ := as_some hl8045
              refine WC.regionD ([(1, ⟨g7667, 2, none⟩, (.slice A8033 l8035.length c8034)), (3, ⟨g7636, 2, none⟩, (.slice A_p0_Cells p0.Cells.length c_p0_Cells)), (6, ⟨g7636, 1, none⟩, (.int .i64 p0.Height)), (9, ⟨g7636, 0, none⟩, (.int .i64 p0.Width)), (13, ⟨g7636, 0, none⟩, (.int .i64 p0.Width)), (17, ((adr A_p0_Cells).add ((w64 ((w64 ((Int.tmod x7946 p0.Height) * p0.Width)) + (Int.tmod x8036 p0.Width))).toNat * 1)), (.int .i64 (rdD p0.Cells (w64 ((w64 ((Int.tmod x7946 p0.Height) * p0.Width)) + (Int.tmod x8036 p0.Width))) 0)))], [0, 1, 2, 3, 4, 5, 6, 7, 8, 9, 10, 11, 12, 13, 14, 15, 16, 17, 20], [[], [0], [], [2], [], [], [5], [4, 5, 6], [], [8], [4, 5, 6, 7, 8, 9], [], [], [12], [11, 12, 13], [4, 5, 6, 7, 8, 9, 10, 11, 12, 13, 14], [2, 3, 4, 5, 6, 7, 8, 9, 10, 11, 12, 13, 14, 15], [2, 3, 4, 5, 6, 7, 8, 9, 10, 11, 12, 13, 14, 15, 16], [2, 3, 4, 5, 6, 7, 8, 9, 10, 11, 12, 13, 14, 15, 16, 17], [0, 1, 2, 3, 4, 5, 6, 7, 8, 9, 10, 11, 12, 13, 14, 15, 16, 17, 18], [0, 1, 2, 3, 4, 5, 6, 7, 8, 9, 10, 11, 12, 13, 14, 15, 16, 17, 18, 19], [0, 1, 2, 3, 4, 5, 6, 7, 8, 9, 10, 11, 12, 13, 14, 15, 16, 17, 18, 19, 20]]) [[0, 1, 2, 3, 4, 5, 6, 7, 8, 9, 10, 11, 12, 13, 14, 15, 16, 17, 18, 19, 20, 21]] (by kernel_rfl) (by kernel_rfl) (NoPanic.block (NoPanic.seq (NoPanic.seq (NoPanic.block (NoPanic.block (NoPanic.seq (NoPanic.seq (NoPanic.block (NoPanic.seq (NoPanic.body)))))))))) ?_
              have hS8063 := hS8044.drew
              revert hS8063
              generalize World.drew w8043 = w8062
              intro hS8063
              refine ⟨⟨hS8063.cell 2 rfl 2 rfl, hS8063.cell 0 rfl 2 rfl, hS8063.cell 0 rfl 1 rfl, hS8063.cell 0 rfl 0 rfl, hS8063.cell 0 rfl 0 rfl, rowR.cell (hS8063.rd 0).1 0 h8069.1 h8069.2 0 rfl, trivial⟩, forallC ?_ (forallN)⟩
              refine segF 18 [.v (.slice A8033 l8035.length c8034), .v (.slice A_p0_Cells p0.Cells.length c_p0_Cells), .v (.int .i64 p0.Height), .v (.int .i64 p0.Width), .v (.int .i64 p0.Width), .v (.int .i64 (rdD p0.Cells (w64 ((w64 ((Int.tmod x7946 p0.Height) * p0.Width)) + (Int.tmod x8036 p0.Width))) 0))] [1, 3, 6, 8, 9, 38, 39, 42, 43, 47, 63] [(1, (.int .i64 p1)), (3, (.pointer (some ⟨g7636, 0, none⟩))), (6, (.pointer (some ⟨g7640, 0, none⟩))), (8, (.pointer (some ⟨g7667, 0, none⟩))), (9, (.int .i64 x7946)), (38, (.int .i64 p2)), (39, (.int .i64 x7946)), (42, (.int .i64 p1)), (43, (.int .i64 x8036)), (47, (.slice A8033 l8035.length c8034)), (63, (.int .i64 (rdD p0.Cells (w64 ((w64 ((Int.tmod x7946 p0.Height) * p0.Width)) + (Int.tmod x8036 p0.Width))) 0)))] [.ne p0.Height, .ne p0.Width, .idx A_p0_Cells (w64 ((w64 ((Int.tmod x7946 p0.Height) * p0.Width)) + (Int.tmod x8036 p0.Width))) p0.Cells.length] [0, 1, 2, 3, 4, 5] [(1, ⟨g7667, 2, none⟩, (.slice A8033 l8035.length c8034)), (3, ⟨g7636, 2, none⟩, (.slice A_p0_Cells p0.Cells.length c_p0_Cells)), (6, ⟨g7636, 1, none⟩, (.int .i64 p0.Height)), (9, ⟨g7636, 0, none⟩, (.int .i64 p0.Width)), (13, ⟨g7636, 0, none⟩, (.int .i64 p0.Width)), (17, ((adr A_p0_Cells).add ((w64 ((w64 ((Int.tmod x7946 p0.Height) * p0.Width)) + (Int.tmod x8036 p0.Width))).toNat * 1)), (.int .i64 (rdD p0.Cells (w64 ((w64 ((Int.tmod x7946 p0.Height) * p0.Width)) + (Int.tmod x8036 p0.Width))) 0)))] (fun fb => by kernel_rfl) rfl ⟨h8067, h8068, rowR.adr (hS8063.rd 0).1 h8069.1 h8069.2, trivial⟩ rfl ?_
              refine WL.new hS8063 64 [] (fun g => (.slice (some ⟨g, 0, none⟩) 1 1)) (.cells #[(.int .i64 (rdD p0.Cells (w64 ((w64 ((Int.tmod x7946 p0.Height) * p0.Width)) + (Int.tmod x8036 p0.Width))) 0))] 3 (0, 0)) [] (fun fb g => by kernel_rfl) trivial (fun g8070 w8071 hS8072 => ?_)
              refine ⟨⟨hS8072.cell 3 rfl 2 rfl, trivial⟩, ?_⟩
              have hS8074 : St NoS w w8071 [rowR encInt A_p0_Cells c_p0_Cells p0.Cells] [rowO 3 encInt (some ⟨g8070, 0, none⟩) 1 [(rdD p0.Cells (w64 ((w64 ((Int.tmod x7946 p0.Height) * p0.Width)) + (Int.tmod x8036 p0.Width))) 0)], blk g7636 (.cells #[(.int .i64 p0.Width), (.int .i64 p0.Height), (.slice A_p0_Cells p0.Cells.length c_p0_Cells)] 35 (0, 0)), blk g7640 (.cells #[(.int .i64 0), (.int .i64 0), (.slice none 0 0)] 35 (0, 0)), blk g7667 (.cells #[(.int .i64 p1), (.int .i64 p2), (.slice A8033 l8035.length c8034)] 35 (0, 0)), rowO 3 encInt A8033 c8034 l8035] := hS8072.map1 0 _ (fun h => rowO.ofBlk h rfl (Nat.le_of_ble_eq_true (by kernel_rfl))) (fun _ h => by obtain ⟨_, h1, h2⟩ := h; injection h1 with h1; subst h1; exact h2) [1, 2, 3, 4] (by decide) (by decide)
              obtain ⟨h8075, hl8045⟩ := as_some hl8045
              refine WL.append hS8074 4 (d := 65) (tS := 33) (z := (.int .i64 0)) (bytes := 8) (c2 := 1) rfl (fun fb => by kernel_rfl) (rowO.rd (hS8074.own 0).1) (by kernel_rfl) (by kernel_rfl) rfl (by decide) h8075 (by decide) [0, 1, 2, 3] (by decide) (by decide) (fun A8076 c8077 w8078 hS8079 => ?_)
              refine ⟨trivial, ?_⟩
              refine seg 21 [] [1, 3, 6, 8, 9, 38, 39, 42, 43, 65, 66] [(1, (.int .i64 p1)), (3, (.pointer (some ⟨g7636, 0, none⟩))), (6, (.pointer (some ⟨g7640, 0, none⟩))), (8, (.pointer (some ⟨g7667, 0, none⟩))), (9, (.int .i64 x7946)), (38, (.int .i64 p2)), (39, (.int .i64 x7946)), (42, (.int .i64 p1)), (43, (.int .i64 x8036)), (65, (.slice A8076 (l8035 ++ [(rdD p0.Cells (w64 ((w64 ((Int.tmod x7946 p0.Height) * p0.Width)) + (Int.tmod x8036 p0.Width))) 0)]).length c8077)), (66, (.pointer (some ⟨g7667, 2, none⟩)))] [] (fun fb => by kernel_rfl) rfl trivial ?_
              refine WL.store hS8079 4 rfl [(2, (.slice A8076 (l8035 ++ [(rdD p0.Cells (w64 ((w64 ((Int.tmod x7946 p0.Height) * p0.Width)) + (Int.tmod x8036 p0.Width))) 0)]).length c8077))] #[(.int .i64 p1), (.int .i64 p2), (.slice A8076 (l8035 ++ [(rdD p0.Cells (w64 ((w64 ((Int.tmod x7946 p0.Height) * p0.Width)) + (Int.tmod x8036 p0.Width))) 0)]).length c8077)] (fun fb => by kernel_rfl) (by kernel_rfl) rfl [0, 1, 2, 3] (by decide) (by decide) (fun w8080 hS8081 => ?_)
              refine ⟨trivial, ?_⟩
              refine WL.done rfl ?_
              refine WX.blockN (WX.next ?_)
              refine WC.region ?_
              refine seg 2 [] [1, 3, 6, 8, 9, 38, 39, 42, 43] [(1, (.int .i64 p1)), (3, (.pointer (some ⟨g7636, 0, none⟩))), (6, (.pointer (some ⟨g7640, 0, none⟩))), (8, (.pointer (some ⟨g7667, 0, none⟩))), (9, (.int .i64 x7946)), (38, (.int .i64 p2)), (39, (.int .i64 x7946)), (42, (.int .i64 p1)), (43, (.int .i64 (w64 (x8036 + 1))))] [] (fun fb => by kernel_rfl) rfl trivial ?_
              refine WL.done rfl ?_
              exact WX.again k8042 (Nat.lt_succ_self _) ((l8035 ++ [(rdD p0.Cells (w64 ((w64 ((Int.tmod x7946 p0.Height) * p0.Width)) + (Int.tmod x8036 p0.Width))) 0)], w64 (x8036 + 1)), A8076, c8077) [1, 3, 6, 8, 9, 38, 39, 42, 43] rfl ⟨(hS8081.subR [0]).sub [3, 4, 0, 1] (by decide), hl8045⟩
            refine WC.condF2 (fun fb => by kernel_rfl) h8046 ?_
            refine WC.exit ?_
            injection hl8045 with hl8045
            exact WX.thenX (WX.thenX (WX.blockHere (WX.to Kx8040 (l8035, A8033, c8034) [1, 3, 6, 8, 38, 39] rfl ⟨(hS8044.subR [0]).sub [0, 1, 2, 3] (by decide), hl8045.symm⟩)))
        rintro ⟨y8085, A8037, c8038⟩ w8082 ⟨hS8083, hq8084⟩
        subst hq8084
        refine WX.blockN (WX.next ?_)
        refine WC.region ?_
        refine seg 2 [] [1, 3, 6, 8, 38, 39] [(1, (.int .i64 p1)), (3, (.pointer (some ⟨g7636, 0, none⟩))), (6, (.pointer (some ⟨g7640, 0, none⟩))), (8, (.pointer (some ⟨g7667, 0, none⟩))), (38, (.int .i64 p2)), (39, (.int .i64 (w64 (x7946 + 1))))] [] (fun fb => by kernel_rfl) rfl trivial ?_
        refine WL.done rfl ?_
        exact WX.again k7952 (Nat.lt_succ_self _) ((x8040, w64 (x7946 + 1)), A8037, c8038) [1, 3, 6, 8, 38, 39] rfl ⟨(hS8083.subR [0]).sub [0, 1, 2, 3] (by decide), hl7955⟩
      refine WC.condF2 (fun fb => by kernel_rfl) h7956 ?_
      refine WC.exit ?_
      injection hl7955 with hl7955
      exact WX.thenX (WX.thenX (WX.blockHere (WX.to Kx7950 (l7945, A7943, c7944) [6, 8] rfl ⟨(hS7954.subR [0]).sub [1, 2, 3] (by decide), hl7955.symm⟩)))
  rintro ⟨y8089, A7947, c7948⟩ w8086 ⟨hS8087, hq8088⟩
  subst hq8088
  refine WX.next ?_
  refine WC.seq ?_
  refine WC.region ?_
  refine seg 1 [.v (.int .i64 p1), .v (.int .i64 p2), .v (.slice A7947 x7950.length c7948)] [6, 69] [(6, (.pointer (some ⟨g7640, 0, none⟩))), (69, (.agg #[(.int .i64 p1), (.int .i64 p2), (.slice A7947 x7950.length c7948)]))] [.cell ⟨g7667, 0, none⟩ (.int .i64 p1), .cell ⟨g7667, 1, none⟩ (.int .i64 p2), .cell ⟨g7667, 2, none⟩ (.slice A7947 x7950.length c7948)] (fun fb => by kernel_rfl) rfl ⟨hS8087.cell 1 rfl 0 rfl, hS8087.cell 1 rfl 1 rfl, hS8087.cell 1 rfl 2 rfl, trivial⟩ ?_
  refine WL.store hS8087 0 rfl [(0, (.int .i64 p1)), (1, (.int .i64 p2)), (2, (.slice A7947 x7950.length c7948))] #[(.int .i64 p1), (.int .i64 p2), (.slice A7947 x7950.length c7948)] (fun fb => by kernel_rfl) (by kernel_rfl) rfl [1, 2] (by decide) (by decide) (fun w8090 hS8091 => ?_)
  refine ⟨trivial, ?_⟩
  refine seg 3 [] [6, 7] [(6, (.pointer (some ⟨g7640, 0, none⟩))), (7, (.int .i64 0))] [] (fun fb => by kernel_rfl) rfl trivial ?_
  refine WL.done rfl ?_
  refine WX.next ?_
  refine WC.ret ?_
  injection hf with hf
  subst hf
  exact WX.ret_ [.v (.int .i64 p1), .v (.int .i64 p2), .v (.slice A7947 x7950.length c7948)] (.tuple #[(.agg #[(.int .i64 p1), (.int .i64 p2), (.slice A7947 x7950.length c7948)]), (.int .i64 0)]) [.cell ⟨g7640, 0, none⟩ (.int .i64 p1), .cell ⟨g7640, 1, none⟩ (.int .i64 p2), .cell ⟨g7640, 2, none⟩ (.slice A7947 x7950.length c7948)] (fun fb => by kernel_rfl) ⟨hS8091.cell 0 rfl 0 rfl, hS8091.cell 0 rfl 1 rfl, hS8091.cell 0 rfl 2 rfl, trivial⟩ ⟨_, rfl, A7947, c7948, rfl, (hS8091.sub [2] (by decide)).noR⟩
theorem law01_TileTurned_calls (k : Nat) (p0 : List Tile) (p1 : Pattern) (p2 : Int) (p3 : Int) (p4 : Int) (p5 : Int) (A_p0 : Option Addr) (c_p0 : Nat) (A_p1_Cells : Option Addr) (c_p1_Cells : Nat) (mG : Int) (r : Bool) (w : World) (hR0 : RO NoS w (rowR enc_Tile A_p0 c_p0 p0)) (hR1 : RO NoS w (rowR encInt A_p1_Cells c_p1_Cells p1.Cells)) (hR2 : RO NoS w (cel ⟨2, 0, none⟩ (.int .i64 mG))) (hf : law01_TileTurned k p0 p1 p2 p3 p4 p5 = some r) :
    CallsR Tryd.prog 7 #[(.slice A_p0 p0.length c_p0), (.agg #[(.int .i64 p1.Width), (.int .i64 p1.Height), (.slice A_p1_Cells p1.Cells.length c_p1_Cells)]), (.int .u8 p2), (.int .u8 p3), (.int .u8 p4), (.int .u8 p5)] w (fun v w' => v = (.bool r) ∧ Keeps NoS w w') := by
  have hS : St NoS w w [rowR enc_Tile A_p0 c_p0 p0, rowR encInt A_p1_Cells c_p1_Cells p1.Cells, cel ⟨2, 0, none⟩ (.int .i64 mG)] [] := St.init (ro_cons hR0 (ro_cons hR1 (ro_cons hR2 (ro_nil _ _))))
  refine enter 246 Tryd.func7 rfl Tryd.ntmps7 rfl ?_
  unfold law01_TileTurned at hf
  refine WC.seq ?_
  refine WC.region ?_
  refine WL.new hS 7 [] (fun g => (.pointer (some ⟨g, 0, none⟩))) (.cells #[(.int .i64 p1.Width), (.int .i64 p1.Height), (.slice A_p1_Cells p1.Cells.length c_p1_Cells)] 35 (0, 0)) [] (fun fb g => by kernel_rfl) trivial (fun g1 w2 hS3 => ?_)
  refine ⟨trivial, ?_⟩
  refine seg 2 [] [0, 2, 3, 4, 5, 7] [(0, (.slice A_p0 p0.length c_p0)), (2, (.int .u8 p2)), (3, (.int .u8 p3)), (4, (.int .u8 p4)), (5, (.int .u8 p5)), (7, (.pointer (some ⟨g1, 0, none⟩)))] [] (fun fb => by kernel_rfl) rfl trivial ?_
  refine WL.done rfl ?_
  refine WX.next ?_
  refine WC.seq ?_
  refine WC.seq ?_
  refine WC.region ?_
  refine seg 4 [] [0, 2, 3, 4, 5, 7, 38] [(0, (.slice A_p0 p0.length c_p0)), (2, (.int .u8 p2)), (3, (.int .u8 p3)), (4, (.int .u8 p4)), (5, (.int .u8 p5)), (7, (.pointer (some ⟨g1, 0, none⟩))), (38, (.bool (decide ((p0.length : Int) > 200))))] [] (fun fb => by kernel_rfl) rfl trivial ?_
  refine WL.cutV (T := Bool) 9 (fun t => [(43, (.bool t)), (0, (.slice A_p0 p0.length c_p0)), (2, (.int .u8 p2)), (3, (.int .u8 p3)), (4, (.int .u8 p4)), (5, (.int .u8 p5)), (7, (.pointer (some ⟨g1, 0, none⟩)))]) (fun t => t = ((decide ((p0.length : Int) > 200)) || (decide ((p1.Cells.length : Int) > 5000)))) (fun K => ?_) ?_
  ·
    rcases Bool.eq_false_or_eq_true (decide ((p0.length : Int) > 200)) with h5 | h5
    ·
      refine WL.setB 38 h5 rfl ?_
      refine seg 9 [] [0, 2, 3, 4, 5, 7, 43] [(0, (.slice A_p0 p0.length c_p0)), (2, (.int .u8 p2)), (3, (.int .u8 p3)), (4, (.int .u8 p4)), (5, (.int .u8 p5)), (7, (.pointer (some ⟨g1, 0, none⟩))), (43, (.bool true))] [] (fun fb => by kernel_rfl) rfl trivial ?_
      exact WL.toV K true [43, 0, 2, 3, 4, 5, 7] rfl (by first | (rw [h5]; done) | (rw [h5]; rfl))
    refine WL.setB 38 h5 rfl ?_
    refine seg 9 [.v (.slice A_p1_Cells p1.Cells.length c_p1_Cells)] [0, 2, 3, 4, 5, 7, 43] [(0, (.slice A_p0 p0.length c_p0)), (2, (.int .u8 p2)), (3, (.int .u8 p3)), (4, (.int .u8 p4)), (5, (.int .u8 p5)), (7, (.pointer (some ⟨g1, 0, none⟩))), (43, (.bool (decide ((p1.Cells.length : Int) > 5000))))] [.cell ⟨g1, 2, none⟩ (.slice A_p1_Cells p1.Cells.length c_p1_Cells)] (fun fb => by kernel_rfl) rfl ⟨hS3.cell 0 rfl 2 rfl, trivial⟩ ?_
    exact WL.toV K (decide ((p1.Cells.length : Int) > 5000)) [43, 0, 2, 3, 4, 5, 7] rfl (by first | (rw [h5]; done) | (rw [h5]; rfl))
  rintro b6 rfl
  refine seg 10 [] [0, 2, 3, 4, 5, 7, 44] [(0, (.slice A_p0 p0.length c_p0)), (2, (.int .u8 p2)), (3, (.int .u8 p3)), (4, (.int .u8 p4)), (5, (.int .u8 p5)), (7, (.pointer (some ⟨g1, 0, none⟩))), (44, (.bool ((decide ((p0.length : Int) > 200)) || (decide ((p1.Cells.length : Int) > 5000)))))] [] (fun fb => by kernel_rfl) rfl trivial ?_
  obtain ⟨x2721, hx2722, hf⟩ := bind_some hf
  refine WL.cutW (T := Bool) 15 (fun t => [(0, (.slice A_p0 p0.length c_p0)), (2, (.int .u8 p2)), (3, (.int .u8 p3)), (4, (.int .u8 p4)), (5, (.int .u8 p5)), (7, (.pointer (some ⟨g1, 0, none⟩))), (49, (.bool t))]) (fun t w1 => (St NoS w w1 [rowR enc_Tile A_p0 c_p0 p0, rowR encInt A_p1_Cells c_p1_Cells p1.Cells, cel ⟨2, 0, none⟩ (.int .i64 mG)] [blk g1 (.cells #[(.int .i64 p1.Width), (.int .i64 p1.Height), (.slice A_p1_Cells p1.Cells.length c_p1_Cells)] 35 (0, 0))] ∧ x2721 = t) ∧ CellsOK [] w1) (fun K => ?_) ?_
  ·
    rcases br_some hx2722 with ⟨h2723, hx2722⟩ | ⟨h2723, hx2722⟩
    ·
      refine WL.setB 44 h2723 rfl ?_
      refine seg 15 [] [0, 2, 3, 4, 5, 7, 49] [(0, (.slice A_p0 p0.length c_p0)), (2, (.int .u8 p2)), (3, (.int .u8 p3)), (4, (.int .u8 p4)), (5, (.int .u8 p5)), (7, (.pointer (some ⟨g1, 0, none⟩))), (49, (.bool true))] [] (fun fb => by kernel_rfl) rfl trivial ?_
      injection hx2722 with hx2722
      exact WL.to K true [0, 2, 3, 4, 5, 7, 49] rfl ⟨⟨(hS3.subR [0, 1, 2]).sub [0] (by decide), hx2722.symm⟩, trivial⟩
    refine WL.setB 44 h2723 rfl ?_
    refine seg 12 [.v (.int .i64 p1.Width), .v (.int .i64 p1.Height), .v (.slice A_p1_Cells p1.Cells.length c_p1_Cells)] [0, 2, 3, 4, 5, 7, 44, 45, 46] [(0, (.slice A_p0 p0.length c_p0)), (2, (.int .u8 p2)), (3, (.int .u8 p3)), (4, (.int .u8 p4)), (5, (.int .u8 p5)), (7, (.pointer (some ⟨g1, 0, none⟩))), (44, (.bool false)), (45, (.slice A_p0 p0.length c_p0)), (46, (.agg #[(.int .i64 p1.Width), (.int .i64 p1.Height), (.slice A_p1_Cells p1.Cells.length c_p1_Cells)]))] [.cell ⟨g1, 0, none⟩ (.int .i64 p1.Width), .cell ⟨g1, 1, none⟩ (.int .i64 p1.Height), .cell ⟨g1, 2, none⟩ (.slice A_p1_Cells p1.Cells.length c_p1_Cells)] (fun fb => by kernel_rfl) rfl ⟨hS3.cell 0 rfl 0 rfl, hS3.cell 0 rfl 1 rfl, hS3.cell 0 rfl 2 rfl, trivial⟩ ?_
    obtain ⟨t2724, ht2725, hx2722⟩ := bind_some hx2722
    refine WL.call (some 47) 15 #[(.slice A_p0 p0.length c_p0), (.agg #[(.int .i64 p1.Width), (.int .i64 p1.Height), (.slice A_p1_Cells p1.Cells.length c_p1_Cells)])] (fun fb => by kernel_rfl) (ref01_Fits_calls _ p0 p1 A_p0 c_p0 A_p1_Cells c_p1_Cells t2724 _ (hS3.rd 0) (hS3.rd 1) ht2725) (fun v w2726 hR2727 => ?_)
    obtain ⟨rfl, hk_⟩ := hR2727
    have hS2728 := hS3.keepN hk_
    refine ⟨trivial, ?_⟩
    refine seg 15 [] [0, 2, 3, 4, 5, 7, 49] [(0, (.slice A_p0 p0.length c_p0)), (2, (.int .u8 p2)), (3, (.int .u8 p3)), (4, (.int .u8 p4)), (5, (.int .u8 p5)), (7, (.pointer (some ⟨g1, 0, none⟩))), (49, (.bool (!t2724)))] [] (fun fb => by kernel_rfl) rfl trivial ?_
    injection hx2722 with hx2722
    exact WL.to K (!t2724) [0, 2, 3, 4, 5, 7, 49] rfl ⟨⟨(hS2728.subR [0, 1, 2]).sub [0] (by decide), hx2722.symm⟩, trivial⟩
  rintro y2729 w2731 ⟨⟨hS2732, hq2730⟩, hF2733⟩
  subst hq2730
  refine WL.done rfl ?_
  refine WX.next ?_
  rcases br_some hf with ⟨h2734, hf⟩ | ⟨h2734, hf⟩
  · refine WC.condT2 (fun fb => by kernel_rfl) h2734 ?_
    refine WC.seq ?_
    refine WC.region ?_
    obtain ⟨t4501, ht4502, hf⟩ := bind_some hf
    refine WL.call (some 50) 8 #[] (fun fb => by kernel_rfl) (law01_awake_calls _ mG t4501 _ (hS2732.rd 2) ht4502) (fun v w4503 hR4504 => ?_)
    obtain ⟨rfl, hk_⟩ := hR4504
    have hS4505 := hS2732.keepN hk_
    refine ⟨trivial, ?_⟩
    refine seg 2 [] [12] [(12, (.bool t4501))] [] (fun fb => by kernel_rfl) rfl trivial ?_
    refine WL.done rfl ?_
    refine WX.next ?_
    refine WC.ret ?_
    injection hf with hf
    subst hf
    exact WX.thenR (WX.ret_ [] (.bool t4501) [] (fun fb => by kernel_rfl) trivial ⟨_, rfl, rfl, hS4505.keep⟩)
  refine WC.condF2 (fun fb => by kernel_rfl) h2734 ?_
  refine WC.skip ?_
  refine WX.next ?_
  refine WC.seq ?_
  refine WC.region ?_
  refine seg 2 [.v (.int .i64 p1.Width), .v (.int .i64 p1.Height), .v (.slice A_p1_Cells p1.Cells.length c_p1_Cells)] [0, 2, 3, 4, 5, 7, 51, 52] [(0, (.slice A_p0 p0.length c_p0)), (2, (.int .u8 p2)), (3, (.int .u8 p3)), (4, (.int .u8 p4)), (5, (.int .u8 p5)), (7, (.pointer (some ⟨g1, 0, none⟩))), (51, (.slice A_p0 p0.length c_p0)), (52, (.agg #[(.int .i64 p1.Width), (.int .i64 p1.Height), (.slice A_p1_Cells p1.Cells.length c_p1_Cells)]))] [.cell ⟨g1, 0, none⟩ (.int .i64 p1.Width), .cell ⟨g1, 1, none⟩ (.int .i64 p1.Height), .cell ⟨g1, 2, none⟩ (.slice A_p1_Cells p1.Cells.length c_p1_Cells)] (fun fb => by kernel_rfl) rfl ⟨hS2732.cell 0 rfl 0 rfl, hS2732.cell 0 rfl 1 rfl, hS2732.cell 0 rfl 2 rfl, trivial⟩ ?_
  obtain ⟨t4506, ht4507, hf⟩ := bind_some hf
  refine WL.call (some 53) 16 #[(.slice A_p0 p0.length c_p0), (.agg #[(.int .i64 p1.Width), (.int .i64 p1.Height), (.slice A_p1_Cells p1.Cells.length c_p1_Cells)])] (fun fb => by kernel_rfl) (tile_Repeats_calls _ p0 p1 A_p0 c_p0 A_p1_Cells c_p1_Cells t4506 _ (hS2732.rd 0) (hS2732.rd 1) ht4507) (fun v w4508 hR4509 => ?_)
  obtain ⟨rfl, hk_⟩ := hR4509
  have hS4510 := hS2732.keepN hk_
  refine ⟨trivial, ?_⟩
  refine seg 4 [] [0, 2, 3, 4, 5, 7, 13] [(0, (.slice A_p0 p0.length c_p0)), (2, (.int .u8 p2)), (3, (.int .u8 p3)), (4, (.int .u8 p4)), (5, (.int .u8 p5)), (7, (.pointer (some ⟨g1, 0, none⟩))), (13, (.bool t4506))] [] (fun fb => by kernel_rfl) rfl trivial ?_
  refine WL.done rfl ?_
  refine WX.next ?_
  refine WC.seq ?_
  refine WC.regionD ([(1, ⟨g1, 0, none⟩, (.int .i64 p1.Width)), (1, ⟨g1, 1, none⟩, (.int .i64 p1.Height)), (1, ⟨g1, 2, none⟩, (.slice A_p1_Cells p1.Cells.length c_p1_Cells))], [0, 1, 3], [[], [], [], [0, 2], [0, 1, 2, 3]]) [[0, 1, 2, 3, 4]] (by kernel_rfl) (by kernel_rfl) (NoPanic.seq (NoPanic.body)) ?_
  have hS4518 := hS4510.drew
  revert hS4518
  generalize World.drew w4508 = w4517
  intro hS4518
  refine ⟨⟨hS4518.cell 0 rfl 0 rfl, hS4518.cell 0 rfl 1 rfl, hS4518.cell 0 rfl 2 rfl, trivial⟩, forallC ?_ (forallN)⟩
  refine segF 2 [.v (.int .i64 p1.Width), .v (.int .i64 p1.Height), .v (.slice A_p1_Cells p1.Cells.length c_p1_Cells)] [0, 2, 3, 4, 5, 7, 13, 54, 55] [(0, (.slice A_p0 p0.length c_p0)), (2, (.int .u8 p2)), (3, (.int .u8 p3)), (4, (.int .u8 p4)), (5, (.int .u8 p5)), (7, (.pointer (some ⟨g1, 0, none⟩))), (13, (.bool t4506)), (54, (.slice A_p0 p0.length c_p0)), (55, (.agg #[(.int .i64 p1.Width), (.int .i64 p1.Height), (.slice A_p1_Cells p1.Cells.length c_p1_Cells)]))] [] [0, 1, 2] [(1, ⟨g1, 0, none⟩, (.int .i64 p1.Width)), (1, ⟨g1, 1, none⟩, (.int .i64 p1.Height)), (1, ⟨g1, 2, none⟩, (.slice A_p1_Cells p1.Cells.length c_p1_Cells))] (fun fb => by kernel_rfl) rfl trivial rfl ?_
  refine WL.new hS4518 15 [] (fun g => (.pointer (some ⟨g, 0, none⟩))) (.cells #[(.int .i64 0), (.int .i64 0), (.slice none 0 0)] 35 (0, 0)) [] (fun fb g => by kernel_rfl) trivial (fun g4519 w4520 hS4521 => ?_)
  refine ⟨⟨hS4521.cell 1 rfl 0 rfl, hS4521.cell 1 rfl 1 rfl, hS4521.cell 1 rfl 2 rfl, trivial⟩, ?_⟩
  refine seg 4 [] [0, 2, 3, 4, 5, 7, 13, 14, 15, 55] [(0, (.slice A_p0 p0.length c_p0)), (2, (.int .u8 p2)), (3, (.int .u8 p3)), (4, (.int .u8 p4)), (5, (.int .u8 p5)), (7, (.pointer (some ⟨g1, 0, none⟩))), (13, (.bool t4506)), (14, (.slice A_p0 p0.length c_p0)), (15, (.pointer (some ⟨g4519, 0, none⟩))), (55, (.agg #[(.int .i64 p1.Width), (.int .i64 p1.Height), (.slice A_p1_Cells p1.Cells.length c_p1_Cells)]))] [] (fun fb => by kernel_rfl) rfl trivial ?_
  refine WL.store hS4521 0 rfl [(0, (.int .i64 p1.Width)), (1, (.int .i64 p1.Height)), (2, (.slice A_p1_Cells p1.Cells.length c_p1_Cells))] #[(.int .i64 p1.Width), (.int .i64 p1.Height), (.slice A_p1_Cells p1.Cells.length c_p1_Cells)] (fun fb => by kernel_rfl) (by kernel_rfl) rfl [1] (by decide) (by decide) (fun w4523 hS4524 => ?_)
  refine ⟨trivial, ?_⟩
  refine WL.done rfl ?_
  refine WX.next ?_
  refine WC.seq ?_
  refine WC.seq ?_
  refine WC.region ?_
  refine seg 1 [] [0, 2, 3, 4, 5, 7, 13, 14, 15, 16] [(0, (.slice A_p0 p0.length c_p0)), (2, (.int .u8 p2)), (3, (.int .u8 p3)), (4, (.int .u8 p4)), (5, (.int .u8 p5)), (7, (.pointer (some ⟨g1, 0, none⟩))), (13, (.bool t4506)), (14, (.slice A_p0 p0.length c_p0)), (15, (.pointer (some ⟨g4519, 0, none⟩))), (16, (.int .i64 0))] [] (fun fb => by kernel_rfl) rfl trivial ?_
  refine WL.done rfl ?_
  refine WX.next ?_
  obtain ⟨x5364, hx5365, hf⟩ := bind_some hf
  refine WC.cutN (T := ((List Tile) × Int × Int × (List Int)) × (Option Addr) × Nat × (Option Addr) × Nat) (fun t => [(0, (.slice A_p0 p0.length c_p0)), (2, (.int .u8 p2)), (3, (.int .u8 p3)), (4, (.int .u8 p4)), (5, (.int .u8 p5)), (7, (.pointer (some ⟨g1, 0, none⟩))), (13, (.bool t4506)), (14, (.slice t.2.1 t.1.1.length t.2.2.1)), (15, (.pointer (some ⟨g4519, 0, none⟩)))]) (fun t w1 => St NoS w w1 [rowR enc_Tile t.2.1 t.2.2.1 t.1.1, rowR encInt t.2.2.2.1 t.2.2.2.2 t.1.2.2.2, rowR enc_Tile A_p0 c_p0 p0, rowR encInt A_p1_Cells c_p1_Cells p1.Cells, cel ⟨2, 0, none⟩ (.int .i64 mG)] [blk g1 (.cells #[(.int .i64 p1.Width), (.int .i64 p1.Height), (.slice A_p1_Cells p1.Cells.length c_p1_Cells)] 35 (0, 0)), blk g4519 (.cells #[(.int .i64 t.1.2.1), (.int .i64 t.1.2.2.1), (.slice t.2.2.2.1 t.1.2.2.2.length t.2.2.2.2)] 35 (0, 0))] ∧ x5364 = .inr t.1) (fun Kx5364 => ?_) ?_
  ·
    refine WC.block ?_
    refine WC.loop (T := ((List Tile) × Int × Int × (List Int) × Int) × (Option Addr) × Nat × (Option Addr) × Nat) (fun t => [(0, (.slice A_p0 p0.length c_p0)), (2, (.int .u8 p2)), (3, (.int .u8 p3)), (4, (.int .u8 p4)), (5, (.int .u8 p5)), (7, (.pointer (some ⟨g1, 0, none⟩))), (13, (.bool t4506)), (14, (.slice t.2.1 t.1.1.length t.2.2.1)), (15, (.pointer (some ⟨g4519, 0, none⟩))), (16, (.int .i64 t.1.2.2.2.2))]) (fun n t w1 => St NoS w w1 [rowR enc_Tile t.2.1 t.2.2.1 t.1.1, rowR encInt t.2.2.2.1 t.2.2.2.2 t.1.2.2.2.1, rowR enc_Tile A_p0 c_p0 p0, rowR encInt A_p1_Cells c_p1_Cells p1.Cells, cel ⟨2, 0, none⟩ (.int .i64 mG)] [blk g1 (.cells #[(.int .i64 p1.Width), (.int .i64 p1.Height), (.slice A_p1_Cells p1.Cells.length c_p1_Cells)] 35 (0, 0)), blk g4519 (.cells #[(.int .i64 t.1.2.1), (.int .i64 t.1.2.2.1), (.slice t.2.2.2.1 t.1.2.2.2.1.length t.2.2.2.2)] 35 (0, 0))] ∧ law01_TileTurned.l0 n t.1.1 t.1.2.1 t.1.2.2.1 t.1.2.2.2.1 t.1.2.2.2.2 t4506 = some x5364) k ((p0, p1.Width, p1.Height, p1.Cells, 0), A_p0, c_p0, A_p1_Cells, c_p1_Cells) [0, 2, 3, 4, 5, 7, 13, 14, 15, 16] rfl ⟨(hS4524.subR [0, 1, 0, 1, 2]).sub [1, 0] (by decide), hx5365⟩ ?_
    rintro k5366 ⟨⟨l5349, x5350, x5351, l5354, x5355⟩, A5347, c5348, A5352, c5353⟩ w5367 ⟨hS5368, hl5369⟩
    cases k5366 with
    | zero => rw [law01_TileTurned.l0] at hl5369; cases hl5369
    | succ k5366 =>
      rw [law01_TileTurned.l0] at hl5369
      refine WC.seq ?_
      refine WC.seq ?_
      refine WC.region ?_
      refine seg 2 [] [0, 2, 3, 4, 5, 7, 13, 14, 15, 16, 57] [(0, (.slice A_p0 p0.length c_p0)), (2, (.int .u8 p2)), (3, (.int .u8 p3)), (4, (.int .u8 p4)), (5, (.int .u8 p5)), (7, (.pointer (some ⟨g1, 0, none⟩))), (13, (.bool t4506)), (14, (.slice A5347 l5349.length c5348)), (15, (.pointer (some ⟨g4519, 0, none⟩))), (16, (.int .i64 x5355)), (57, (.bool (decide (x5355 < 4))))] [] (fun fb => by kernel_rfl) rfl trivial ?_
      refine WL.done rfl ?_
      refine WX.next ?_
      rcases br_some hl5369 with ⟨h5370, hl5369⟩ | ⟨h5370, hl5369⟩
      · refine WC.condT2 (fun fb => by kernel_rfl) h5370 ?_
        refine WC.skip ?_
        refine WX.next ?_
        refine WC.seq ?_
        refine WC.block ?_
        refine WC.seq ?_
        refine WC.region ?_
        refine seg 1 [] [0, 2, 3, 4, 5, 7, 13, 15, 16, 61] [(0, (.slice A_p0 p0.length c_p0)), (2, (.int .u8 p2)), (3, (.int .u8 p3)), (4, (.int .u8 p4)), (5, (.int .u8 p5)), (7, (.pointer (some ⟨g1, 0, none⟩))), (13, (.bool t4506)), (15, (.pointer (some ⟨g4519, 0, none⟩))), (16, (.int .i64 x5355)), (61, (.slice A5347 l5349.length c5348))] [] (fun fb => by kernel_rfl) rfl trivial ?_
        obtain ⟨t5371, ht5372, hl5369⟩ := bind_some hl5369
        refine WL.call (some 62) 21 #[(.slice A5347 l5349.length c5348)] (fun fb => by kernel_rfl) (tile_Turn_calls _ l5349 A5347 c5348 t5371 _ (hS5368.rd 0) ht5372) (fun v w5373 hR5374 => ?_)
        obtain ⟨A5376, c5377, rfl, hk_⟩ := hR5374
        have hS5375 : St NoS w w5373 [rowR enc_Tile A5347 c5348 l5349, rowR encInt A5352 c5353 l5354, rowR enc_Tile A_p0 c_p0 p0, rowR encInt A_p1_Cells c_p1_Cells p1.Cells, cel ⟨2, 0, none⟩ (.int .i64 mG)] [rowO 62 enc_Tile A5376 c5377 t5371.1, blk g1 (.cells #[(.int .i64 p1.Width), (.int .i64 p1.Height), (.slice A_p1_Cells p1.Cells.length c_p1_Cells)] 35 (0, 0)), blk g4519 (.cells #[(.int .i64 x5350), (.int .i64 x5351), (.slice A5352 l5354.length c5353)] 35 (0, 0))] := hS5368.call hk_ [] [0, 1] (fun g hg => hg.elim) (by simp) (by decide)
        refine ⟨trivial, ?_⟩
        refine seg 7 [] [0, 2, 3, 4, 5, 7, 13, 15, 16, 17, 18] [(0, (.slice A_p0 p0.length c_p0)), (2, (.int .u8 p2)), (3, (.int .u8 p3)), (4, (.int .u8 p4)), (5, (.int .u8 p5)), (7, (.pointer (some ⟨g1, 0, none⟩))), (13, (.bool t4506)), (15, (.pointer (some ⟨g4519, 0, none⟩))), (16, (.int .i64 x5355)), (17, (.slice A5376 t5371.1.length c5377)), (18, (.int .i64 t5371.2))] [] (fun fb => by kernel_rfl) rfl trivial ?_
        refine WL.done rfl ?_
        refine WX.next ?_
        refine WC.seq ?_
        refine WC.region ?_
        refine seg 1 [.v (.int .i64 x5350), .v (.int .i64 x5351), .v (.slice A5352 l5354.length c5353)] [0, 2, 3, 4, 5, 7, 13, 15, 16, 17, 18, 66] [(0, (.slice A_p0 p0.length c_p0)), (2, (.int .u8 p2)), (3, (.int .u8 p3)), (4, (.int .u8 p4)), (5, (.int .u8 p5)), (7, (.pointer (some ⟨g1, 0, none⟩))), (13, (.bool t4506)), (15, (.pointer (some ⟨g4519, 0, none⟩))), (16, (.int .i64 x5355)), (17, (.slice A5376 t5371.1.length c5377)), (18, (.int .i64 t5371.2)), (66, (.agg #[(.int .i64 x5350), (.int .i64 x5351), (.slice A5352 l5354.length c5353)]))] [.cell ⟨g4519, 0, none⟩ (.int .i64 x5350), .cell ⟨g4519, 1, none⟩ (.int .i64 x5351), .cell ⟨g4519, 2, none⟩ (.slice A5352 l5354.length c5353)] (fun fb => by kernel_rfl) rfl ⟨hS5375.cell 2 rfl 0 rfl, hS5375.cell 2 rfl 1 rfl, hS5375.cell 2 rfl 2 rfl, trivial⟩ ?_
        obtain ⟨t5378, ht5379, hl5369⟩ := bind_some hl5369
        refine WL.call (some 67) 30 #[(.agg #[(.int .i64 x5350), (.int .i64 x5351), (.slice A5352 l5354.length c5353)])] (fun fb => by kernel_rfl) (tile_TurnPattern_calls _ (Pattern.mk x5350 x5351 l5354) A5352 c5353 t5378 _ (hS5375.rd 1) ht5379) (fun v w5380 hR5381 => ?_)
        obtain ⟨A5383, c5384, rfl, hk_⟩ := hR5381
        have hS5382 : St NoS w w5380 [rowR enc_Tile A5347 c5348 l5349, rowR encInt A5352 c5353 l5354, rowR enc_Tile A_p0 c_p0 p0, rowR encInt A_p1_Cells c_p1_Cells p1.Cells, cel ⟨2, 0, none⟩ (.int .i64 mG)] [rowO 3 encInt A5383 c5384 t5378.1.Cells, rowO 62 enc_Tile A5376 c5377 t5371.1, blk g1 (.cells #[(.int .i64 p1.Width), (.int .i64 p1.Height), (.slice A_p1_Cells p1.Cells.length c_p1_Cells)] 35 (0, 0)), blk g4519 (.cells #[(.int .i64 x5350), (.int .i64 x5351), (.slice A5352 l5354.length c5353)] 35 (0, 0))] := hS5375.call hk_ [] [0, 1, 2] (fun g hg => hg.elim) (by simp) (by decide)
        refine ⟨trivial, ?_⟩
        refine seg 5 [] [0, 2, 3, 4, 5, 7, 13, 15, 16, 17, 18, 68, 69] [(0, (.slice A_p0 p0.length c_p0)), (2, (.int .u8 p2)), (3, (.int .u8 p3)), (4, (.int .u8 p4)), (5, (.int .u8 p5)), (7, (.pointer (some ⟨g1, 0, none⟩))), (13, (.bool t4506)), (15, (.pointer (some ⟨g4519, 0, none⟩))), (16, (.int .i64 x5355)), (17, (.slice A5376 t5371.1.length c5377)), (18, (.int .i64 t5371.2)), (68, (.agg #[(.int .i64 t5378.1.Width), (.int .i64 t5378.1.Height), (.slice A5383 t5378.1.Cells.length c5384)])), (69, (.int .i64 t5378.2))] [] (fun fb => by kernel_rfl) rfl trivial ?_
        refine WL.new hS5382 19 [] (fun g => (.pointer (some ⟨g, 0, none⟩))) (.cells #[(.int .i64 0), (.int .i64 0), (.slice none 0 0)] 35 (0, 0)) [] (fun fb g => by kernel_rfl) trivial (fun g5385 w5386 hS5387 => ?_)
        refine ⟨trivial, ?_⟩
        refine WL.store hS5387 0 rfl [(0, (.int .i64 t5378.1.Width)), (1, (.int .i64 t5378.1.Height)), (2, (.slice A5383 t5378.1.Cells.length c5384))] #[(.int .i64 t5378.1.Width), (.int .i64 t5378.1.Height), (.slice A5383 t5378.1.Cells.length c5384)] (fun fb => by kernel_rfl) (by kernel_rfl) rfl [1, 2, 3, 4] (by decide) (by decide) (fun w5389 hS5390 => ?_)
        refine ⟨trivial, ?_⟩
        refine seg 8 [] [0, 2, 3, 4, 5, 7, 13, 15, 16, 17, 18, 19, 20] [(0, (.slice A_p0 p0.length c_p0)), (2, (.int .u8 p2)), (3, (.int .u8 p3)), (4, (.int .u8 p4)), (5, (.int .u8 p5)), (7, (.pointer (some ⟨g1, 0, none⟩))), (13, (.bool t4506)), (15, (.pointer (some ⟨g4519, 0, none⟩))), (16, (.int .i64 x5355)), (17, (.slice A5376 t5371.1.length c5377)), (18, (.int .i64 t5371.2)), (19, (.pointer (some ⟨g5385, 0, none⟩))), (20, (.int .i64 t5378.2))] [] (fun fb => by kernel_rfl) rfl trivial ?_
        refine WL.done rfl ?_
        refine WX.next ?_
        refine WC.seq ?_
        refine WC.seq ?_
        refine WC.region ?_
        refine seg 3 [] [0, 2, 3, 4, 5, 7, 13, 15, 16, 17, 19, 20, 72] [(0, (.slice A_p0 p0.length c_p0)), (2, (.int .u8 p2)), (3, (.int .u8 p3)), (4, (.int .u8 p4)), (5, (.int .u8 p5)), (7, (.pointer (some ⟨g1, 0, none⟩))), (13, (.bool t4506)), (15, (.pointer (some ⟨g4519, 0, none⟩))), (16, (.int .i64 x5355)), (17, (.slice A5376 t5371.1.length c5377)), (19, (.pointer (some ⟨g5385, 0, none⟩))), (20, (.int .i64 t5378.2)), (72, (.bool (t5371.2 != 0)))] [] (fun fb => by kernel_rfl) rfl trivial ?_
        refine WL.cutV (T := Bool) 6 (fun t => [(75, (.bool t)), (0, (.slice A_p0 p0.length c_p0)), (2, (.int .u8 p2)), (3, (.int .u8 p3)), (4, (.int .u8 p4)), (5, (.int .u8 p5)), (7, (.pointer (some ⟨g1, 0, none⟩))), (13, (.bool t4506)), (15, (.pointer (some ⟨g4519, 0, none⟩))), (16, (.int .i64 x5355)), (17, (.slice A5376 t5371.1.length c5377)), (19, (.pointer (some ⟨g5385, 0, none⟩)))]) (fun t => t = ((t5371.2 != 0) || (t5378.2 != 0))) (fun K => ?_) ?_
        ·
          rcases Bool.eq_false_or_eq_true (t5371.2 != 0) with h5391 | h5391
          ·
            refine WL.setB 72 h5391 rfl ?_
            refine seg 6 [] [0, 2, 3, 4, 5, 7, 13, 15, 16, 17, 19, 75] [(0, (.slice A_p0 p0.length c_p0)), (2, (.int .u8 p2)), (3, (.int .u8 p3)), (4, (.int .u8 p4)), (5, (.int .u8 p5)), (7, (.pointer (some ⟨g1, 0, none⟩))), (13, (.bool t4506)), (15, (.pointer (some ⟨g4519, 0, none⟩))), (16, (.int .i64 x5355)), (17, (.slice A5376 t5371.1.length c5377)), (19, (.pointer (some ⟨g5385, 0, none⟩))), (75, (.bool true))] [] (fun fb => by kernel_rfl) rfl trivial ?_
            exact WL.toV K true [75, 0, 2, 3, 4, 5, 7, 13, 15, 16, 17, 19] rfl (by first | (rw [h5391]; done) | (rw [h5391]; rfl))
          refine WL.setB 72 h5391 rfl ?_
          refine seg 6 [] [0, 2, 3, 4, 5, 7, 13, 15, 16, 17, 19, 75] [(0, (.slice A_p0 p0.length c_p0)), (2, (.int .u8 p2)), (3, (.int .u8 p3)), (4, (.int .u8 p4)), (5, (.int .u8 p5)), (7, (.pointer (some ⟨g1, 0, none⟩))), (13, (.bool t4506)), (15, (.pointer (some ⟨g4519, 0, none⟩))), (16, (.int .i64 x5355)), (17, (.slice A5376 t5371.1.length c5377)), (19, (.pointer (some ⟨g5385, 0, none⟩))), (75, (.bool (t5378.2 != 0)))] [] (fun fb => by kernel_rfl) rfl trivial ?_
          exact WL.toV K (t5378.2 != 0) [75, 0, 2, 3, 4, 5, 7, 13, 15, 16, 17, 19] rfl (by first | (rw [h5391]; done) | (rw [h5391]; rfl))
        rintro b5392 rfl
        refine seg 7 [] [0, 2, 3, 4, 5, 7, 13, 15, 16, 17, 19, 76] [(0, (.slice A_p0 p0.length c_p0)), (2, (.int .u8 p2)), (3, (.int .u8 p3)), (4, (.int .u8 p4)), (5, (.int .u8 p5)), (7, (.pointer (some ⟨g1, 0, none⟩))), (13, (.bool t4506)), (15, (.pointer (some ⟨g4519, 0, none⟩))), (16, (.int .i64 x5355)), (17, (.slice A5376 t5371.1.length c5377)), (19, (.pointer (some ⟨g5385, 0, none⟩))), (76, (.bool ((t5371.2 != 0) || (t5378.2 != 0))))] [] (fun fb => by kernel_rfl) rfl trivial ?_
        obtain ⟨x5399, hx5400, hl5369⟩ := bind_some hl5369
        refine WL.cutW (T := Bool) 12 (fun t => [(0, (.slice A_p0 p0.length c_p0)), (2, (.int .u8 p2)), (3, (.int .u8 p3)), (4, (.int .u8 p4)), (5, (.int .u8 p5)), (7, (.pointer (some ⟨g1, 0, none⟩))), (13, (.bool t4506)), (15, (.pointer (some ⟨g4519, 0, none⟩))), (16, (.int .i64 x5355)), (17, (.slice A5376 t5371.1.length c5377)), (19, (.pointer (some ⟨g5385, 0, none⟩))), (81, (.bool t))]) (fun t w1 => (St NoS w w1 [rowR enc_Tile A5347 c5348 l5349, rowR encInt A5352 c5353 l5354, rowR enc_Tile A_p0 c_p0 p0, rowR encInt A_p1_Cells c_p1_Cells p1.Cells, cel ⟨2, 0, none⟩ (.int .i64 mG)] [blk g1 (.cells #[(.int .i64 p1.Width), (.int .i64 p1.Height), (.slice A_p1_Cells p1.Cells.length c_p1_Cells)] 35 (0, 0)), blk g4519 (.cells #[(.int .i64 x5350), (.int .i64 x5351), (.slice A5352 l5354.length c5353)] 35 (0, 0)), rowO 62 enc_Tile A5376 c5377 t5371.1, blk g5385 (.cells #[(.int .i64 t5378.1.Width), (.int .i64 t5378.1.Height), (.slice A5383 t5378.1.Cells.length c5384)] 35 (0, 0)), rowO 3 encInt A5383 c5384 t5378.1.Cells] ∧ x5399 = t) ∧ CellsOK [] w1) (fun K => ?_) ?_
        ·
          rcases br_some hx5400 with ⟨h5401, hx5400⟩ | ⟨h5401, hx5400⟩
          ·
            refine WL.setB 76 h5401 rfl ?_
            refine seg 12 [] [0, 2, 3, 4, 5, 7, 13, 15, 16, 17, 19, 81] [(0, (.slice A_p0 p0.length c_p0)), (2, (.int .u8 p2)), (3, (.int .u8 p3)), (4, (.int .u8 p4)), (5, (.int .u8 p5)), (7, (.pointer (some ⟨g1, 0, none⟩))), (13, (.bool t4506)), (15, (.pointer (some ⟨g4519, 0, none⟩))), (16, (.int .i64 x5355)), (17, (.slice A5376 t5371.1.length c5377)), (19, (.pointer (some ⟨g5385, 0, none⟩))), (81, (.bool true))] [] (fun fb => by kernel_rfl) rfl trivial ?_
            injection hx5400 with hx5400
            exact WL.to K true [0, 2, 3, 4, 5, 7, 13, 15, 16, 17, 19, 81] rfl ⟨⟨(hS5390.subR [0, 1, 2, 3, 4]).sub [3, 4, 2, 0, 1] (by decide), hx5400.symm⟩, trivial⟩
          refine WL.setB 76 h5401 rfl ?_
          refine seg 9 [.v (.int .i64 t5378.1.Width), .v (.int .i64 t5378.1.Height), .v (.slice A5383 t5378.1.Cells.length c5384)] [0, 2, 3, 4, 5, 7, 13, 15, 16, 17, 19, 76, 77, 78] [(0, (.slice A_p0 p0.length c_p0)), (2, (.int .u8 p2)), (3, (.int .u8 p3)), (4, (.int .u8 p4)), (5, (.int .u8 p5)), (7, (.pointer (some ⟨g1, 0, none⟩))), (13, (.bool t4506)), (15, (.pointer (some ⟨g4519, 0, none⟩))), (16, (.int .i64 x5355)), (17, (.slice A5376 t5371.1.length c5377)), (19, (.pointer (some ⟨g5385, 0, none⟩))), (76, (.bool false)), (77, (.slice A5376 t5371.1.length c5377)), (78, (.agg #[(.int .i64 t5378.1.Width), (.int .i64 t5378.1.Height), (.slice A5383 t5378.1.Cells.length c5384)]))] [.cell ⟨g5385, 0, none⟩ (.int .i64 t5378.1.Width), .cell ⟨g5385, 1, none⟩ (.int .i64 t5378.1.Height), .cell ⟨g5385, 2, none⟩ (.slice A5383 t5378.1.Cells.length c5384)] (fun fb => by kernel_rfl) rfl ⟨hS5390.cell 0 rfl 0 rfl, hS5390.cell 0 rfl 1 rfl, hS5390.cell 0 rfl 2 rfl, trivial⟩ ?_
          obtain ⟨t5402, ht5403, hx5400⟩ := bind_some hx5400
          refine WL.call (some 79) 14 #[(.slice A5376 t5371.1.length c5377), (.agg #[(.int .i64 t5378.1.Width), (.int .i64 t5378.1.Height), (.slice A5383 t5378.1.Cells.length c5384)])] (fun fb => by kernel_rfl) (tile_Fits_calls _ t5371.1 t5378.1 A5376 c5377 A5383 c5384 t5402 _ (hS5390.ow 2).ofO (hS5390.ow 1).ofO ht5403) (fun v w5404 hR5405 => ?_)
          obtain ⟨rfl, hk_⟩ := hR5405
          have hS5406 := hS5390.keepN hk_
          refine ⟨trivial, ?_⟩
          refine seg 12 [] [0, 2, 3, 4, 5, 7, 13, 15, 16, 17, 19, 81] [(0, (.slice A_p0 p0.length c_p0)), (2, (.int .u8 p2)), (3, (.int .u8 p3)), (4, (.int .u8 p4)), (5, (.int .u8 p5)), (7, (.pointer (some ⟨g1, 0, none⟩))), (13, (.bool t4506)), (15, (.pointer (some ⟨g4519, 0, none⟩))), (16, (.int .i64 x5355)), (17, (.slice A5376 t5371.1.length c5377)), (19, (.pointer (some ⟨g5385, 0, none⟩))), (81, (.bool (!t5402)))] [] (fun fb => by kernel_rfl) rfl trivial ?_
          injection hx5400 with hx5400
          exact WL.to K (!t5402) [0, 2, 3, 4, 5, 7, 13, 15, 16, 17, 19, 81] rfl ⟨⟨(hS5406.subR [0, 1, 2, 3, 4]).sub [3, 4, 2, 0, 1] (by decide), hx5400.symm⟩, trivial⟩
        rintro y5407 w5409 ⟨⟨hS5410, hq5408⟩, hF5411⟩
        subst hq5408
        refine seg 13 [] [0, 2, 3, 4, 5, 7, 13, 15, 16, 17, 19, 82] [(0, (.slice A_p0 p0.length c_p0)), (2, (.int .u8 p2)), (3, (.int .u8 p3)), (4, (.int .u8 p4)), (5, (.int .u8 p5)), (7, (.pointer (some ⟨g1, 0, none⟩))), (13, (.bool t4506)), (15, (.pointer (some ⟨g4519, 0, none⟩))), (16, (.int .i64 x5355)), (17, (.slice A5376 t5371.1.length c5377)), (19, (.pointer (some ⟨g5385, 0, none⟩))), (82, (.bool x5399))] [] (fun fb => by kernel_rfl) rfl trivial ?_
        obtain ⟨x5418, hx5419, hl5369⟩ := bind_some hl5369
        refine WL.cutW (T := Bool) 19 (fun t => [(0, (.slice A_p0 p0.length c_p0)), (2, (.int .u8 p2)), (3, (.int .u8 p3)), (4, (.int .u8 p4)), (5, (.int .u8 p5)), (7, (.pointer (some ⟨g1, 0, none⟩))), (13, (.bool t4506)), (15, (.pointer (some ⟨g4519, 0, none⟩))), (16, (.int .i64 x5355)), (17, (.slice A5376 t5371.1.length c5377)), (19, (.pointer (some ⟨g5385, 0, none⟩))), (88, (.bool t))]) (fun t w1 => (St NoS w w1 [rowR enc_Tile A5347 c5348 l5349, rowR encInt A5352 c5353 l5354, rowR enc_Tile A_p0 c_p0 p0, rowR encInt A_p1_Cells c_p1_Cells p1.Cells, cel ⟨2, 0, none⟩ (.int .i64 mG)] [blk g1 (.cells #[(.int .i64 p1.Width), (.int .i64 p1.Height), (.slice A_p1_Cells p1.Cells.length c_p1_Cells)] 35 (0, 0)), blk g4519 (.cells #[(.int .i64 x5350), (.int .i64 x5351), (.slice A5352 l5354.length c5353)] 35 (0, 0)), rowO 62 enc_Tile A5376 c5377 t5371.1, blk g5385 (.cells #[(.int .i64 t5378.1.Width), (.int .i64 t5378.1.Height), (.slice A5383 t5378.1.Cells.length c5384)] 35 (0, 0)), rowO 3 encInt A5383 c5384 t5378.1.Cells] ∧ x5418 = t) ∧ CellsOK [] w1) (fun K => ?_) ?_
        ·
          rcases br_some hx5419 with ⟨h5420, hx5419⟩ | ⟨h5420, hx5419⟩
          ·
            refine WL.setB 82 h5420 rfl ?_
            refine seg 19 [] [0, 2, 3, 4, 5, 7, 13, 15, 16, 17, 19, 88] [(0, (.slice A_p0 p0.length c_p0)), (2, (.int .u8 p2)), (3, (.int .u8 p3)), (4, (.int .u8 p4)), (5, (.int .u8 p5)), (7, (.pointer (some ⟨g1, 0, none⟩))), (13, (.bool t4506)), (15, (.pointer (some ⟨g4519, 0, none⟩))), (16, (.int .i64 x5355)), (17, (.slice A5376 t5371.1.length c5377)), (19, (.pointer (some ⟨g5385, 0, none⟩))), (88, (.bool true))] [] (fun fb => by kernel_rfl) rfl trivial ?_
            injection hx5419 with hx5419
            exact WL.to K true [0, 2, 3, 4, 5, 7, 13, 15, 16, 17, 19, 88] rfl ⟨⟨(hS5410.subR [0, 1, 2, 3, 4]).sub [0, 1, 2, 3, 4] (by decide), hx5419.symm⟩, trivial⟩
          refine WL.setB 82 h5420 rfl ?_
          refine seg 15 [.v (.int .i64 t5378.1.Width), .v (.int .i64 t5378.1.Height), .v (.slice A5383 t5378.1.Cells.length c5384)] [0, 2, 3, 4, 5, 7, 13, 15, 16, 17, 19, 82, 83, 84] [(0, (.slice A_p0 p0.length c_p0)), (2, (.int .u8 p2)), (3, (.int .u8 p3)), (4, (.int .u8 p4)), (5, (.int .u8 p5)), (7, (.pointer (some ⟨g1, 0, none⟩))), (13, (.bool t4506)), (15, (.pointer (some ⟨g4519, 0, none⟩))), (16, (.int .i64 x5355)), (17, (.slice A5376 t5371.1.length c5377)), (19, (.pointer (some ⟨g5385, 0, none⟩))), (82, (.bool false)), (83, (.slice A5376 t5371.1.length c5377)), (84, (.agg #[(.int .i64 t5378.1.Width), (.int .i64 t5378.1.Height), (.slice A5383 t5378.1.Cells.length c5384)]))] [.cell ⟨g5385, 0, none⟩ (.int .i64 t5378.1.Width), .cell ⟨g5385, 1, none⟩ (.int .i64 t5378.1.Height), .cell ⟨g5385, 2, none⟩ (.slice A5383 t5378.1.Cells.length c5384)] (fun fb => by kernel_rfl) rfl ⟨hS5410.cell 3 rfl 0 rfl, hS5410.cell 3 rfl 1 rfl, hS5410.cell 3 rfl 2 rfl, trivial⟩ ?_
          obtain ⟨t5421, ht5422, hx5419⟩ := bind_some hx5419
          refine WL.call (some 85) 16 #[(.slice A5376 t5371.1.length c5377), (.agg #[(.int .i64 t5378.1.Width), (.int .i64 t5378.1.Height), (.slice A5383 t5378.1.Cells.length c5384)])] (fun fb => by kernel_rfl) (tile_Repeats_calls _ t5371.1 t5378.1 A5376 c5377 A5383 c5384 t5421 _ (hS5410.ow 2).ofO (hS5410.ow 4).ofO ht5422) (fun v w5423 hR5424 => ?_)
          obtain ⟨rfl, hk_⟩ := hR5424
          have hS5425 := hS5410.keepN hk_
          refine ⟨trivial, ?_⟩
          refine seg 19 [] [0, 2, 3, 4, 5, 7, 13, 15, 16, 17, 19, 88] [(0, (.slice A_p0 p0.length c_p0)), (2, (.int .u8 p2)), (3, (.int .u8 p3)), (4, (.int .u8 p4)), (5, (.int .u8 p5)), (7, (.pointer (some ⟨g1, 0, none⟩))), (13, (.bool t4506)), (15, (.pointer (some ⟨g4519, 0, none⟩))), (16, (.int .i64 x5355)), (17, (.slice A5376 t5371.1.length c5377)), (19, (.pointer (some ⟨g5385, 0, none⟩))), (88, (.bool (t5421 != t4506)))] [] (fun fb => by kernel_rfl) rfl trivial ?_
          injection hx5419 with hx5419
          exact WL.to K (t5421 != t4506) [0, 2, 3, 4, 5, 7, 13, 15, 16, 17, 19, 88] rfl ⟨⟨(hS5425.subR [0, 1, 2, 3, 4]).sub [0, 1, 2, 3, 4] (by decide), hx5419.symm⟩, trivial⟩
        rintro y5426 w5428 ⟨⟨hS5429, hq5427⟩, hF5430⟩
        subst hq5427
        refine WL.done rfl ?_
        refine WX.next ?_
        rcases br_some hl5369 with ⟨h5431, hl5369⟩ | ⟨h5431, hl5369⟩
        · refine WC.condT2 (fun fb => by kernel_rfl) h5431 ?_
          refine WC.seq ?_
          refine WC.region ?_
          refine seg 1 [] [12] [(12, (.bool false))] [] (fun fb => by kernel_rfl) rfl trivial ?_
          refine WL.done rfl ?_
          refine WX.next ?_
          refine WC.ret ?_
          injection hl5369 with hl5369
          subst hl5369
          injection hf with hf
          subst hf
          exact WX.thenR (WX.blockR (WX.thenR (WX.thenR (WX.blockR (WX.thenR (WX.ret_ [] (.bool false) [] (fun fb => by kernel_rfl) trivial ⟨_, rfl, rfl, hS5429.keep⟩))))))
        refine WC.condF2 (fun fb => by kernel_rfl) h5431 ?_
        refine WC.skip ?_
        refine WX.next ?_
        refine WC.regionD ([(1, ⟨g5385, 0, none⟩, (.int .i64 t5378.1.Width)), (1, ⟨g5385, 1, none⟩, (.int .i64 t5378.1.Height)), (1, ⟨g5385, 2, none⟩, (.slice A5383 t5378.1.Cells.length c5384))], [0, 1, 2], [[], [], [0], [0, 1, 2]]) [[0, 1, 2, 3]] (by kernel_rfl) (by kernel_rfl) (NoPanic.block (NoPanic.seq (NoPanic.seq (NoPanic.block (NoPanic.seq (NoPanic.body)))))) ?_
        have hS5435 := hS5429.drew
        revert hS5435
        generalize World.drew w5428 = w5434
        intro hS5435
        refine ⟨⟨hS5435.cell 3 rfl 0 rfl, hS5435.cell 3 rfl 1 rfl, hS5435.cell 3 rfl 2 rfl, trivial⟩, forallC ?_ (forallN)⟩
        refine segF 3 [.v (.int .i64 t5378.1.Width), .v (.int .i64 t5378.1.Height), .v (.slice A5383 t5378.1.Cells.length c5384)] [0, 2, 3, 4, 5, 7, 13, 14, 15, 16, 90] [(0, (.slice A_p0 p0.length c_p0)), (2, (.int .u8 p2)), (3, (.int .u8 p3)), (4, (.int .u8 p4)), (5, (.int .u8 p5)), (7, (.pointer (some ⟨g1, 0, none⟩))), (13, (.bool t4506)), (14, (.slice A5376 t5371.1.length c5377)), (15, (.pointer (some ⟨g4519, 0, none⟩))), (16, (.int .i64 x5355)), (90, (.agg #[(.int .i64 t5378.1.Width), (.int .i64 t5378.1.Height), (.slice A5383 t5378.1.Cells.length c5384)]))] [] [0, 1, 2] [(1, ⟨g5385, 0, none⟩, (.int .i64 t5378.1.Width)), (1, ⟨g5385, 1, none⟩, (.int .i64 t5378.1.Height)), (1, ⟨g5385, 2, none⟩, (.slice A5383 t5378.1.Cells.length c5384))] (fun fb => by kernel_rfl) rfl trivial rfl ?_
        refine WL.store hS5435 1 rfl [(0, (.int .i64 t5378.1.Width)), (1, (.int .i64 t5378.1.Height)), (2, (.slice A5383 t5378.1.Cells.length c5384))] #[(.int .i64 t5378.1.Width), (.int .i64 t5378.1.Height), (.slice A5383 t5378.1.Cells.length c5384)] (fun fb => by kernel_rfl) (by kernel_rfl) rfl [0, 2, 3, 4] (by decide) (by decide) (fun w5436 hS5437 => ?_)
        refine ⟨trivial, ?_⟩
        refine WL.done rfl ?_
        refine WX.blockN (WX.next ?_)
        refine WC.region ?_
        refine seg 3 [] [0, 2, 3, 4, 5, 7, 13, 14, 15, 16] [(0, (.slice A_p0 p0.length c_p0)), (2, (.int .u8 p2)), (3, (.int .u8 p3)), (4, (.int .u8 p4)), (5, (.int .u8 p5)), (7, (.pointer (some ⟨g1, 0, none⟩))), (13, (.bool t4506)), (14, (.slice A5376 t5371.1.length c5377)), (15, (.pointer (some ⟨g4519, 0, none⟩))), (16, (.int .i64 (w64 (x5355 + 1))))] [] (fun fb => by kernel_rfl) rfl trivial ?_
        refine WL.done rfl ?_
        have hS5438 := hS5437.freezeRow 2 rfl [0, 1, 3, 4] (by decide) (by decide)
        have hS5439 := hS5438.freezeRow 3 rfl [0, 1, 2] (by decide) (by decide)
        exact WX.again k5366 (Nat.lt_succ_self _) ((t5371.1, t5378.1.Width, t5378.1.Height, t5378.1.Cells, w64 (x5355 + 1)), A5376, c5377, A5383, c5384) [0, 2, 3, 4, 5, 7, 13, 14, 15, 16] rfl ⟨(hS5439.subR [1, 0, 4, 5, 6]).sub [1, 0] (by decide), hl5369⟩
      refine WC.condF2 (fun fb => by kernel_rfl) h5370 ?_
      refine WC.exit ?_
      injection hl5369 with hl5369
      exact WX.thenX (WX.thenX (WX.blockHere (WX.to Kx5364 ((l5349, x5350, x5351, l5354), A5347, c5348, A5352, c5353) [0, 2, 3, 4, 5, 7, 13, 14, 15] rfl ⟨(hS5368.subR [0, 1, 2, 3, 4]).sub [0, 1] (by decide), hl5369.symm⟩)))
  rintro ⟨y5443, A5356, c5357, A5361, c5362⟩ w5440 ⟨hS5441, hq5442⟩
  subst hq5442
  have hf := sum_inr hf
  refine WX.next ?_
  refine WC.seq ?_
  refine WC.seq ?_
  refine WC.region ?_
  refine seg 2 [] [0, 2, 3, 4, 5, 7, 13, 14, 15, 91, 92] [(0, (.slice A_p0 p0.length c_p0)), (2, (.int .u8 p2)), (3, (.int .u8 p3)), (4, (.int .u8 p4)), (5, (.int .u8 p5)), (7, (.pointer (some ⟨g1, 0, none⟩))), (13, (.bool t4506)), (14, (.slice A5356 y5443.1.length c5357)), (15, (.pointer (some ⟨g4519, 0, none⟩))), (91, (.slice A5356 y5443.1.length c5357)), (92, (.slice A_p0 p0.length c_p0))] [] (fun fb => by kernel_rfl) rfl trivial ?_
  obtain ⟨t5489, ht5490, hf⟩ := bind_some hf
  refine WL.call (some 93) 12 #[(.slice A5356 y5443.1.length c5357), (.slice A_p0 p0.length c_p0)] (fun fb => by kernel_rfl) (ref01_SameSet_calls _ y5443.1 p0 A5356 c5357 A_p0 c_p0 t5489 _ (hS5441.rd 0) (hS5441.rd 2) ht5490) (fun v w5491 hR5492 => ?_)
  obtain ⟨rfl, hk_⟩ := hR5492
  have hS5493 := hS5441.keepN hk_
  refine ⟨trivial, ?_⟩
  refine seg 5 [] [0, 2, 3, 4, 5, 7, 13, 14, 15, 95] [(0, (.slice A_p0 p0.length c_p0)), (2, (.int .u8 p2)), (3, (.int .u8 p3)), (4, (.int .u8 p4)), (5, (.int .u8 p5)), (7, (.pointer (some ⟨g1, 0, none⟩))), (13, (.bool t4506)), (14, (.slice A5356 y5443.1.length c5357)), (15, (.pointer (some ⟨g4519, 0, none⟩))), (95, (.bool (!t5489)))] [] (fun fb => by kernel_rfl) rfl trivial ?_
  obtain ⟨x5573, hx5574, hf⟩ := bind_some hf
  refine WL.cutW (T := Bool) 10 (fun t => [(0, (.slice A_p0 p0.length c_p0)), (2, (.int .u8 p2)), (3, (.int .u8 p3)), (4, (.int .u8 p4)), (5, (.int .u8 p5)), (7, (.pointer (some ⟨g1, 0, none⟩))), (13, (.bool t4506)), (14, (.slice A5356 y5443.1.length c5357)), (15, (.pointer (some ⟨g4519, 0, none⟩))), (100, (.bool t))]) (fun t w1 => (St NoS w w1 [rowR enc_Tile A5356 c5357 y5443.1, rowR encInt A5361 c5362 y5443.2.2.2, rowR enc_Tile A_p0 c_p0 p0, rowR encInt A_p1_Cells c_p1_Cells p1.Cells, cel ⟨2, 0, none⟩ (.int .i64 mG)] [blk g1 (.cells #[(.int .i64 p1.Width), (.int .i64 p1.Height), (.slice A_p1_Cells p1.Cells.length c_p1_Cells)] 35 (0, 0)), blk g4519 (.cells #[(.int .i64 y5443.2.1), (.int .i64 y5443.2.2.1), (.slice A5361 y5443.2.2.2.length c5362)] 35 (0, 0))] ∧ x5573 = t) ∧ CellsOK [] w1) (fun K => ?_) ?_
  ·
    rcases br_some hx5574 with ⟨h5575, hx5574⟩ | ⟨h5575, hx5574⟩
    ·
      refine WL.setB 95 h5575 rfl ?_
      refine seg 10 [] [0, 2, 3, 4, 5, 7, 13, 14, 15, 100] [(0, (.slice A_p0 p0.length c_p0)), (2, (.int .u8 p2)), (3, (.int .u8 p3)), (4, (.int .u8 p4)), (5, (.int .u8 p5)), (7, (.pointer (some ⟨g1, 0, none⟩))), (13, (.bool t4506)), (14, (.slice A5356 y5443.1.length c5357)), (15, (.pointer (some ⟨g4519, 0, none⟩))), (100, (.bool true))] [] (fun fb => by kernel_rfl) rfl trivial ?_
      injection hx5574 with hx5574
      exact WL.to K true [0, 2, 3, 4, 5, 7, 13, 14, 15, 100] rfl ⟨⟨(hS5493.subR [0, 1, 2, 3, 4]).sub [0, 1] (by decide), hx5574.symm⟩, trivial⟩
    refine WL.setB 95 h5575 rfl ?_
    refine seg 7 [.v (.int .i64 y5443.2.1), .v (.int .i64 y5443.2.2.1), .v (.slice A5361 y5443.2.2.2.length c5362), .v (.int .i64 p1.Width), .v (.int .i64 p1.Height), .v (.slice A_p1_Cells p1.Cells.length c_p1_Cells)] [0, 2, 3, 4, 5, 7, 13, 14, 15, 95, 96, 97] [(0, (.slice A_p0 p0.length c_p0)), (2, (.int .u8 p2)), (3, (.int .u8 p3)), (4, (.int .u8 p4)), (5, (.int .u8 p5)), (7, (.pointer (some ⟨g1, 0, none⟩))), (13, (.bool t4506)), (14, (.slice A5356 y5443.1.length c5357)), (15, (.pointer (some ⟨g4519, 0, none⟩))), (95, (.bool false)), (96, (.agg #[(.int .i64 y5443.2.1), (.int .i64 y5443.2.2.1), (.slice A5361 y5443.2.2.2.length c5362)])), (97, (.agg #[(.int .i64 p1.Width), (.int .i64 p1.Height), (.slice A_p1_Cells p1.Cells.length c_p1_Cells)]))] [.cell ⟨g4519, 0, none⟩ (.int .i64 y5443.2.1), .cell ⟨g4519, 1, none⟩ (.int .i64 y5443.2.2.1), .cell ⟨g4519, 2, none⟩ (.slice A5361 y5443.2.2.2.length c5362), .cell ⟨g1, 0, none⟩ (.int .i64 p1.Width), .cell ⟨g1, 1, none⟩ (.int .i64 p1.Height), .cell ⟨g1, 2, none⟩ (.slice A_p1_Cells p1.Cells.length c_p1_Cells)] (fun fb => by kernel_rfl) rfl ⟨hS5493.cell 1 rfl 0 rfl, hS5493.cell 1 rfl 1 rfl, hS5493.cell 1 rfl 2 rfl, hS5493.cell 0 rfl 0 rfl, hS5493.cell 0 rfl 1 rfl, hS5493.cell 0 rfl 2 rfl, trivial⟩ ?_
    obtain ⟨t5576, ht5577, hx5574⟩ := bind_some hx5574
    refine WL.call (some 98) 40 #[(.agg #[(.int .i64 y5443.2.1), (.int .i64 y5443.2.2.1), (.slice A5361 y5443.2.2.2.length c5362)]), (.agg #[(.int .i64 p1.Width), (.int .i64 p1.Height), (.slice A_p1_Cells p1.Cells.length c_p1_Cells)])] (fun fb => by kernel_rfl) (ref01_SamePattern_calls _ (Pattern.mk y5443.2.1 y5443.2.2.1 y5443.2.2.2) p1 A5361 c5362 A_p1_Cells c_p1_Cells t5576 _ (hS5493.rd 1) (hS5493.rd 3) ht5577) (fun v w5578 hR5579 => ?_)
    obtain ⟨rfl, hk_⟩ := hR5579
    have hS5580 := hS5493.keepN hk_
    refine ⟨trivial, ?_⟩
    refine seg 10 [] [0, 2, 3, 4, 5, 7, 13, 14, 15, 100] [(0, (.slice A_p0 p0.length c_p0)), (2, (.int .u8 p2)), (3, (.int .u8 p3)), (4, (.int .u8 p4)), (5, (.int .u8 p5)), (7, (.pointer (some ⟨g1, 0, none⟩))), (13, (.bool t4506)), (14, (.slice A5356 y5443.1.length c5357)), (15, (.pointer (some ⟨g4519, 0, none⟩))), (100, (.bool (!t5576)))] [] (fun fb => by kernel_rfl) rfl trivial ?_
    injection hx5574 with hx5574
    exact WL.to K (!t5576) [0, 2, 3, 4, 5, 7, 13, 14, 15, 100] rfl ⟨⟨(hS5580.subR [0, 1, 2, 3, 4]).sub [0, 1] (by decide), hx5574.symm⟩, trivial⟩
  rintro y5581 w5583 ⟨⟨hS5584, hq5582⟩, hF5585⟩
  subst hq5582
  refine WL.done rfl ?_
  refine WX.next ?_
  rcases br_some hf with ⟨h5586, hf⟩ | ⟨h5586, hf⟩
  · refine WC.condT2 (fun fb => by kernel_rfl) h5586 ?_
    refine WC.seq ?_
    refine WC.region ?_
    refine seg 1 [] [12] [(12, (.bool false))] [] (fun fb => by kernel_rfl) rfl trivial ?_
    refine WL.done rfl ?_
    refine WX.next ?_
    refine WC.ret ?_
    injection hf with hf
    subst hf
    exact WX.thenR (WX.ret_ [] (.bool false) [] (fun fb => by kernel_rfl) trivial ⟨_, rfl, rfl, hS5584.keep⟩)
  refine WC.condF2 (fun fb => by kernel_rfl) h5586 ?_
  refine WC.skip ?_
  refine WX.next ?_
  refine WC.seq ?_
  refine WC.seq ?_
  refine WC.region ?_
  refine seg 1 [] [0, 2, 3, 4, 5, 7, 13, 14, 15, 21] [(0, (.slice A_p0 p0.length c_p0)), (2, (.int .u8 p2)), (3, (.int .u8 p3)), (4, (.int .u8 p4)), (5, (.int .u8 p5)), (7, (.pointer (some ⟨g1, 0, none⟩))), (13, (.bool t4506)), (14, (.slice A5356 y5443.1.length c5357)), (15, (.pointer (some ⟨g4519, 0, none⟩))), (21, (.int .i64 0))] [] (fun fb => by kernel_rfl) rfl trivial ?_
  refine WL.done rfl ?_
  refine WX.next ?_
  obtain ⟨x7217, hx7218, hf⟩ := bind_some hf
  refine WC.cutN (T := ((List Tile) × Int × Int × (List Int)) × (Option Addr) × Nat × (Option Addr) × Nat) (fun t => [(0, (.slice A_p0 p0.length c_p0)), (2, (.int .u8 p2)), (3, (.int .u8 p3)), (4, (.int .u8 p4)), (5, (.int .u8 p5)), (7, (.pointer (some ⟨g1, 0, none⟩))), (13, (.bool t4506)), (14, (.slice t.2.1 t.1.1.length t.2.2.1)), (15, (.pointer (some ⟨g4519, 0, none⟩)))]) (fun t w1 => St NoS w w1 [rowR enc_Tile t.2.1 t.2.2.1 t.1.1, rowR encInt t.2.2.2.1 t.2.2.2.2 t.1.2.2.2, rowR enc_Tile A5356 c5357 y5443.1, rowR encInt A5361 c5362 y5443.2.2.2, rowR enc_Tile A_p0 c_p0 p0, rowR encInt A_p1_Cells c_p1_Cells p1.Cells, cel ⟨2, 0, none⟩ (.int .i64 mG)] [blk g1 (.cells #[(.int .i64 p1.Width), (.int .i64 p1.Height), (.slice A_p1_Cells p1.Cells.length c_p1_Cells)] 35 (0, 0)), blk g4519 (.cells #[(.int .i64 t.1.2.1), (.int .i64 t.1.2.2.1), (.slice t.2.2.2.1 t.1.2.2.2.length t.2.2.2.2)] 35 (0, 0))] ∧ x7217 = .inr t.1) (fun Kx7217 => ?_) ?_
  ·
    refine WC.block ?_
    refine WC.loop (T := ((List Tile) × Int × Int × (List Int) × Int) × (Option Addr) × Nat × (Option Addr) × Nat) (fun t => [(0, (.slice A_p0 p0.length c_p0)), (2, (.int .u8 p2)), (3, (.int .u8 p3)), (4, (.int .u8 p4)), (5, (.int .u8 p5)), (7, (.pointer (some ⟨g1, 0, none⟩))), (13, (.bool t4506)), (14, (.slice t.2.1 t.1.1.length t.2.2.1)), (15, (.pointer (some ⟨g4519, 0, none⟩))), (21, (.int .i64 t.1.2.2.2.2))]) (fun n t w1 => St NoS w w1 [rowR enc_Tile t.2.1 t.2.2.1 t.1.1, rowR encInt t.2.2.2.1 t.2.2.2.2 t.1.2.2.2.1, rowR enc_Tile A5356 c5357 y5443.1, rowR encInt A5361 c5362 y5443.2.2.2, rowR enc_Tile A_p0 c_p0 p0, rowR encInt A_p1_Cells c_p1_Cells p1.Cells, cel ⟨2, 0, none⟩ (.int .i64 mG)] [blk g1 (.cells #[(.int .i64 p1.Width), (.int .i64 p1.Height), (.slice A_p1_Cells p1.Cells.length c_p1_Cells)] 35 (0, 0)), blk g4519 (.cells #[(.int .i64 t.1.2.1), (.int .i64 t.1.2.2.1), (.slice t.2.2.2.1 t.1.2.2.2.1.length t.2.2.2.2)] 35 (0, 0))] ∧ law01_TileTurned.l1 n t.1.1 t.1.2.1 t.1.2.2.1 t.1.2.2.2.1 t.1.2.2.2.2 t4506 = some x7217) k ((y5443.1, y5443.2.1, y5443.2.2.1, y5443.2.2.2, 0), A5356, c5357, A5361, c5362) [0, 2, 3, 4, 5, 7, 13, 14, 15, 21] rfl ⟨(hS5584.subR [0, 1, 0, 1, 2, 3, 4]).sub [0, 1] (by decide), hx7218⟩ ?_
    rintro k7219 ⟨⟨l7202, x7203, x7204, l7207, x7208⟩, A7200, c7201, A7205, c7206⟩ w7220 ⟨hS7221, hl7222⟩
    cases k7219 with
    | zero => rw [law01_TileTurned.l1] at hl7222; cases hl7222
    | succ k7219 =>
      rw [law01_TileTurned.l1] at hl7222
      refine WC.seq ?_
      refine WC.seq ?_
      refine WC.region ?_
      refine seg 2 [] [0, 2, 3, 4, 5, 7, 13, 14, 15, 21, 102] [(0, (.slice A_p0 p0.length c_p0)), (2, (.int .u8 p2)), (3, (.int .u8 p3)), (4, (.int .u8 p4)), (5, (.int .u8 p5)), (7, (.pointer (some ⟨g1, 0, none⟩))), (13, (.bool t4506)), (14, (.slice A7200 l7202.length c7201)), (15, (.pointer (some ⟨g4519, 0, none⟩))), (21, (.int .i64 x7208)), (102, (.bool (decide (x7208 < 2))))] [] (fun fb => by kernel_rfl) rfl trivial ?_
      refine WL.done rfl ?_
      refine WX.next ?_
      rcases br_some hl7222 with ⟨h7223, hl7222⟩ | ⟨h7223, hl7222⟩
      · refine WC.condT2 (fun fb => by kernel_rfl) h7223 ?_
        refine WC.skip ?_
        refine WX.next ?_
        refine WC.seq ?_
        refine WC.block ?_
        refine WC.seq ?_
        refine WC.region ?_
        refine seg 1 [] [0, 2, 3, 4, 5, 7, 13, 15, 21, 106] [(0, (.slice A_p0 p0.length c_p0)), (2, (.int .u8 p2)), (3, (.int .u8 p3)), (4, (.int .u8 p4)), (5, (.int .u8 p5)), (7, (.pointer (some ⟨g1, 0, none⟩))), (13, (.bool t4506)), (15, (.pointer (some ⟨g4519, 0, none⟩))), (21, (.int .i64 x7208)), (106, (.slice A7200 l7202.length c7201))] [] (fun fb => by kernel_rfl) rfl trivial ?_
        obtain ⟨t7224, ht7225, hl7222⟩ := bind_some hl7222
        refine WL.call (some 107) 19 #[(.slice A7200 l7202.length c7201)] (fun fb => by kernel_rfl) (tile_Mirror_calls _ l7202 A7200 c7201 t7224 _ (hS7221.rd 0) ht7225) (fun v w7226 hR7227 => ?_)
        obtain ⟨A7229, c7230, rfl, hk_⟩ := hR7227
        have hS7228 : St NoS w w7226 [rowR enc_Tile A7200 c7201 l7202, rowR encInt A7205 c7206 l7207, rowR enc_Tile A5356 c5357 y5443.1, rowR encInt A5361 c5362 y5443.2.2.2, rowR enc_Tile A_p0 c_p0 p0, rowR encInt A_p1_Cells c_p1_Cells p1.Cells, cel ⟨2, 0, none⟩ (.int .i64 mG)] [rowO 62 enc_Tile A7229 c7230 t7224.1, blk g1 (.cells #[(.int .i64 p1.Width), (.int .i64 p1.Height), (.slice A_p1_Cells p1.Cells.length c_p1_Cells)] 35 (0, 0)), blk g4519 (.cells #[(.int .i64 x7203), (.int .i64 x7204), (.slice A7205 l7207.length c7206)] 35 (0, 0))] := hS7221.call hk_ [] [0, 1] (fun g hg => hg.elim) (by simp) (by decide)
        refine ⟨trivial, ?_⟩
        refine seg 7 [] [0, 2, 3, 4, 5, 7, 13, 15, 21, 22, 23] [(0, (.slice A_p0 p0.length c_p0)), (2, (.int .u8 p2)), (3, (.int .u8 p3)), (4, (.int .u8 p4)), (5, (.int .u8 p5)), (7, (.pointer (some ⟨g1, 0, none⟩))), (13, (.bool t4506)), (15, (.pointer (some ⟨g4519, 0, none⟩))), (21, (.int .i64 x7208)), (22, (.slice A7229 t7224.1.length c7230)), (23, (.int .i64 t7224.2))] [] (fun fb => by kernel_rfl) rfl trivial ?_
        refine WL.done rfl ?_
        refine WX.next ?_
        refine WC.seq ?_
        refine WC.region ?_
        refine seg 1 [] [0, 2, 3, 4, 5, 7, 13, 15, 21, 22, 23, 111] [(0, (.slice A_p0 p0.length c_p0)), (2, (.int .u8 p2)), (3, (.int .u8 p3)), (4, (.int .u8 p4)), (5, (.int .u8 p5)), (7, (.pointer (some ⟨g1, 0, none⟩))), (13, (.bool t4506)), (15, (.pointer (some ⟨g4519, 0, none⟩))), (21, (.int .i64 x7208)), (22, (.slice A7229 t7224.1.length c7230)), (23, (.int .i64 t7224.2)), (111, (.slice A7229 t7224.1.length c7230))] [] (fun fb => by kernel_rfl) rfl trivial ?_
        obtain ⟨t7231, ht7232, hl7222⟩ := bind_some hl7222
        refine WL.call (some 112) 20 #[(.slice A7229 t7224.1.length c7230)] (fun fb => by kernel_rfl) (tile_Upturn_calls _ t7224.1 A7229 c7230 t7231 _ (hS7228.ow 0).ofO ht7232) (fun v w7233 hR7234 => ?_)
        obtain ⟨A7236, c7237, rfl, hk_⟩ := hR7234
        have hS7235 : St NoS w w7233 [rowR enc_Tile A7200 c7201 l7202, rowR encInt A7205 c7206 l7207, rowR enc_Tile A5356 c5357 y5443.1, rowR encInt A5361 c5362 y5443.2.2.2, rowR enc_Tile A_p0 c_p0 p0, rowR encInt A_p1_Cells c_p1_Cells p1.Cells, cel ⟨2, 0, none⟩ (.int .i64 mG)] [rowO 62 enc_Tile A7236 c7237 t7231.1, rowO 62 enc_Tile A7229 c7230 t7224.1, blk g1 (.cells #[(.int .i64 p1.Width), (.int .i64 p1.Height), (.slice A_p1_Cells p1.Cells.length c_p1_Cells)] 35 (0, 0)), blk g4519 (.cells #[(.int .i64 x7203), (.int .i64 x7204), (.slice A7205 l7207.length c7206)] 35 (0, 0))] := hS7228.call hk_ [] [0, 1, 2] (fun g hg => hg.elim) (by simp) (by decide)
        refine ⟨trivial, ?_⟩
        refine seg 7 [] [0, 2, 3, 4, 5, 7, 13, 15, 21, 22, 23, 24, 25] [(0, (.slice A_p0 p0.length c_p0)), (2, (.int .u8 p2)), (3, (.int .u8 p3)), (4, (.int .u8 p4)), (5, (.int .u8 p5)), (7, (.pointer (some ⟨g1, 0, none⟩))), (13, (.bool t4506)), (15, (.pointer (some ⟨g4519, 0, none⟩))), (21, (.int .i64 x7208)), (22, (.slice A7229 t7224.1.length c7230)), (23, (.int .i64 t7224.2)), (24, (.slice A7236 t7231.1.length c7237)), (25, (.int .i64 t7231.2))] [] (fun fb => by kernel_rfl) rfl trivial ?_
        refine WL.done rfl ?_
        refine WX.next ?_
        refine WC.seq ?_
        refine WC.region ?_
        refine seg 1 [.v (.int .i64 x7203), .v (.int .i64 x7204), .v (.slice A7205 l7207.length c7206)] [0, 2, 3, 4, 5, 7, 13, 15, 21, 22, 23, 24, 25, 116] [(0, (.slice A_p0 p0.length c_p0)), (2, (.int .u8 p2)), (3, (.int .u8 p3)), (4, (.int .u8 p4)), (5, (.int .u8 p5)), (7, (.pointer (some ⟨g1, 0, none⟩))), (13, (.bool t4506)), (15, (.pointer (some ⟨g4519, 0, none⟩))), (21, (.int .i64 x7208)), (22, (.slice A7229 t7224.1.length c7230)), (23, (.int .i64 t7224.2)), (24, (.slice A7236 t7231.1.length c7237)), (25, (.int .i64 t7231.2)), (116, (.agg #[(.int .i64 x7203), (.int .i64 x7204), (.slice A7205 l7207.length c7206)]))] [.cell ⟨g4519, 0, none⟩ (.int .i64 x7203), .cell ⟨g4519, 1, none⟩ (.int .i64 x7204), .cell ⟨g4519, 2, none⟩ (.slice A7205 l7207.length c7206)] (fun fb => by kernel_rfl) rfl ⟨hS7235.cell 3 rfl 0 rfl, hS7235.cell 3 rfl 1 rfl, hS7235.cell 3 rfl 2 rfl, trivial⟩ ?_
        obtain ⟨t7238, ht7239, hl7222⟩ := bind_some hl7222
        refine WL.call (some 117) 28 #[(.agg #[(.int .i64 x7203), (.int .i64 x7204), (.slice A7205 l7207.length c7206)])] (fun fb => by kernel_rfl) (tile_MirrorPattern_calls _ (Pattern.mk x7203 x7204 l7207) A7205 c7206 t7238 _ (hS7235.rd 1) ht7239) (fun v w7240 hR7241 => ?_)
        obtain ⟨A7243, c7244, rfl, hk_⟩ := hR7241
        have hS7242 : St NoS w w7240 [rowR enc_Tile A7200 c7201 l7202, rowR encInt A7205 c7206 l7207, rowR enc_Tile A5356 c5357 y5443.1, rowR encInt A5361 c5362 y5443.2.2.2, rowR enc_Tile A_p0 c_p0 p0, rowR encInt A_p1_Cells c_p1_Cells p1.Cells, cel ⟨2, 0, none⟩ (.int .i64 mG)] [rowO 3 encInt A7243 c7244 t7238.1.Cells, rowO 62 enc_Tile A7236 c7237 t7231.1, rowO 62 enc_Tile A7229 c7230 t7224.1, blk g1 (.cells #[(.int .i64 p1.Width), (.int .i64 p1.Height), (.slice A_p1_Cells p1.Cells.length c_p1_Cells)] 35 (0, 0)), blk g4519 (.cells #[(.int .i64 x7203), (.int .i64 x7204), (.slice A7205 l7207.length c7206)] 35 (0, 0))] := hS7235.call hk_ [] [0, 1, 2, 3] (fun g hg => hg.elim) (by simp) (by decide)
        refine ⟨trivial, ?_⟩
        refine seg 5 [] [0, 2, 3, 4, 5, 7, 13, 15, 21, 22, 23, 24, 25, 118, 119] [(0, (.slice A_p0 p0.length c_p0)), (2, (.int .u8 p2)), (3, (.int .u8 p3)), (4, (.int .u8 p4)), (5, (.int .u8 p5)), (7, (.pointer (some ⟨g1, 0, none⟩))), (13, (.bool t4506)), (15, (.pointer (some ⟨g4519, 0, none⟩))), (21, (.int .i64 x7208)), (22, (.slice A7229 t7224.1.length c7230)), (23, (.int .i64 t7224.2)), (24, (.slice A7236 t7231.1.length c7237)), (25, (.int .i64 t7231.2)), (118, (.agg #[(.int .i64 t7238.1.Width), (.int .i64 t7238.1.Height), (.slice A7243 t7238.1.Cells.length c7244)])), (119, (.int .i64 t7238.2))] [] (fun fb => by kernel_rfl) rfl trivial ?_
        refine WL.new hS7242 26 [] (fun g => (.pointer (some ⟨g, 0, none⟩))) (.cells #[(.int .i64 0), (.int .i64 0), (.slice none 0 0)] 35 (0, 0)) [] (fun fb g => by kernel_rfl) trivial (fun g7245 w7246 hS7247 => ?_)
        refine ⟨trivial, ?_⟩
        refine WL.store hS7247 0 rfl [(0, (.int .i64 t7238.1.Width)), (1, (.int .i64 t7238.1.Height)), (2, (.slice A7243 t7238.1.Cells.length c7244))] #[(.int .i64 t7238.1.Width), (.int .i64 t7238.1.Height), (.slice A7243 t7238.1.Cells.length c7244)] (fun fb => by kernel_rfl) (by kernel_rfl) rfl [1, 2, 3, 4, 5] (by decide) (by decide) (fun w7249 hS7250 => ?_)
        refine ⟨trivial, ?_⟩
        refine seg 8 [] [0, 2, 3, 4, 5, 7, 13, 15, 21, 22, 23, 24, 25, 26, 27] [(0, (.slice A_p0 p0.length c_p0)), (2, (.int .u8 p2)), (3, (.int .u8 p3)), (4, (.int .u8 p4)), (5, (.int .u8 p5)), (7, (.pointer (some ⟨g1, 0, none⟩))), (13, (.bool t4506)), (15, (.pointer (some ⟨g4519, 0, none⟩))), (21, (.int .i64 x7208)), (22, (.slice A7229 t7224.1.length c7230)), (23, (.int .i64 t7224.2)), (24, (.slice A7236 t7231.1.length c7237)), (25, (.int .i64 t7231.2)), (26, (.pointer (some ⟨g7245, 0, none⟩))), (27, (.int .i64 t7238.2))] [] (fun fb => by kernel_rfl) rfl trivial ?_
        refine WL.done rfl ?_
        refine WX.next ?_
        refine WC.seq ?_
        refine WC.region ?_
        refine seg 1 [.v (.int .i64 t7238.1.Width), .v (.int .i64 t7238.1.Height), .v (.slice A7243 t7238.1.Cells.length c7244)] [0, 2, 3, 4, 5, 7, 13, 15, 21, 22, 23, 24, 25, 26, 27, 121] [(0, (.slice A_p0 p0.length c_p0)), (2, (.int .u8 p2)), (3, (.int .u8 p3)), (4, (.int .u8 p4)), (5, (.int .u8 p5)), (7, (.pointer (some ⟨g1, 0, none⟩))), (13, (.bool t4506)), (15, (.pointer (some ⟨g4519, 0, none⟩))), (21, (.int .i64 x7208)), (22, (.slice A7229 t7224.1.length c7230)), (23, (.int .i64 t7224.2)), (24, (.slice A7236 t7231.1.length c7237)), (25, (.int .i64 t7231.2)), (26, (.pointer (some ⟨g7245, 0, none⟩))), (27, (.int .i64 t7238.2)), (121, (.agg #[(.int .i64 t7238.1.Width), (.int .i64 t7238.1.Height), (.slice A7243 t7238.1.Cells.length c7244)]))] [.cell ⟨g7245, 0, none⟩ (.int .i64 t7238.1.Width), .cell ⟨g7245, 1, none⟩ (.int .i64 t7238.1.Height), .cell ⟨g7245, 2, none⟩ (.slice A7243 t7238.1.Cells.length c7244)] (fun fb => by kernel_rfl) rfl ⟨hS7250.cell 0 rfl 0 rfl, hS7250.cell 0 rfl 1 rfl, hS7250.cell 0 rfl 2 rfl, trivial⟩ ?_
        obtain ⟨t7251, ht7252, hl7222⟩ := bind_some hl7222
        refine WL.call (some 122) 29 #[(.agg #[(.int .i64 t7238.1.Width), (.int .i64 t7238.1.Height), (.slice A7243 t7238.1.Cells.length c7244)])] (fun fb => by kernel_rfl) (tile_UpturnPattern_calls _ t7238.1 A7243 c7244 t7251 _ (hS7250.ow 1).ofO ht7252) (fun v w7253 hR7254 => ?_)
        obtain ⟨A7256, c7257, rfl, hk_⟩ := hR7254
        have hS7255 : St NoS w w7253 [rowR enc_Tile A7200 c7201 l7202, rowR encInt A7205 c7206 l7207, rowR enc_Tile A5356 c5357 y5443.1, rowR encInt A5361 c5362 y5443.2.2.2, rowR enc_Tile A_p0 c_p0 p0, rowR encInt A_p1_Cells c_p1_Cells p1.Cells, cel ⟨2, 0, none⟩ (.int .i64 mG)] [rowO 3 encInt A7256 c7257 t7251.1.Cells, blk g7245 (.cells #[(.int .i64 t7238.1.Width), (.int .i64 t7238.1.Height), (.slice A7243 t7238.1.Cells.length c7244)] 35 (0, 0)), rowO 3 encInt A7243 c7244 t7238.1.Cells, rowO 62 enc_Tile A7236 c7237 t7231.1, rowO 62 enc_Tile A7229 c7230 t7224.1, blk g1 (.cells #[(.int .i64 p1.Width), (.int .i64 p1.Height), (.slice A_p1_Cells p1.Cells.length c_p1_Cells)] 35 (0, 0)), blk g4519 (.cells #[(.int .i64 x7203), (.int .i64 x7204), (.slice A7205 l7207.length c7206)] 35 (0, 0))] := hS7250.call hk_ [] [0, 1, 2, 3, 4, 5] (fun g hg => hg.elim) (by simp) (by decide)
        refine ⟨trivial, ?_⟩
        refine seg 5 [] [0, 2, 3, 4, 5, 7, 13, 15, 21, 22, 23, 24, 25, 26, 27, 123, 124] [(0, (.slice A_p0 p0.length c_p0)), (2, (.int .u8 p2)), (3, (.int .u8 p3)), (4, (.int .u8 p4)), (5, (.int .u8 p5)), (7, (.pointer (some ⟨g1, 0, none⟩))), (13, (.bool t4506)), (15, (.pointer (some ⟨g4519, 0, none⟩))), (21, (.int .i64 x7208)), (22, (.slice A7229 t7224.1.length c7230)), (23, (.int .i64 t7224.2)), (24, (.slice A7236 t7231.1.length c7237)), (25, (.int .i64 t7231.2)), (26, (.pointer (some ⟨g7245, 0, none⟩))), (27, (.int .i64 t7238.2)), (123, (.agg #[(.int .i64 t7251.1.Width), (.int .i64 t7251.1.Height), (.slice A7256 t7251.1.Cells.length c7257)])), (124, (.int .i64 t7251.2))] [] (fun fb => by kernel_rfl) rfl trivial ?_
        refine WL.new hS7255 28 [] (fun g => (.pointer (some ⟨g, 0, none⟩))) (.cells #[(.int .i64 0), (.int .i64 0), (.slice none 0 0)] 35 (0, 0)) [] (fun fb g => by kernel_rfl) trivial (fun g7258 w7259 hS7260 => ?_)
        refine ⟨trivial, ?_⟩
        refine WL.store hS7260 0 rfl [(0, (.int .i64 t7251.1.Width)), (1, (.int .i64 t7251.1.Height)), (2, (.slice A7256 t7251.1.Cells.length c7257))] #[(.int .i64 t7251.1.Width), (.int .i64 t7251.1.Height), (.slice A7256 t7251.1.Cells.length c7257)] (fun fb => by kernel_rfl) (by kernel_rfl) rfl [1, 2, 3, 4, 5, 6, 7] (by decide) (by decide) (fun w7262 hS7263 => ?_)
        refine ⟨trivial, ?_⟩
        refine seg 8 [] [0, 2, 3, 4, 5, 7, 13, 15, 21, 22, 23, 24, 25, 26, 27, 28, 29] [(0, (.slice A_p0 p0.length c_p0)), (2, (.int .u8 p2)), (3, (.int .u8 p3)), (4, (.int .u8 p4)), (5, (.int .u8 p5)), (7, (.pointer (some ⟨g1, 0, none⟩))), (13, (.bool t4506)), (15, (.pointer (some ⟨g4519, 0, none⟩))), (21, (.int .i64 x7208)), (22, (.slice A7229 t7224.1.length c7230)), (23, (.int .i64 t7224.2)), (24, (.slice A7236 t7231.1.length c7237)), (25, (.int .i64 t7231.2)), (26, (.pointer (some ⟨g7245, 0, none⟩))), (27, (.int .i64 t7238.2)), (28, (.pointer (some ⟨g7258, 0, none⟩))), (29, (.int .i64 t7251.2))] [] (fun fb => by kernel_rfl) rfl trivial ?_
        refine WL.done rfl ?_
        refine WX.next ?_
        refine WC.seq ?_
        refine WC.seq ?_
        refine WC.region ?_
        refine seg 3 [] [0, 2, 3, 4, 5, 7, 13, 15, 21, 22, 24, 25, 26, 27, 28, 29, 127] [(0, (.slice A_p0 p0.length c_p0)), (2, (.int .u8 p2)), (3, (.int .u8 p3)), (4, (.int .u8 p4)), (5, (.int .u8 p5)), (7, (.pointer (some ⟨g1, 0, none⟩))), (13, (.bool t4506)), (15, (.pointer (some ⟨g4519, 0, none⟩))), (21, (.int .i64 x7208)), (22, (.slice A7229 t7224.1.length c7230)), (24, (.slice A7236 t7231.1.length c7237)), (25, (.int .i64 t7231.2)), (26, (.pointer (some ⟨g7245, 0, none⟩))), (27, (.int .i64 t7238.2)), (28, (.pointer (some ⟨g7258, 0, none⟩))), (29, (.int .i64 t7251.2)), (127, (.bool (t7224.2 != 0)))] [] (fun fb => by kernel_rfl) rfl trivial ?_
        refine WL.cutV (T := Bool) 6 (fun t => [(130, (.bool t)), (0, (.slice A_p0 p0.length c_p0)), (2, (.int .u8 p2)), (3, (.int .u8 p3)), (4, (.int .u8 p4)), (5, (.int .u8 p5)), (7, (.pointer (some ⟨g1, 0, none⟩))), (13, (.bool t4506)), (15, (.pointer (some ⟨g4519, 0, none⟩))), (21, (.int .i64 x7208)), (22, (.slice A7229 t7224.1.length c7230)), (24, (.slice A7236 t7231.1.length c7237)), (26, (.pointer (some ⟨g7245, 0, none⟩))), (27, (.int .i64 t7238.2)), (28, (.pointer (some ⟨g7258, 0, none⟩))), (29, (.int .i64 t7251.2))]) (fun t => t = ((t7224.2 != 0) || (t7231.2 != 0))) (fun K => ?_) ?_
        ·
          rcases Bool.eq_false_or_eq_true (t7224.2 != 0) with h7264 | h7264
          ·
            refine WL.setB 127 h7264 rfl ?_
            refine seg 6 [] [0, 2, 3, 4, 5, 7, 13, 15, 21, 22, 24, 26, 27, 28, 29, 130] [(0, (.slice A_p0 p0.length c_p0)), (2, (.int .u8 p2)), (3, (.int .u8 p3)), (4, (.int .u8 p4)), (5, (.int .u8 p5)), (7, (.pointer (some ⟨g1, 0, none⟩))), (13, (.bool t4506)), (15, (.pointer (some ⟨g4519, 0, none⟩))), (21, (.int .i64 x7208)), (22, (.slice A7229 t7224.1.length c7230)), (24, (.slice A7236 t7231.1.length c7237)), (26, (.pointer (some ⟨g7245, 0, none⟩))), (27, (.int .i64 t7238.2)), (28, (.pointer (some ⟨g7258, 0, none⟩))), (29, (.int .i64 t7251.2)), (130, (.bool true))] [] (fun fb => by kernel_rfl) rfl trivial ?_
            exact WL.toV K true [130, 0, 2, 3, 4, 5, 7, 13, 15, 21, 22, 24, 26, 27, 28, 29] rfl (by first | (rw [h7264]; done) | (rw [h7264]; rfl))
          refine WL.setB 127 h7264 rfl ?_
          refine seg 6 [] [0, 2, 3, 4, 5, 7, 13, 15, 21, 22, 24, 26, 27, 28, 29, 130] [(0, (.slice A_p0 p0.length c_p0)), (2, (.int .u8 p2)), (3, (.int .u8 p3)), (4, (.int .u8 p4)), (5, (.int .u8 p5)), (7, (.pointer (some ⟨g1, 0, none⟩))), (13, (.bool t4506)), (15, (.pointer (some ⟨g4519, 0, none⟩))), (21, (.int .i64 x7208)), (22, (.slice A7229 t7224.1.length c7230)), (24, (.slice A7236 t7231.1.length c7237)), (26, (.pointer (some ⟨g7245, 0, none⟩))), (27, (.int .i64 t7238.2)), (28, (.pointer (some ⟨g7258, 0, none⟩))), (29, (.int .i64 t7251.2)), (130, (.bool (t7231.2 != 0)))] [] (fun fb => by kernel_rfl) rfl trivial ?_
          exact WL.toV K (t7231.2 != 0) [130, 0, 2, 3, 4, 5, 7, 13, 15, 21, 22, 24, 26, 27, 28, 29] rfl (by first | (rw [h7264]; done) | (rw [h7264]; rfl))
        rintro b7265 rfl
        refine seg 7 [] [0, 2, 3, 4, 5, 7, 13, 15, 21, 22, 24, 26, 27, 28, 29, 131] [(0, (.slice A_p0 p0.length c_p0)), (2, (.int .u8 p2)), (3, (.int .u8 p3)), (4, (.int .u8 p4)), (5, (.int .u8 p5)), (7, (.pointer (some ⟨g1, 0, none⟩))), (13, (.bool t4506)), (15, (.pointer (some ⟨g4519, 0, none⟩))), (21, (.int .i64 x7208)), (22, (.slice A7229 t7224.1.length c7230)), (24, (.slice A7236 t7231.1.length c7237)), (26, (.pointer (some ⟨g7245, 0, none⟩))), (27, (.int .i64 t7238.2)), (28, (.pointer (some ⟨g7258, 0, none⟩))), (29, (.int .i64 t7251.2)), (131, (.bool ((t7224.2 != 0) || (t7231.2 != 0))))] [] (fun fb => by kernel_rfl) rfl trivial ?_
        refine WL.cutV (T := Bool) 10 (fun t => [(134, (.bool t)), (0, (.slice A_p0 p0.length c_p0)), (2, (.int .u8 p2)), (3, (.int .u8 p3)), (4, (.int .u8 p4)), (5, (.int .u8 p5)), (7, (.pointer (some ⟨g1, 0, none⟩))), (13, (.bool t4506)), (15, (.pointer (some ⟨g4519, 0, none⟩))), (21, (.int .i64 x7208)), (22, (.slice A7229 t7224.1.length c7230)), (24, (.slice A7236 t7231.1.length c7237)), (26, (.pointer (some ⟨g7245, 0, none⟩))), (28, (.pointer (some ⟨g7258, 0, none⟩))), (29, (.int .i64 t7251.2))]) (fun t => t = (((t7224.2 != 0) || (t7231.2 != 0)) || (t7238.2 != 0))) (fun K => ?_) ?_
        ·
          rcases Bool.eq_false_or_eq_true ((t7224.2 != 0) || (t7231.2 != 0)) with h7266 | h7266
          ·
            refine WL.setB 131 h7266 rfl ?_
            refine seg 10 [] [0, 2, 3, 4, 5, 7, 13, 15, 21, 22, 24, 26, 28, 29, 134] [(0, (.slice A_p0 p0.length c_p0)), (2, (.int .u8 p2)), (3, (.int .u8 p3)), (4, (.int .u8 p4)), (5, (.int .u8 p5)), (7, (.pointer (some ⟨g1, 0, none⟩))), (13, (.bool t4506)), (15, (.pointer (some ⟨g4519, 0, none⟩))), (21, (.int .i64 x7208)), (22, (.slice A7229 t7224.1.length c7230)), (24, (.slice A7236 t7231.1.length c7237)), (26, (.pointer (some ⟨g7245, 0, none⟩))), (28, (.pointer (some ⟨g7258, 0, none⟩))), (29, (.int .i64 t7251.2)), (134, (.bool true))] [] (fun fb => by kernel_rfl) rfl trivial ?_
            exact WL.toV K true [134, 0, 2, 3, 4, 5, 7, 13, 15, 21, 22, 24, 26, 28, 29] rfl (by first | (rw [h7266]; done) | (rw [h7266]; rfl))
          refine WL.setB 131 h7266 rfl ?_
          refine seg 10 [] [0, 2, 3, 4, 5, 7, 13, 15, 21, 22, 24, 26, 28, 29, 134] [(0, (.slice A_p0 p0.length c_p0)), (2, (.int .u8 p2)), (3, (.int .u8 p3)), (4, (.int .u8 p4)), (5, (.int .u8 p5)), (7, (.pointer (some ⟨g1, 0, none⟩))), (13, (.bool t4506)), (15, (.pointer (some ⟨g4519, 0, none⟩))), (21, (.int .i64 x7208)), (22, (.slice A7229 t7224.1.length c7230)), (24, (.slice A7236 t7231.1.length c7237)), (26, (.pointer (some ⟨g7245, 0, none⟩))), (28, (.pointer (some ⟨g7258, 0, none⟩))), (29, (.int .i64 t7251.2)), (134, (.bool (t7238.2 != 0)))] [] (fun fb => by kernel_rfl) rfl trivial ?_
          exact WL.toV K (t7238.2 != 0) [134, 0, 2, 3, 4, 5, 7, 13, 15, 21, 22, 24, 26, 28, 29] rfl (by first | (rw [h7266]; done) | (rw [h7266]; rfl))
        rintro b7267 rfl
        refine seg 11 [] [0, 2, 3, 4, 5, 7, 13, 15, 21, 22, 24, 26, 28, 29, 135] [(0, (.slice A_p0 p0.length c_p0)), (2, (.int .u8 p2)), (3, (.int .u8 p3)), (4, (.int .u8 p4)), (5, (.int .u8 p5)), (7, (.pointer (some ⟨g1, 0, none⟩))), (13, (.bool t4506)), (15, (.pointer (some ⟨g4519, 0, none⟩))), (21, (.int .i64 x7208)), (22, (.slice A7229 t7224.1.length c7230)), (24, (.slice A7236 t7231.1.length c7237)), (26, (.pointer (some ⟨g7245, 0, none⟩))), (28, (.pointer (some ⟨g7258, 0, none⟩))), (29, (.int .i64 t7251.2)), (135, (.bool (((t7224.2 != 0) || (t7231.2 != 0)) || (t7238.2 != 0))))] [] (fun fb => by kernel_rfl) rfl trivial ?_
        refine WL.cutV (T := Bool) 14 (fun t => [(138, (.bool t)), (0, (.slice A_p0 p0.length c_p0)), (2, (.int .u8 p2)), (3, (.int .u8 p3)), (4, (.int .u8 p4)), (5, (.int .u8 p5)), (7, (.pointer (some ⟨g1, 0, none⟩))), (13, (.bool t4506)), (15, (.pointer (some ⟨g4519, 0, none⟩))), (21, (.int .i64 x7208)), (22, (.slice A7229 t7224.1.length c7230)), (24, (.slice A7236 t7231.1.length c7237)), (26, (.pointer (some ⟨g7245, 0, none⟩))), (28, (.pointer (some ⟨g7258, 0, none⟩)))]) (fun t => t = ((((t7224.2 != 0) || (t7231.2 != 0)) || (t7238.2 != 0)) || (t7251.2 != 0))) (fun K => ?_) ?_
        ·
          rcases Bool.eq_false_or_eq_true (((t7224.2 != 0) || (t7231.2 != 0)) || (t7238.2 != 0)) with h7268 | h7268
          ·
            refine WL.setB 135 h7268 rfl ?_
            refine seg 14 [] [0, 2, 3, 4, 5, 7, 13, 15, 21, 22, 24, 26, 28, 138] [(0, (.slice A_p0 p0.length c_p0)), (2, (.int .u8 p2)), (3, (.int .u8 p3)), (4, (.int .u8 p4)), (5, (.int .u8 p5)), (7, (.pointer (some ⟨g1, 0, none⟩))), (13, (.bool t4506)), (15, (.pointer (some ⟨g4519, 0, none⟩))), (21, (.int .i64 x7208)), (22, (.slice A7229 t7224.1.length c7230)), (24, (.slice A7236 t7231.1.length c7237)), (26, (.pointer (some ⟨g7245, 0, none⟩))), (28, (.pointer (some ⟨g7258, 0, none⟩))), (138, (.bool true))] [] (fun fb => by kernel_rfl) rfl trivial ?_
            exact WL.toV K true [138, 0, 2, 3, 4, 5, 7, 13, 15, 21, 22, 24, 26, 28] rfl (by first | (rw [h7268]; done) | (rw [h7268]; rfl))
          refine WL.setB 135 h7268 rfl ?_
          refine seg 14 [] [0, 2, 3, 4, 5, 7, 13, 15, 21, 22, 24, 26, 28, 138] [(0, (.slice A_p0 p0.length c_p0)), (2, (.int .u8 p2)), (3, (.int .u8 p3)), (4, (.int .u8 p4)), (5, (.int .u8 p5)), (7, (.pointer (some ⟨g1, 0, none⟩))), (13, (.bool t4506)), (15, (.pointer (some ⟨g4519, 0, none⟩))), (21, (.int .i64 x7208)), (22, (.slice A7229 t7224.1.length c7230)), (24, (.slice A7236 t7231.1.length c7237)), (26, (.pointer (some ⟨g7245, 0, none⟩))), (28, (.pointer (some ⟨g7258, 0, none⟩))), (138, (.bool (t7251.2 != 0)))] [] (fun fb => by kernel_rfl) rfl trivial ?_
          exact WL.toV K (t7251.2 != 0) [138, 0, 2, 3, 4, 5, 7, 13, 15, 21, 22, 24, 26, 28] rfl (by first | (rw [h7268]; done) | (rw [h7268]; rfl))
        rintro b7269 rfl
        refine seg 15 [] [0, 2, 3, 4, 5, 7, 13, 15, 21, 22, 24, 26, 28, 139] [(0, (.slice A_p0 p0.length c_p0)), (2, (.int .u8 p2)), (3, (.int .u8 p3)), (4, (.int .u8 p4)), (5, (.int .u8 p5)), (7, (.pointer (some ⟨g1, 0, none⟩))), (13, (.bool t4506)), (15, (.pointer (some ⟨g4519, 0, none⟩))), (21, (.int .i64 x7208)), (22, (.slice A7229 t7224.1.length c7230)), (24, (.slice A7236 t7231.1.length c7237)), (26, (.pointer (some ⟨g7245, 0, none⟩))), (28, (.pointer (some ⟨g7258, 0, none⟩))), (139, (.bool ((((t7224.2 != 0) || (t7231.2 != 0)) || (t7238.2 != 0)) || (t7251.2 != 0))))] [] (fun fb => by kernel_rfl) rfl trivial ?_
        obtain ⟨x7276, hx7277, hl7222⟩ := bind_some hl7222
        refine WL.cutW (T := Bool) 20 (fun t => [(0, (.slice A_p0 p0.length c_p0)), (2, (.int .u8 p2)), (3, (.int .u8 p3)), (4, (.int .u8 p4)), (5, (.int .u8 p5)), (7, (.pointer (some ⟨g1, 0, none⟩))), (13, (.bool t4506)), (15, (.pointer (some ⟨g4519, 0, none⟩))), (21, (.int .i64 x7208)), (22, (.slice A7229 t7224.1.length c7230)), (24, (.slice A7236 t7231.1.length c7237)), (26, (.pointer (some ⟨g7245, 0, none⟩))), (28, (.pointer (some ⟨g7258, 0, none⟩))), (144, (.bool t))]) (fun t w1 => (St NoS w w1 [rowR enc_Tile A7200 c7201 l7202, rowR encInt A7205 c7206 l7207, rowR enc_Tile A5356 c5357 y5443.1, rowR encInt A5361 c5362 y5443.2.2.2, rowR enc_Tile A_p0 c_p0 p0, rowR encInt A_p1_Cells c_p1_Cells p1.Cells, cel ⟨2, 0, none⟩ (.int .i64 mG)] [blk g1 (.cells #[(.int .i64 p1.Width), (.int .i64 p1.Height), (.slice A_p1_Cells p1.Cells.length c_p1_Cells)] 35 (0, 0)), blk g4519 (.cells #[(.int .i64 x7203), (.int .i64 x7204), (.slice A7205 l7207.length c7206)] 35 (0, 0)), rowO 62 enc_Tile A7229 c7230 t7224.1, rowO 62 enc_Tile A7236 c7237 t7231.1, blk g7245 (.cells #[(.int .i64 t7238.1.Width), (.int .i64 t7238.1.Height), (.slice A7243 t7238.1.Cells.length c7244)] 35 (0, 0)), rowO 3 encInt A7243 c7244 t7238.1.Cells, blk g7258 (.cells #[(.int .i64 t7251.1.Width), (.int .i64 t7251.1.Height), (.slice A7256 t7251.1.Cells.length c7257)] 35 (0, 0)), rowO 3 encInt A7256 c7257 t7251.1.Cells] ∧ x7276 = t) ∧ CellsOK [] w1) (fun K => ?_) ?_
        ·
          rcases br_some hx7277 with ⟨h7278, hx7277⟩ | ⟨h7278, hx7277⟩
          ·
            refine WL.setB 139 h7278 rfl ?_
            refine seg 20 [] [0, 2, 3, 4, 5, 7, 13, 15, 21, 22, 24, 26, 28, 144] [(0, (.slice A_p0 p0.length c_p0)), (2, (.int .u8 p2)), (3, (.int .u8 p3)), (4, (.int .u8 p4)), (5, (.int .u8 p5)), (7, (.pointer (some ⟨g1, 0, none⟩))), (13, (.bool t4506)), (15, (.pointer (some ⟨g4519, 0, none⟩))), (21, (.int .i64 x7208)), (22, (.slice A7229 t7224.1.length c7230)), (24, (.slice A7236 t7231.1.length c7237)), (26, (.pointer (some ⟨g7245, 0, none⟩))), (28, (.pointer (some ⟨g7258, 0, none⟩))), (144, (.bool true))] [] (fun fb => by kernel_rfl) rfl trivial ?_
            injection hx7277 with hx7277
            exact WL.to K true [0, 2, 3, 4, 5, 7, 13, 15, 21, 22, 24, 26, 28, 144] rfl ⟨⟨(hS7263.subR [0, 1, 2, 3, 4, 5, 6]).sub [6, 7, 5, 4, 2, 3, 0, 1] (by decide), hx7277.symm⟩, trivial⟩
          refine WL.setB 139 h7278 rfl ?_
          refine seg 17 [.v (.int .i64 t7238.1.Width), .v (.int .i64 t7238.1.Height), .v (.slice A7243 t7238.1.Cells.length c7244)] [0, 2, 3, 4, 5, 7, 13, 15, 21, 22, 24, 26, 28, 139, 140, 141] [(0, (.slice A_p0 p0.length c_p0)), (2, (.int .u8 p2)), (3, (.int .u8 p3)), (4, (.int .u8 p4)), (5, (.int .u8 p5)), (7, (.pointer (some ⟨g1, 0, none⟩))), (13, (.bool t4506)), (15, (.pointer (some ⟨g4519, 0, none⟩))), (21, (.int .i64 x7208)), (22, (.slice A7229 t7224.1.length c7230)), (24, (.slice A7236 t7231.1.length c7237)), (26, (.pointer (some ⟨g7245, 0, none⟩))), (28, (.pointer (some ⟨g7258, 0, none⟩))), (139, (.bool false)), (140, (.slice A7229 t7224.1.length c7230)), (141, (.agg #[(.int .i64 t7238.1.Width), (.int .i64 t7238.1.Height), (.slice A7243 t7238.1.Cells.length c7244)]))] [.cell ⟨g7245, 0, none⟩ (.int .i64 t7238.1.Width), .cell ⟨g7245, 1, none⟩ (.int .i64 t7238.1.Height), .cell ⟨g7245, 2, none⟩ (.slice A7243 t7238.1.Cells.length c7244)] (fun fb => by kernel_rfl) rfl ⟨hS7263.cell 2 rfl 0 rfl, hS7263.cell 2 rfl 1 rfl, hS7263.cell 2 rfl 2 rfl, trivial⟩ ?_
          obtain ⟨t7279, ht7280, hx7277⟩ := bind_some hx7277
          refine WL.call (some 142) 14 #[(.slice A7229 t7224.1.length c7230), (.agg #[(.int .i64 t7238.1.Width), (.int .i64 t7238.1.Height), (.slice A7243 t7238.1.Cells.length c7244)])] (fun fb => by kernel_rfl) (tile_Fits_calls _ t7224.1 t7238.1 A7229 c7230 A7243 c7244 t7279 _ (hS7263.ow 5).ofO (hS7263.ow 3).ofO ht7280) (fun v w7281 hR7282 => ?_)
          obtain ⟨rfl, hk_⟩ := hR7282
          have hS7283 := hS7263.keepN hk_
          refine ⟨trivial, ?_⟩
          refine seg 20 [] [0, 2, 3, 4, 5, 7, 13, 15, 21, 22, 24, 26, 28, 144] [(0, (.slice A_p0 p0.length c_p0)), (2, (.int .u8 p2)), (3, (.int .u8 p3)), (4, (.int .u8 p4)), (5, (.int .u8 p5)), (7, (.pointer (some ⟨g1, 0, none⟩))), (13, (.bool t4506)), (15, (.pointer (some ⟨g4519, 0, none⟩))), (21, (.int .i64 x7208)), (22, (.slice A7229 t7224.1.length c7230)), (24, (.slice A7236 t7231.1.length c7237)), (26, (.pointer (some ⟨g7245, 0, none⟩))), (28, (.pointer (some ⟨g7258, 0, none⟩))), (144, (.bool (!t7279)))] [] (fun fb => by kernel_rfl) rfl trivial ?_
          injection hx7277 with hx7277
          exact WL.to K (!t7279) [0, 2, 3, 4, 5, 7, 13, 15, 21, 22, 24, 26, 28, 144] rfl ⟨⟨(hS7283.subR [0, 1, 2, 3, 4, 5, 6]).sub [6, 7, 5, 4, 2, 3, 0, 1] (by decide), hx7277.symm⟩, trivial⟩
        rintro y7284 w7286 ⟨⟨hS7287, hq7285⟩, hF7288⟩
        subst hq7285
        refine seg 21 [] [0, 2, 3, 4, 5, 7, 13, 15, 21, 22, 24, 26, 28, 145] [(0, (.slice A_p0 p0.length c_p0)), (2, (.int .u8 p2)), (3, (.int .u8 p3)), (4, (.int .u8 p4)), (5, (.int .u8 p5)), (7, (.pointer (some ⟨g1, 0, none⟩))), (13, (.bool t4506)), (15, (.pointer (some ⟨g4519, 0, none⟩))), (21, (.int .i64 x7208)), (22, (.slice A7229 t7224.1.length c7230)), (24, (.slice A7236 t7231.1.length c7237)), (26, (.pointer (some ⟨g7245, 0, none⟩))), (28, (.pointer (some ⟨g7258, 0, none⟩))), (145, (.bool x7276))] [] (fun fb => by kernel_rfl) rfl trivial ?_
        obtain ⟨x7295, hx7296, hl7222⟩ := bind_some hl7222
        refine WL.cutW (T := Bool) 26 (fun t => [(0, (.slice A_p0 p0.length c_p0)), (2, (.int .u8 p2)), (3, (.int .u8 p3)), (4, (.int .u8 p4)), (5, (.int .u8 p5)), (7, (.pointer (some ⟨g1, 0, none⟩))), (13, (.bool t4506)), (15, (.pointer (some ⟨g4519, 0, none⟩))), (21, (.int .i64 x7208)), (22, (.slice A7229 t7224.1.length c7230)), (24, (.slice A7236 t7231.1.length c7237)), (26, (.pointer (some ⟨g7245, 0, none⟩))), (28, (.pointer (some ⟨g7258, 0, none⟩))), (150, (.bool t))]) (fun t w1 => (St NoS w w1 [rowR enc_Tile A7200 c7201 l7202, rowR encInt A7205 c7206 l7207, rowR enc_Tile A5356 c5357 y5443.1, rowR encInt A5361 c5362 y5443.2.2.2, rowR enc_Tile A_p0 c_p0 p0, rowR encInt A_p1_Cells c_p1_Cells p1.Cells, cel ⟨2, 0, none⟩ (.int .i64 mG)] [blk g1 (.cells #[(.int .i64 p1.Width), (.int .i64 p1.Height), (.slice A_p1_Cells p1.Cells.length c_p1_Cells)] 35 (0, 0)), blk g4519 (.cells #[(.int .i64 x7203), (.int .i64 x7204), (.slice A7205 l7207.length c7206)] 35 (0, 0)), rowO 62 enc_Tile A7229 c7230 t7224.1, rowO 62 enc_Tile A7236 c7237 t7231.1, blk g7245 (.cells #[(.int .i64 t7238.1.Width), (.int .i64 t7238.1.Height), (.slice A7243 t7238.1.Cells.length c7244)] 35 (0, 0)), rowO 3 encInt A7243 c7244 t7238.1.Cells, blk g7258 (.cells #[(.int .i64 t7251.1.Width), (.int .i64 t7251.1.Height), (.slice A7256 t7251.1.Cells.length c7257)] 35 (0, 0)), rowO 3 encInt A7256 c7257 t7251.1.Cells] ∧ x7295 = t) ∧ CellsOK [] w1) (fun K => ?_) ?_
        ·
          rcases br_some hx7296 with ⟨h7297, hx7296⟩ | ⟨h7297, hx7296⟩
          ·
            refine WL.setB 145 h7297 rfl ?_
            refine seg 26 [] [0, 2, 3, 4, 5, 7, 13, 15, 21, 22, 24, 26, 28, 150] [(0, (.slice A_p0 p0.length c_p0)), (2, (.int .u8 p2)), (3, (.int .u8 p3)), (4, (.int .u8 p4)), (5, (.int .u8 p5)), (7, (.pointer (some ⟨g1, 0, none⟩))), (13, (.bool t4506)), (15, (.pointer (some ⟨g4519, 0, none⟩))), (21, (.int .i64 x7208)), (22, (.slice A7229 t7224.1.length c7230)), (24, (.slice A7236 t7231.1.length c7237)), (26, (.pointer (some ⟨g7245, 0, none⟩))), (28, (.pointer (some ⟨g7258, 0, none⟩))), (150, (.bool true))] [] (fun fb => by kernel_rfl) rfl trivial ?_
            injection hx7296 with hx7296
            exact WL.to K true [0, 2, 3, 4, 5, 7, 13, 15, 21, 22, 24, 26, 28, 150] rfl ⟨⟨(hS7287.subR [0, 1, 2, 3, 4, 5, 6]).sub [0, 1, 2, 3, 4, 5, 6, 7] (by decide), hx7296.symm⟩, trivial⟩
          refine WL.setB 145 h7297 rfl ?_
          refine seg 23 [.v (.int .i64 t7251.1.Width), .v (.int .i64 t7251.1.Height), .v (.slice A7256 t7251.1.Cells.length c7257)] [0, 2, 3, 4, 5, 7, 13, 15, 21, 22, 24, 26, 28, 145, 146, 147] [(0, (.slice A_p0 p0.length c_p0)), (2, (.int .u8 p2)), (3, (.int .u8 p3)), (4, (.int .u8 p4)), (5, (.int .u8 p5)), (7, (.pointer (some ⟨g1, 0, none⟩))), (13, (.bool t4506)), (15, (.pointer (some ⟨g4519, 0, none⟩))), (21, (.int .i64 x7208)), (22, (.slice A7229 t7224.1.length c7230)), (24, (.slice A7236 t7231.1.length c7237)), (26, (.pointer (some ⟨g7245, 0, none⟩))), (28, (.pointer (some ⟨g7258, 0, none⟩))), (145, (.bool false)), (146, (.slice A7236 t7231.1.length c7237)), (147, (.agg #[(.int .i64 t7251.1.Width), (.int .i64 t7251.1.Height), (.slice A7256 t7251.1.Cells.length c7257)]))] [.cell ⟨g7258, 0, none⟩ (.int .i64 t7251.1.Width), .cell ⟨g7258, 1, none⟩ (.int .i64 t7251.1.Height), .cell ⟨g7258, 2, none⟩ (.slice A7256 t7251.1.Cells.length c7257)] (fun fb => by kernel_rfl) rfl ⟨hS7287.cell 6 rfl 0 rfl, hS7287.cell 6 rfl 1 rfl, hS7287.cell 6 rfl 2 rfl, trivial⟩ ?_
          obtain ⟨t7298, ht7299, hx7296⟩ := bind_some hx7296
          refine WL.call (some 148) 14 #[(.slice A7236 t7231.1.length c7237), (.agg #[(.int .i64 t7251.1.Width), (.int .i64 t7251.1.Height), (.slice A7256 t7251.1.Cells.length c7257)])] (fun fb => by kernel_rfl) (tile_Fits_calls _ t7231.1 t7251.1 A7236 c7237 A7256 c7257 t7298 _ (hS7287.ow 3).ofO (hS7287.ow 7).ofO ht7299) (fun v w7300 hR7301 => ?_)
          obtain ⟨rfl, hk_⟩ := hR7301
          have hS7302 := hS7287.keepN hk_
          refine ⟨trivial, ?_⟩
          refine seg 26 [] [0, 2, 3, 4, 5, 7, 13, 15, 21, 22, 24, 26, 28, 150] [(0, (.slice A_p0 p0.length c_p0)), (2, (.int .u8 p2)), (3, (.int .u8 p3)), (4, (.int .u8 p4)), (5, (.int .u8 p5)), (7, (.pointer (some ⟨g1, 0, none⟩))), (13, (.bool t4506)), (15, (.pointer (some ⟨g4519, 0, none⟩))), (21, (.int .i64 x7208)), (22, (.slice A7229 t7224.1.length c7230)), (24, (.slice A7236 t7231.1.length c7237)), (26, (.pointer (some ⟨g7245, 0, none⟩))), (28, (.pointer (some ⟨g7258, 0, none⟩))), (150, (.bool (!t7298)))] [] (fun fb => by kernel_rfl) rfl trivial ?_
          injection hx7296 with hx7296
          exact WL.to K (!t7298) [0, 2, 3, 4, 5, 7, 13, 15, 21, 22, 24, 26, 28, 150] rfl ⟨⟨(hS7302.subR [0, 1, 2, 3, 4, 5, 6]).sub [0, 1, 2, 3, 4, 5, 6, 7] (by decide), hx7296.symm⟩, trivial⟩
        rintro y7303 w7305 ⟨⟨hS7306, hq7304⟩, hF7307⟩
        subst hq7304
        refine seg 27 [] [0, 2, 3, 4, 5, 7, 13, 15, 21, 22, 24, 26, 28, 151] [(0, (.slice A_p0 p0.length c_p0)), (2, (.int .u8 p2)), (3, (.int .u8 p3)), (4, (.int .u8 p4)), (5, (.int .u8 p5)), (7, (.pointer (some ⟨g1, 0, none⟩))), (13, (.bool t4506)), (15, (.pointer (some ⟨g4519, 0, none⟩))), (21, (.int .i64 x7208)), (22, (.slice A7229 t7224.1.length c7230)), (24, (.slice A7236 t7231.1.length c7237)), (26, (.pointer (some ⟨g7245, 0, none⟩))), (28, (.pointer (some ⟨g7258, 0, none⟩))), (151, (.bool x7295))] [] (fun fb => by kernel_rfl) rfl trivial ?_
        obtain ⟨x7314, hx7315, hl7222⟩ := bind_some hl7222
        refine WL.cutW (T := Bool) 33 (fun t => [(0, (.slice A_p0 p0.length c_p0)), (2, (.int .u8 p2)), (3, (.int .u8 p3)), (4, (.int .u8 p4)), (5, (.int .u8 p5)), (7, (.pointer (some ⟨g1, 0, none⟩))), (13, (.bool t4506)), (15, (.pointer (some ⟨g4519, 0, none⟩))), (21, (.int .i64 x7208)), (24, (.slice A7236 t7231.1.length c7237)), (28, (.pointer (some ⟨g7258, 0, none⟩))), (157, (.bool t))]) (fun t w1 => (St NoS w w1 [rowR enc_Tile A7200 c7201 l7202, rowR encInt A7205 c7206 l7207, rowR enc_Tile A5356 c5357 y5443.1, rowR encInt A5361 c5362 y5443.2.2.2, rowR enc_Tile A_p0 c_p0 p0, rowR encInt A_p1_Cells c_p1_Cells p1.Cells, cel ⟨2, 0, none⟩ (.int .i64 mG)] [blk g1 (.cells #[(.int .i64 p1.Width), (.int .i64 p1.Height), (.slice A_p1_Cells p1.Cells.length c_p1_Cells)] 35 (0, 0)), blk g4519 (.cells #[(.int .i64 x7203), (.int .i64 x7204), (.slice A7205 l7207.length c7206)] 35 (0, 0)), rowO 62 enc_Tile A7236 c7237 t7231.1, blk g7258 (.cells #[(.int .i64 t7251.1.Width), (.int .i64 t7251.1.Height), (.slice A7256 t7251.1.Cells.length c7257)] 35 (0, 0)), rowO 3 encInt A7256 c7257 t7251.1.Cells] ∧ x7314 = t) ∧ CellsOK [] w1) (fun K => ?_) ?_
        ·
          rcases br_some hx7315 with ⟨h7316, hx7315⟩ | ⟨h7316, hx7315⟩
          ·
            refine WL.setB 151 h7316 rfl ?_
            refine seg 33 [] [0, 2, 3, 4, 5, 7, 13, 15, 21, 24, 28, 157] [(0, (.slice A_p0 p0.length c_p0)), (2, (.int .u8 p2)), (3, (.int .u8 p3)), (4, (.int .u8 p4)), (5, (.int .u8 p5)), (7, (.pointer (some ⟨g1, 0, none⟩))), (13, (.bool t4506)), (15, (.pointer (some ⟨g4519, 0, none⟩))), (21, (.int .i64 x7208)), (24, (.slice A7236 t7231.1.length c7237)), (28, (.pointer (some ⟨g7258, 0, none⟩))), (157, (.bool true))] [] (fun fb => by kernel_rfl) rfl trivial ?_
            injection hx7315 with hx7315
            exact WL.to K true [0, 2, 3, 4, 5, 7, 13, 15, 21, 24, 28, 157] rfl ⟨⟨(hS7306.subR [0, 1, 2, 3, 4, 5, 6]).sub [0, 1, 3, 6, 7] (by decide), hx7315.symm⟩, trivial⟩
          refine WL.setB 151 h7316 rfl ?_
          refine seg 29 [.v (.int .i64 t7238.1.Width), .v (.int .i64 t7238.1.Height), .v (.slice A7243 t7238.1.Cells.length c7244)] [0, 2, 3, 4, 5, 7, 13, 15, 21, 24, 28, 151, 152, 153] [(0, (.slice A_p0 p0.length c_p0)), (2, (.int .u8 p2)), (3, (.int .u8 p3)), (4, (.int .u8 p4)), (5, (.int .u8 p5)), (7, (.pointer (some ⟨g1, 0, none⟩))), (13, (.bool t4506)), (15, (.pointer (some ⟨g4519, 0, none⟩))), (21, (.int .i64 x7208)), (24, (.slice A7236 t7231.1.length c7237)), (28, (.pointer (some ⟨g7258, 0, none⟩))), (151, (.bool false)), (152, (.slice A7229 t7224.1.length c7230)), (153, (.agg #[(.int .i64 t7238.1.Width), (.int .i64 t7238.1.Height), (.slice A7243 t7238.1.Cells.length c7244)]))] [.cell ⟨g7245, 0, none⟩ (.int .i64 t7238.1.Width), .cell ⟨g7245, 1, none⟩ (.int .i64 t7238.1.Height), .cell ⟨g7245, 2, none⟩ (.slice A7243 t7238.1.Cells.length c7244)] (fun fb => by kernel_rfl) rfl ⟨hS7306.cell 4 rfl 0 rfl, hS7306.cell 4 rfl 1 rfl, hS7306.cell 4 rfl 2 rfl, trivial⟩ ?_
          obtain ⟨t7317, ht7318, hx7315⟩ := bind_some hx7315
          refine WL.call (some 154) 16 #[(.slice A7229 t7224.1.length c7230), (.agg #[(.int .i64 t7238.1.Width), (.int .i64 t7238.1.Height), (.slice A7243 t7238.1.Cells.length c7244)])] (fun fb => by kernel_rfl) (tile_Repeats_calls _ t7224.1 t7238.1 A7229 c7230 A7243 c7244 t7317 _ (hS7306.ow 2).ofO (hS7306.ow 5).ofO ht7318) (fun v w7319 hR7320 => ?_)
          obtain ⟨rfl, hk_⟩ := hR7320
          have hS7321 := hS7306.keepN hk_
          refine ⟨trivial, ?_⟩
          refine seg 33 [] [0, 2, 3, 4, 5, 7, 13, 15, 21, 24, 28, 157] [(0, (.slice A_p0 p0.length c_p0)), (2, (.int .u8 p2)), (3, (.int .u8 p3)), (4, (.int .u8 p4)), (5, (.int .u8 p5)), (7, (.pointer (some ⟨g1, 0, none⟩))), (13, (.bool t4506)), (15, (.pointer (some ⟨g4519, 0, none⟩))), (21, (.int .i64 x7208)), (24, (.slice A7236 t7231.1.length c7237)), (28, (.pointer (some ⟨g7258, 0, none⟩))), (157, (.bool (t7317 != t4506)))] [] (fun fb => by kernel_rfl) rfl trivial ?_
          injection hx7315 with hx7315
          exact WL.to K (t7317 != t4506) [0, 2, 3, 4, 5, 7, 13, 15, 21, 24, 28, 157] rfl ⟨⟨(hS7321.subR [0, 1, 2, 3, 4, 5, 6]).sub [0, 1, 3, 6, 7] (by decide), hx7315.symm⟩, trivial⟩
        rintro y7322 w7324 ⟨⟨hS7325, hq7323⟩, hF7326⟩
        subst hq7323
        refine seg 34 [] [0, 2, 3, 4, 5, 7, 13, 15, 21, 24, 28, 158] [(0, (.slice A_p0 p0.length c_p0)), (2, (.int .u8 p2)), (3, (.int .u8 p3)), (4, (.int .u8 p4)), (5, (.int .u8 p5)), (7, (.pointer (some ⟨g1, 0, none⟩))), (13, (.bool t4506)), (15, (.pointer (some ⟨g4519, 0, none⟩))), (21, (.int .i64 x7208)), (24, (.slice A7236 t7231.1.length c7237)), (28, (.pointer (some ⟨g7258, 0, none⟩))), (158, (.bool x7314))] [] (fun fb => by kernel_rfl) rfl trivial ?_
        obtain ⟨x7333, hx7334, hl7222⟩ := bind_some hl7222
        refine WL.cutW (T := Bool) 40 (fun t => [(0, (.slice A_p0 p0.length c_p0)), (2, (.int .u8 p2)), (3, (.int .u8 p3)), (4, (.int .u8 p4)), (5, (.int .u8 p5)), (7, (.pointer (some ⟨g1, 0, none⟩))), (13, (.bool t4506)), (15, (.pointer (some ⟨g4519, 0, none⟩))), (21, (.int .i64 x7208)), (24, (.slice A7236 t7231.1.length c7237)), (28, (.pointer (some ⟨g7258, 0, none⟩))), (164, (.bool t))]) (fun t w1 => (St NoS w w1 [rowR enc_Tile A7200 c7201 l7202, rowR encInt A7205 c7206 l7207, rowR enc_Tile A5356 c5357 y5443.1, rowR encInt A5361 c5362 y5443.2.2.2, rowR enc_Tile A_p0 c_p0 p0, rowR encInt A_p1_Cells c_p1_Cells p1.Cells, cel ⟨2, 0, none⟩ (.int .i64 mG)] [blk g1 (.cells #[(.int .i64 p1.Width), (.int .i64 p1.Height), (.slice A_p1_Cells p1.Cells.length c_p1_Cells)] 35 (0, 0)), blk g4519 (.cells #[(.int .i64 x7203), (.int .i64 x7204), (.slice A7205 l7207.length c7206)] 35 (0, 0)), rowO 62 enc_Tile A7236 c7237 t7231.1, blk g7258 (.cells #[(.int .i64 t7251.1.Width), (.int .i64 t7251.1.Height), (.slice A7256 t7251.1.Cells.length c7257)] 35 (0, 0)), rowO 3 encInt A7256 c7257 t7251.1.Cells] ∧ x7333 = t) ∧ CellsOK [] w1) (fun K => ?_) ?_
        ·
          rcases br_some hx7334 with ⟨h7335, hx7334⟩ | ⟨h7335, hx7334⟩
          ·
            refine WL.setB 158 h7335 rfl ?_
            refine seg 40 [] [0, 2, 3, 4, 5, 7, 13, 15, 21, 24, 28, 164] [(0, (.slice A_p0 p0.length c_p0)), (2, (.int .u8 p2)), (3, (.int .u8 p3)), (4, (.int .u8 p4)), (5, (.int .u8 p5)), (7, (.pointer (some ⟨g1, 0, none⟩))), (13, (.bool t4506)), (15, (.pointer (some ⟨g4519, 0, none⟩))), (21, (.int .i64 x7208)), (24, (.slice A7236 t7231.1.length c7237)), (28, (.pointer (some ⟨g7258, 0, none⟩))), (164, (.bool true))] [] (fun fb => by kernel_rfl) rfl trivial ?_
            injection hx7334 with hx7334
            exact WL.to K true [0, 2, 3, 4, 5, 7, 13, 15, 21, 24, 28, 164] rfl ⟨⟨(hS7325.subR [0, 1, 2, 3, 4, 5, 6]).sub [0, 1, 2, 3, 4] (by decide), hx7334.symm⟩, trivial⟩
          refine WL.setB 158 h7335 rfl ?_
          refine seg 36 [.v (.int .i64 t7251.1.Width), .v (.int .i64 t7251.1.Height), .v (.slice A7256 t7251.1.Cells.length c7257)] [0, 2, 3, 4, 5, 7, 13, 15, 21, 24, 28, 158, 159, 160] [(0, (.slice A_p0 p0.length c_p0)), (2, (.int .u8 p2)), (3, (.int .u8 p3)), (4, (.int .u8 p4)), (5, (.int .u8 p5)), (7, (.pointer (some ⟨g1, 0, none⟩))), (13, (.bool t4506)), (15, (.pointer (some ⟨g4519, 0, none⟩))), (21, (.int .i64 x7208)), (24, (.slice A7236 t7231.1.length c7237)), (28, (.pointer (some ⟨g7258, 0, none⟩))), (158, (.bool false)), (159, (.slice A7236 t7231.1.length c7237)), (160, (.agg #[(.int .i64 t7251.1.Width), (.int .i64 t7251.1.Height), (.slice A7256 t7251.1.Cells.length c7257)]))] [.cell ⟨g7258, 0, none⟩ (.int .i64 t7251.1.Width), .cell ⟨g7258, 1, none⟩ (.int .i64 t7251.1.Height), .cell ⟨g7258, 2, none⟩ (.slice A7256 t7251.1.Cells.length c7257)] (fun fb => by kernel_rfl) rfl ⟨hS7325.cell 3 rfl 0 rfl, hS7325.cell 3 rfl 1 rfl, hS7325.cell 3 rfl 2 rfl, trivial⟩ ?_
          obtain ⟨t7336, ht7337, hx7334⟩ := bind_some hx7334
          refine WL.call (some 161) 16 #[(.slice A7236 t7231.1.length c7237), (.agg #[(.int .i64 t7251.1.Width), (.int .i64 t7251.1.Height), (.slice A7256 t7251.1.Cells.length c7257)])] (fun fb => by kernel_rfl) (tile_Repeats_calls _ t7231.1 t7251.1 A7236 c7237 A7256 c7257 t7336 _ (hS7325.ow 2).ofO (hS7325.ow 4).ofO ht7337) (fun v w7338 hR7339 => ?_)
          obtain ⟨rfl, hk_⟩ := hR7339
          have hS7340 := hS7325.keepN hk_
          refine ⟨trivial, ?_⟩
          refine seg 40 [] [0, 2, 3, 4, 5, 7, 13, 15, 21, 24, 28, 164] [(0, (.slice A_p0 p0.length c_p0)), (2, (.int .u8 p2)), (3, (.int .u8 p3)), (4, (.int .u8 p4)), (5, (.int .u8 p5)), (7, (.pointer (some ⟨g1, 0, none⟩))), (13, (.bool t4506)), (15, (.pointer (some ⟨g4519, 0, none⟩))), (21, (.int .i64 x7208)), (24, (.slice A7236 t7231.1.length c7237)), (28, (.pointer (some ⟨g7258, 0, none⟩))), (164, (.bool (t7336 != t4506)))] [] (fun fb => by kernel_rfl) rfl trivial ?_
          injection hx7334 with hx7334
          exact WL.to K (t7336 != t4506) [0, 2, 3, 4, 5, 7, 13, 15, 21, 24, 28, 164] rfl ⟨⟨(hS7340.subR [0, 1, 2, 3, 4, 5, 6]).sub [0, 1, 2, 3, 4] (by decide), hx7334.symm⟩, trivial⟩
        rintro y7341 w7343 ⟨⟨hS7344, hq7342⟩, hF7345⟩
        subst hq7342
        refine WL.done rfl ?_
        refine WX.next ?_
        rcases br_some hl7222 with ⟨h7346, hl7222⟩ | ⟨h7346, hl7222⟩
        · refine WC.condT2 (fun fb => by kernel_rfl) h7346 ?_
          refine WC.seq ?_
          refine WC.region ?_
          refine seg 1 [] [12] [(12, (.bool false))] [] (fun fb => by kernel_rfl) rfl trivial ?_
          refine WL.done rfl ?_
          refine WX.next ?_
          refine WC.ret ?_
          injection hl7222 with hl7222
          subst hl7222
          injection hf with hf
          subst hf
          exact WX.thenR (WX.blockR (WX.thenR (WX.thenR (WX.blockR (WX.thenR (WX.ret_ [] (.bool false) [] (fun fb => by kernel_rfl) trivial ⟨_, rfl, rfl, hS7344.keep⟩))))))
        refine WC.condF2 (fun fb => by kernel_rfl) h7346 ?_
        refine WC.skip ?_
        refine WX.next ?_
        refine WC.regionD ([(1, ⟨g7258, 0, none⟩, (.int .i64 t7251.1.Width)), (1, ⟨g7258, 1, none⟩, (.int .i64 t7251.1.Height)), (1, ⟨g7258, 2, none⟩, (.slice A7256 t7251.1.Cells.length c7257))], [0, 1, 2], [[], [], [0], [0, 1, 2]]) [[0, 1, 2, 3]] (by kernel_rfl) (by kernel_rfl) (NoPanic.block (NoPanic.seq (NoPanic.seq (NoPanic.block (NoPanic.seq (NoPanic.body)))))) ?_
        have hS7350 := hS7344.drew
        revert hS7350
        generalize World.drew w7343 = w7349
        intro hS7350
        refine ⟨⟨hS7350.cell 3 rfl 0 rfl, hS7350.cell 3 rfl 1 rfl, hS7350.cell 3 rfl 2 rfl, trivial⟩, forallC ?_ (forallN)⟩
        refine segF 3 [.v (.int .i64 t7251.1.Width), .v (.int .i64 t7251.1.Height), .v (.slice A7256 t7251.1.Cells.length c7257)] [0, 2, 3, 4, 5, 7, 13, 14, 15, 21, 166] [(0, (.slice A_p0 p0.length c_p0)), (2, (.int .u8 p2)), (3, (.int .u8 p3)), (4, (.int .u8 p4)), (5, (.int .u8 p5)), (7, (.pointer (some ⟨g1, 0, none⟩))), (13, (.bool t4506)), (14, (.slice A7236 t7231.1.length c7237)), (15, (.pointer (some ⟨g4519, 0, none⟩))), (21, (.int .i64 x7208)), (166, (.agg #[(.int .i64 t7251.1.Width), (.int .i64 t7251.1.Height), (.slice A7256 t7251.1.Cells.length c7257)]))] [] [0, 1, 2] [(1, ⟨g7258, 0, none⟩, (.int .i64 t7251.1.Width)), (1, ⟨g7258, 1, none⟩, (.int .i64 t7251.1.Height)), (1, ⟨g7258, 2, none⟩, (.slice A7256 t7251.1.Cells.length c7257))] (fun fb => by kernel_rfl) rfl trivial rfl ?_
        refine WL.store hS7350 1 rfl [(0, (.int .i64 t7251.1.Width)), (1, (.int .i64 t7251.1.Height)), (2, (.slice A7256 t7251.1.Cells.length c7257))] #[(.int .i64 t7251.1.Width), (.int .i64 t7251.1.Height), (.slice A7256 t7251.1.Cells.length c7257)] (fun fb => by kernel_rfl) (by kernel_rfl) rfl [0, 2, 3, 4] (by decide) (by decide) (fun w7351 hS7352 => ?_)
        refine ⟨trivial, ?_⟩
        refine WL.done rfl ?_
        refine WX.blockN (WX.next ?_)
        refine WC.region ?_
        refine seg 3 [] [0, 2, 3, 4, 5, 7, 13, 14, 15, 21] [(0, (.slice A_p0 p0.length c_p0)), (2, (.int .u8 p2)), (3, (.int .u8 p3)), (4, (.int .u8 p4)), (5, (.int .u8 p5)), (7, (.pointer (some ⟨g1, 0, none⟩))), (13, (.bool t4506)), (14, (.slice A7236 t7231.1.length c7237)), (15, (.pointer (some ⟨g4519, 0, none⟩))), (21, (.int .i64 (w64 (x7208 + 1))))] [] (fun fb => by kernel_rfl) rfl trivial ?_
        refine WL.done rfl ?_
        have hS7353 := hS7352.freezeRow 2 rfl [0, 1, 3, 4] (by decide) (by decide)
        have hS7354 := hS7353.freezeRow 3 rfl [0, 1, 2] (by decide) (by decide)
        exact WX.again k7219 (Nat.lt_succ_self _) ((t7231.1, t7251.1.Width, t7251.1.Height, t7251.1.Cells, w64 (x7208 + 1)), A7236, c7237, A7256, c7257) [0, 2, 3, 4, 5, 7, 13, 14, 15, 21] rfl ⟨(hS7354.subR [1, 0, 4, 5, 6, 7, 8]).sub [1, 0] (by decide), hl7222⟩
      refine WC.condF2 (fun fb => by kernel_rfl) h7223 ?_
      refine WC.exit ?_
      injection hl7222 with hl7222
      exact WX.thenX (WX.thenX (WX.blockHere (WX.to Kx7217 ((l7202, x7203, x7204, l7207), A7200, c7201, A7205, c7206) [0, 2, 3, 4, 5, 7, 13, 14, 15] rfl ⟨(hS7221.subR [0, 1, 2, 3, 4, 5, 6]).sub [0, 1] (by decide), hl7222.symm⟩)))
  rintro ⟨y7358, A7209, c7210, A7214, c7215⟩ w7355 ⟨hS7356, hq7357⟩
  subst hq7357
  have hf := sum_inr hf
  refine WX.next ?_
  refine WC.seq ?_
  refine WC.seq ?_
  refine WC.region ?_
  refine seg 2 [] [0, 2, 3, 4, 5, 7, 13, 15, 167, 168] [(0, (.slice A_p0 p0.length c_p0)), (2, (.int .u8 p2)), (3, (.int .u8 p3)), (4, (.int .u8 p4)), (5, (.int .u8 p5)), (7, (.pointer (some ⟨g1, 0, none⟩))), (13, (.bool t4506)), (15, (.pointer (some ⟨g4519, 0, none⟩))), (167, (.slice A7209 y7358.1.length c7210)), (168, (.slice A_p0 p0.length c_p0))] [] (fun fb => by kernel_rfl) rfl trivial ?_
  obtain ⟨t7360, ht7361, hf⟩ := bind_some hf
  refine WL.call (some 169) 12 #[(.slice A7209 y7358.1.length c7210), (.slice A_p0 p0.length c_p0)] (fun fb => by kernel_rfl) (ref01_SameSet_calls _ y7358.1 p0 A7209 c7210 A_p0 c_p0 t7360 _ (hS7356.rd 0) (hS7356.rd 4) ht7361) (fun v w7362 hR7363 => ?_)
  obtain ⟨rfl, hk_⟩ := hR7363
  have hS7364 := hS7356.keepN hk_
  refine ⟨trivial, ?_⟩
  refine seg 5 [] [0, 2, 3, 4, 5, 7, 13, 15, 171] [(0, (.slice A_p0 p0.length c_p0)), (2, (.int .u8 p2)), (3, (.int .u8 p3)), (4, (.int .u8 p4)), (5, (.int .u8 p5)), (7, (.pointer (some ⟨g1, 0, none⟩))), (13, (.bool t4506)), (15, (.pointer (some ⟨g4519, 0, none⟩))), (171, (.bool (!t7360)))] [] (fun fb => by kernel_rfl) rfl trivial ?_
  obtain ⟨x7371, hx7372, hf⟩ := bind_some hf
  refine WL.cutW (T := Bool) 10 (fun t => [(0, (.slice A_p0 p0.length c_p0)), (2, (.int .u8 p2)), (3, (.int .u8 p3)), (4, (.int .u8 p4)), (5, (.int .u8 p5)), (7, (.pointer (some ⟨g1, 0, none⟩))), (13, (.bool t4506)), (176, (.bool t))]) (fun t w1 => (St NoS w w1 [rowR enc_Tile A7209 c7210 y7358.1, rowR encInt A7214 c7215 y7358.2.2.2, rowR enc_Tile A5356 c5357 y5443.1, rowR encInt A5361 c5362 y5443.2.2.2, rowR enc_Tile A_p0 c_p0 p0, rowR encInt A_p1_Cells c_p1_Cells p1.Cells, cel ⟨2, 0, none⟩ (.int .i64 mG)] [blk g1 (.cells #[(.int .i64 p1.Width), (.int .i64 p1.Height), (.slice A_p1_Cells p1.Cells.length c_p1_Cells)] 35 (0, 0))] ∧ x7371 = t) ∧ CellsOK [] w1) (fun K => ?_) ?_
  ·
    rcases br_some hx7372 with ⟨h7373, hx7372⟩ | ⟨h7373, hx7372⟩
    ·
      refine WL.setB 171 h7373 rfl ?_
      refine seg 10 [] [0, 2, 3, 4, 5, 7, 13, 176] [(0, (.slice A_p0 p0.length c_p0)), (2, (.int .u8 p2)), (3, (.int .u8 p3)), (4, (.int .u8 p4)), (5, (.int .u8 p5)), (7, (.pointer (some ⟨g1, 0, none⟩))), (13, (.bool t4506)), (176, (.bool true))] [] (fun fb => by kernel_rfl) rfl trivial ?_
      injection hx7372 with hx7372
      exact WL.to K true [0, 2, 3, 4, 5, 7, 13, 176] rfl ⟨⟨(hS7364.subR [0, 1, 2, 3, 4, 5, 6]).sub [0] (by decide), hx7372.symm⟩, trivial⟩
    refine WL.setB 171 h7373 rfl ?_
    refine seg 7 [.v (.int .i64 y7358.2.1), .v (.int .i64 y7358.2.2.1), .v (.slice A7214 y7358.2.2.2.length c7215), .v (.int .i64 p1.Width), .v (.int .i64 p1.Height), .v (.slice A_p1_Cells p1.Cells.length c_p1_Cells)] [0, 2, 3, 4, 5, 7, 13, 171, 172, 173] [(0, (.slice A_p0 p0.length c_p0)), (2, (.int .u8 p2)), (3, (.int .u8 p3)), (4, (.int .u8 p4)), (5, (.int .u8 p5)), (7, (.pointer (some ⟨g1, 0, none⟩))), (13, (.bool t4506)), (171, (.bool false)), (172, (.agg #[(.int .i64 y7358.2.1), (.int .i64 y7358.2.2.1), (.slice A7214 y7358.2.2.2.length c7215)])), (173, (.agg #[(.int .i64 p1.Width), (.int .i64 p1.Height), (.slice A_p1_Cells p1.Cells.length c_p1_Cells)]))] [.cell ⟨g4519, 0, none⟩ (.int .i64 y7358.2.1), .cell ⟨g4519, 1, none⟩ (.int .i64 y7358.2.2.1), .cell ⟨g4519, 2, none⟩ (.slice A7214 y7358.2.2.2.length c7215), .cell ⟨g1, 0, none⟩ (.int .i64 p1.Width), .cell ⟨g1, 1, none⟩ (.int .i64 p1.Height), .cell ⟨g1, 2, none⟩ (.slice A_p1_Cells p1.Cells.length c_p1_Cells)] (fun fb => by kernel_rfl) rfl ⟨hS7364.cell 1 rfl 0 rfl, hS7364.cell 1 rfl 1 rfl, hS7364.cell 1 rfl 2 rfl, hS7364.cell 0 rfl 0 rfl, hS7364.cell 0 rfl 1 rfl, hS7364.cell 0 rfl 2 rfl, trivial⟩ ?_
    obtain ⟨t7374, ht7375, hx7372⟩ := bind_some hx7372
    refine WL.call (some 174) 40 #[(.agg #[(.int .i64 y7358.2.1), (.int .i64 y7358.2.2.1), (.slice A7214 y7358.2.2.2.length c7215)]), (.agg #[(.int .i64 p1.Width), (.int .i64 p1.Height), (.slice A_p1_Cells p1.Cells.length c_p1_Cells)])] (fun fb => by kernel_rfl) (ref01_SamePattern_calls _ (Pattern.mk y7358.2.1 y7358.2.2.1 y7358.2.2.2) p1 A7214 c7215 A_p1_Cells c_p1_Cells t7374 _ (hS7364.rd 1) (hS7364.rd 5) ht7375) (fun v w7376 hR7377 => ?_)
    obtain ⟨rfl, hk_⟩ := hR7377
    have hS7378 := hS7364.keepN hk_
    refine ⟨trivial, ?_⟩
    refine seg 10 [] [0, 2, 3, 4, 5, 7, 13, 176] [(0, (.slice A_p0 p0.length c_p0)), (2, (.int .u8 p2)), (3, (.int .u8 p3)), (4, (.int .u8 p4)), (5, (.int .u8 p5)), (7, (.pointer (some ⟨g1, 0, none⟩))), (13, (.bool t4506)), (176, (.bool (!t7374)))] [] (fun fb => by kernel_rfl) rfl trivial ?_
    injection hx7372 with hx7372
    exact WL.to K (!t7374) [0, 2, 3, 4, 5, 7, 13, 176] rfl ⟨⟨(hS7378.subR [0, 1, 2, 3, 4, 5, 6]).sub [0] (by decide), hx7372.symm⟩, trivial⟩
  rintro y7379 w7381 ⟨⟨hS7382, hq7380⟩, hF7383⟩
  subst hq7380
  refine WL.done rfl ?_
  refine WX.next ?_
  rcases br_some hf with ⟨h7384, hf⟩ | ⟨h7384, hf⟩
  · refine WC.condT2 (fun fb => by kernel_rfl) h7384 ?_
    refine WC.seq ?_
    refine WC.region ?_
    refine seg 1 [] [12] [(12, (.bool false))] [] (fun fb => by kernel_rfl) rfl trivial ?_
    refine WL.done rfl ?_
    refine WX.next ?_
    refine WC.ret ?_
    injection hf with hf
    subst hf
    exact WX.thenR (WX.ret_ [] (.bool false) [] (fun fb => by kernel_rfl) trivial ⟨_, rfl, rfl, hS7382.keep⟩)
  refine WC.condF2 (fun fb => by kernel_rfl) h7384 ?_
  refine WC.skip ?_
  refine WX.next ?_
  refine WC.seq ?_
  obtain ⟨h7391, hf⟩ := as_some hf
  obtain ⟨h7392, hf⟩ := as_some hf
  refine WC.regionD ([(3, ⟨g1, 0, none⟩, (.int .i64 p1.Width)), (8, ⟨g1, 1, none⟩, (.int .i64 p1.Height))], [0, 1, 2, 3, 4, 5, 6, 7, 8, 9, 10, 11], [[], [0], [], [2], [0, 1, 2, 3], [], [5], [], [7], [5, 6, 7, 8], [0, 1, 2, 3, 4], [0, 1, 2, 3, 4, 5, 6, 7, 8, 9, 10]]) [[0, 1, 2, 3, 4, 5, 6, 7, 8, 9, 10, 11]] (by kernel_rfl) (by kernel_rfl) (NoPanic.seq (NoPanic.body)) ?_
  have hS7388 := hS7382.drew
  revert hS7388
  generalize World.drew w7381 = w7387
  intro hS7388
  refine ⟨⟨hS7388.cell 0 rfl 0 rfl, hS7388.cell 0 rfl 1 rfl, trivial⟩, forallC ?_ (forallN)⟩
  refine segF 12 [.v (.int .i64 p1.Width), .v (.int .i64 p1.Height)] [0, 4, 5, 7, 13, 30, 31] [(0, (.slice A_p0 p0.length c_p0)), (4, (.int .u8 p4)), (5, (.int .u8 p5)), (7, (.pointer (some ⟨g1, 0, none⟩))), (13, (.bool t4506)), (30, (.int .i64 (Int.tmod (w64 (p2)) p1.Width))), (31, (.int .i64 (Int.tmod (w64 (p3)) p1.Height)))] [.ne p1.Width, .ne p1.Height] [0, 1] [(3, ⟨g1, 0, none⟩, (.int .i64 p1.Width)), (8, ⟨g1, 1, none⟩, (.int .i64 p1.Height))] (fun fb => by kernel_rfl) rfl ⟨h7391, h7392, trivial⟩ rfl ?_
  refine WL.done rfl ?_
  refine WX.next ?_
  refine WC.seq ?_
  obtain ⟨x7578, hx7579, hf⟩ := bind_some hf
  refine WC.cutN (T := (Int × Int × (List Int) × Int) × Nat × (Option Addr) × Nat) (fun t => [(0, (.slice A_p0 p0.length c_p0)), (4, (.int .u8 p4)), (5, (.int .u8 p5)), (7, (.pointer (some ⟨g1, 0, none⟩))), (13, (.bool t4506)), (32, (.pointer (some ⟨t.2.1, 0, none⟩))), (33, (.int .i64 t.1.2.2.2))]) (fun t w1 => St NoS w w1 [rowR enc_Tile A7209 c7210 y7358.1, rowR encInt A7214 c7215 y7358.2.2.2, rowR enc_Tile A5356 c5357 y5443.1, rowR encInt A5361 c5362 y5443.2.2.2, rowR enc_Tile A_p0 c_p0 p0, rowR encInt A_p1_Cells c_p1_Cells p1.Cells, cel ⟨2, 0, none⟩ (.int .i64 mG)] [blk g1 (.cells #[(.int .i64 p1.Width), (.int .i64 p1.Height), (.slice A_p1_Cells p1.Cells.length c_p1_Cells)] 35 (0, 0)), blk t.2.1 (.cells #[(.int .i64 t.1.1), (.int .i64 t.1.2.1), (.slice t.2.2.1 t.1.2.2.1.length t.2.2.2)] 35 (0, 0)), rowO 3 encInt t.2.2.1 t.2.2.2 t.1.2.2.1] ∧ x7578 = t.1) (fun Kx7578 => ?_) ?_
  ·
    obtain ⟨h7584, hx7579⟩ := as_some hx7579
    obtain ⟨h7585, hx7579⟩ := as_some hx7579
    refine WC.regionD ([(0, ⟨g1, 0, none⟩, (.int .i64 p1.Width)), (0, ⟨g1, 1, none⟩, (.int .i64 p1.Height)), (0, ⟨g1, 2, none⟩, (.slice A_p1_Cells p1.Cells.length c_p1_Cells)), (6, ⟨g1, 0, none⟩, (.int .i64 p1.Width)), (14, ⟨g1, 1, none⟩, (.int .i64 p1.Height))], [0, 1, 2, 3, 4, 5, 6, 7, 8, 9, 10, 11, 12, 13, 14, 15, 16, 17, 18, 20, 21, 22, 25], [[], [], [], [], [3], [], [5], [], [5, 6, 7], [3, 4, 5, 6, 7, 8], [3, 4, 5, 6, 7, 8, 9], [], [11], [], [13], [], [13, 14, 15], [11, 12, 13, 14, 15, 16], [11, 12, 13, 14, 15, 16, 17], [0, 1, 2, 3, 4, 5, 6, 7, 8, 9, 10, 11, 12, 13, 14, 15, 16, 17, 18], [0, 1, 2, 3, 4, 5, 6, 7, 8, 9, 10, 11, 12, 13, 14, 15, 16, 17, 18, 19], [0, 1, 2, 3, 4, 5, 6, 7, 8, 9, 10, 11, 12, 13, 14, 15, 16, 17, 18, 19, 20], [0, 1, 2, 3, 4, 5, 6, 7, 8, 9, 10, 11, 12, 13, 14, 15, 16, 17, 18, 19, 20], [], [0, 1, 2, 3, 4, 5, 6, 7, 8, 9, 10, 11, 12, 13, 14, 15, 16, 17, 18, 19, 20, 21, 23], [0, 1, 2, 3, 4, 5, 6, 7, 8, 9, 10, 11, 12, 13, 14, 15, 16, 17, 18, 19, 20, 21, 22, 23, 24]]) [[0, 1, 2, 3, 4, 5, 6, 7, 8, 9, 10, 11, 12, 13, 14, 15, 16, 17, 18, 19, 20, 21, 22, 23, 24, 25], [0, 1, 2, 3, 4, 5, 6, 7, 8, 9, 10, 11, 12, 13, 14, 15, 16, 17, 18, 23, 19, 20, 21, 22, 24, 25]] (by kernel_rfl) (by kernel_rfl) (NoPanic.seq (NoPanic.body)) ?_
    have hS7581 := hS7388.drew
    revert hS7581
    generalize World.drew w7387 = w7580
    intro hS7581
    refine ⟨⟨hS7581.cell 0 rfl 0 rfl, hS7581.cell 0 rfl 1 rfl, hS7581.cell 0 rfl 2 rfl, hS7581.cell 0 rfl 0 rfl, hS7581.cell 0 rfl 1 rfl, trivial⟩, forallC ?_ (forallC ?_ (forallN))⟩
    ·
      refine segF 19 [.v (.int .i64 p1.Width), .v (.int .i64 p1.Height), .v (.slice A_p1_Cells p1.Cells.length c_p1_Cells), .v (.int .i64 p1.Width), .v (.int .i64 p1.Height)] [0, 4, 5, 7, 13, 188, 189, 190, 198, 206] [(0, (.slice A_p0 p0.length c_p0)), (4, (.int .u8 p4)), (5, (.int .u8 p5)), (7, (.pointer (some ⟨g1, 0, none⟩))), (13, (.bool t4506)), (188, (.agg #[(.int .i64 p1.Width), (.int .i64 p1.Height), (.slice A_p1_Cells p1.Cells.length c_p1_Cells)])), (189, (.int .i64 (Int.tmod (w64 (p2)) p1.Width))), (190, (.int .i64 (Int.tmod (w64 (p3)) p1.Height))), (198, (.int .i64 (w64 (1 + (Int.tmod (w64 (p4)) (w64 (p1.Width - (Int.tmod (w64 (p2)) p1.Width)))))))), (206, (.int .i64 (w64 (1 + (Int.tmod (w64 (p5)) (w64 (p1.Height - (Int.tmod (w64 (p3)) p1.Height))))))))] [.ne (w64 (p1.Width - (Int.tmod (w64 (p2)) p1.Width))), .ne (w64 (p1.Height - (Int.tmod (w64 (p3)) p1.Height)))] [0, 1, 2, 3, 4] [(0, ⟨g1, 0, none⟩, (.int .i64 p1.Width)), (0, ⟨g1, 1, none⟩, (.int .i64 p1.Height)), (0, ⟨g1, 2, none⟩, (.slice A_p1_Cells p1.Cells.length c_p1_Cells)), (6, ⟨g1, 0, none⟩, (.int .i64 p1.Width)), (14, ⟨g1, 1, none⟩, (.int .i64 p1.Height))] (fun fb => by kernel_rfl) rfl ⟨h7584, h7585, trivial⟩ rfl ?_
      obtain ⟨t7586, ht7587, hx7579⟩ := bind_some hx7579
      refine WL.call (some 207) 31 #[(.agg #[(.int .i64 p1.Width), (.int .i64 p1.Height), (.slice A_p1_Cells p1.Cells.length c_p1_Cells)]), (.int .i64 (Int.tmod (w64 (p2)) p1.Width)), (.int .i64 (Int.tmod (w64 (p3)) p1.Height)), (.int .i64 (w64 (1 + (Int.tmod (w64 (p4)) (w64 (p1.Width - (Int.tmod (w64 (p2)) p1.Width))))))), (.int .i64 (w64 (1 + (Int.tmod (w64 (p5)) (w64 (p1.Height - (Int.tmod (w64 (p3)) p1.Height)))))))] (fun fb => by kernel_rfl) (tile_Cut_calls _ p1 (Int.tmod (w64 (p2)) p1.Width) (Int.tmod (w64 (p3)) p1.Height) (w64 (1 + (Int.tmod (w64 (p4)) (w64 (p1.Width - (Int.tmod (w64 (p2)) p1.Width)))))) (w64 (1 + (Int.tmod (w64 (p5)) (w64 (p1.Height - (Int.tmod (w64 (p3)) p1.Height)))))) A_p1_Cells c_p1_Cells t7586 _ (hS7581.rd 5) ht7587) (fun v w7588 hR7589 => ?_)
      obtain ⟨A7591, c7592, rfl, hk_⟩ := hR7589
      have hS7590 : St NoS w w7588 [rowR enc_Tile A7209 c7210 y7358.1, rowR encInt A7214 c7215 y7358.2.2.2, rowR enc_Tile A5356 c5357 y5443.1, rowR encInt A5361 c5362 y5443.2.2.2, rowR enc_Tile A_p0 c_p0 p0, rowR encInt A_p1_Cells c_p1_Cells p1.Cells, cel ⟨2, 0, none⟩ (.int .i64 mG)] [rowO 3 encInt A7591 c7592 t7586.1.Cells, blk g1 (.cells #[(.int .i64 p1.Width), (.int .i64 p1.Height), (.slice A_p1_Cells p1.Cells.length c_p1_Cells)] 35 (0, 0))] := hS7581.call hk_ [] [0] (fun g hg => hg.elim) (by simp) (by decide)
      refine ⟨trivial, ?_⟩
      refine seg 23 [] [0, 4, 5, 7, 13, 208, 209] [(0, (.slice A_p0 p0.length c_p0)), (4, (.int .u8 p4)), (5, (.int .u8 p5)), (7, (.pointer (some ⟨g1, 0, none⟩))), (13, (.bool t4506)), (208, (.agg #[(.int .i64 t7586.1.Width), (.int .i64 t7586.1.Height), (.slice A7591 t7586.1.Cells.length c7592)])), (209, (.int .i64 t7586.2))] [] (fun fb => by kernel_rfl) rfl trivial ?_
      refine WL.new hS7590 32 [] (fun g => (.pointer (some ⟨g, 0, none⟩))) (.cells #[(.int .i64 0), (.int .i64 0), (.slice none 0 0)] 35 (0, 0)) [] (fun fb g => by kernel_rfl) trivial (fun g7593 w7594 hS7595 => ?_)
      refine ⟨⟨hS7595.cell 2 rfl 0 rfl, hS7595.cell 2 rfl 1 rfl, hS7595.cell 2 rfl 2 rfl, hS7595.cell 2 rfl 0 rfl, hS7595.cell 2 rfl 1 rfl, trivial⟩, ?_⟩
      refine WL.store hS7595 0 rfl [(0, (.int .i64 t7586.1.Width)), (1, (.int .i64 t7586.1.Height)), (2, (.slice A7591 t7586.1.Cells.length c7592))] #[(.int .i64 t7586.1.Width), (.int .i64 t7586.1.Height), (.slice A7591 t7586.1.Cells.length c7592)] (fun fb => by kernel_rfl) (by kernel_rfl) rfl [1, 2] (by decide) (by decide) (fun w7597 hS7598 => ?_)
      refine ⟨trivial, ?_⟩
      refine seg 26 [] [0, 4, 5, 7, 13, 32, 33] [(0, (.slice A_p0 p0.length c_p0)), (4, (.int .u8 p4)), (5, (.int .u8 p5)), (7, (.pointer (some ⟨g1, 0, none⟩))), (13, (.bool t4506)), (32, (.pointer (some ⟨g7593, 0, none⟩))), (33, (.int .i64 t7586.2))] [] (fun fb => by kernel_rfl) rfl trivial ?_
      refine WL.done rfl ?_
      injection hx7579 with hx7579
      exact WX.to Kx7578 ((t7586.1.Width, t7586.1.Height, t7586.1.Cells, t7586.2), g7593, A7591, c7592) [0, 4, 5, 7, 13, 32, 33] rfl ⟨(hS7598.subR [0, 1, 2, 3, 4, 5, 6]).sub [2, 0, 1] (by decide), hx7579.symm⟩
    refine segF 19 [.v (.int .i64 p1.Width), .v (.int .i64 p1.Height), .v (.slice A_p1_Cells p1.Cells.length c_p1_Cells), .v (.int .i64 p1.Width), .v (.int .i64 p1.Height)] [0, 4, 5, 7, 13, 188, 189, 190, 198, 206] [(0, (.slice A_p0 p0.length c_p0)), (4, (.int .u8 p4)), (5, (.int .u8 p5)), (7, (.pointer (some ⟨g1, 0, none⟩))), (13, (.bool t4506)), (188, (.agg #[(.int .i64 p1.Width), (.int .i64 p1.Height), (.slice A_p1_Cells p1.Cells.length c_p1_Cells)])), (189, (.int .i64 (Int.tmod (w64 (p2)) p1.Width))), (190, (.int .i64 (Int.tmod (w64 (p3)) p1.Height))), (198, (.int .i64 (w64 (1 + (Int.tmod (w64 (p4)) (w64 (p1.Width - (Int.tmod (w64 (p2)) p1.Width)))))))), (206, (.int .i64 (w64 (1 + (Int.tmod (w64 (p5)) (w64 (p1.Height - (Int.tmod (w64 (p3)) p1.Height))))))))] [.ne (w64 (p1.Width - (Int.tmod (w64 (p2)) p1.Width))), .ne (w64 (p1.Height - (Int.tmod (w64 (p3)) p1.Height)))] [0, 1, 2, 3, 4] [(0, ⟨g1, 0, none⟩, (.int .i64 p1.Width)), (0, ⟨g1, 1, none⟩, (.int .i64 p1.Height)), (0, ⟨g1, 2, none⟩, (.slice A_p1_Cells p1.Cells.length c_p1_Cells)), (6, ⟨g1, 0, none⟩, (.int .i64 p1.Width)), (14, ⟨g1, 1, none⟩, (.int .i64 p1.Height))] (fun fb => by kernel_rfl) rfl ⟨h7584, h7585, trivial⟩ rfl ?_
    refine WL.new hS7581 32 [] (fun g => (.pointer (some ⟨g, 0, none⟩))) (.cells #[(.int .i64 0), (.int .i64 0), (.slice none 0 0)] 35 (0, 0)) [] (fun fb g => by kernel_rfl) trivial (fun g7599 w7600 hS7601 => ?_)
    refine ⟨⟨hS7601.cell 1 rfl 0 rfl, hS7601.cell 1 rfl 1 rfl, hS7601.cell 1 rfl 2 rfl, hS7601.cell 1 rfl 0 rfl, hS7601.cell 1 rfl 1 rfl, trivial⟩, ?_⟩
    obtain ⟨t7603, ht7604, hx7579⟩ := bind_some hx7579
    refine WL.call (some 207) 31 #[(.agg #[(.int .i64 p1.Width), (.int .i64 p1.Height), (.slice A_p1_Cells p1.Cells.length c_p1_Cells)]), (.int .i64 (Int.tmod (w64 (p2)) p1.Width)), (.int .i64 (Int.tmod (w64 (p3)) p1.Height)), (.int .i64 (w64 (1 + (Int.tmod (w64 (p4)) (w64 (p1.Width - (Int.tmod (w64 (p2)) p1.Width))))))), (.int .i64 (w64 (1 + (Int.tmod (w64 (p5)) (w64 (p1.Height - (Int.tmod (w64 (p3)) p1.Height)))))))] (fun fb => by kernel_rfl) (tile_Cut_calls _ p1 (Int.tmod (w64 (p2)) p1.Width) (Int.tmod (w64 (p3)) p1.Height) (w64 (1 + (Int.tmod (w64 (p4)) (w64 (p1.Width - (Int.tmod (w64 (p2)) p1.Width)))))) (w64 (1 + (Int.tmod (w64 (p5)) (w64 (p1.Height - (Int.tmod (w64 (p3)) p1.Height)))))) A_p1_Cells c_p1_Cells t7603 _ (hS7601.rd 5) ht7604) (fun v w7605 hR7606 => ?_)
    obtain ⟨A7608, c7609, rfl, hk_⟩ := hR7606
    have hS7607 : St NoS w w7605 [rowR enc_Tile A7209 c7210 y7358.1, rowR encInt A7214 c7215 y7358.2.2.2, rowR enc_Tile A5356 c5357 y5443.1, rowR encInt A5361 c5362 y5443.2.2.2, rowR enc_Tile A_p0 c_p0 p0, rowR encInt A_p1_Cells c_p1_Cells p1.Cells, cel ⟨2, 0, none⟩ (.int .i64 mG)] [rowO 3 encInt A7608 c7609 t7603.1.Cells, blk g7599 (.cells #[(.int .i64 0), (.int .i64 0), (.slice none 0 0)] 35 (0, 0)), blk g1 (.cells #[(.int .i64 p1.Width), (.int .i64 p1.Height), (.slice A_p1_Cells p1.Cells.length c_p1_Cells)] 35 (0, 0))] := hS7601.call hk_ [] [0, 1] (fun g hg => hg.elim) (by simp) (by decide)
    refine ⟨trivial, ?_⟩
    refine seg 24 [] [0, 4, 5, 7, 13, 32, 208, 209] [(0, (.slice A_p0 p0.length c_p0)), (4, (.int .u8 p4)), (5, (.int .u8 p5)), (7, (.pointer (some ⟨g1, 0, none⟩))), (13, (.bool t4506)), (32, (.pointer (some ⟨g7599, 0, none⟩))), (208, (.agg #[(.int .i64 t7603.1.Width), (.int .i64 t7603.1.Height), (.slice A7608 t7603.1.Cells.length c7609)])), (209, (.int .i64 t7603.2))] [] (fun fb => by kernel_rfl) rfl trivial ?_
    refine WL.store hS7607 1 rfl [(0, (.int .i64 t7603.1.Width)), (1, (.int .i64 t7603.1.Height)), (2, (.slice A7608 t7603.1.Cells.length c7609))] #[(.int .i64 t7603.1.Width), (.int .i64 t7603.1.Height), (.slice A7608 t7603.1.Cells.length c7609)] (fun fb => by kernel_rfl) (by kernel_rfl) rfl [0, 2] (by decide) (by decide) (fun w7610 hS7611 => ?_)
    refine ⟨trivial, ?_⟩
    refine seg 26 [] [0, 4, 5, 7, 13, 32, 33] [(0, (.slice A_p0 p0.length c_p0)), (4, (.int .u8 p4)), (5, (.int .u8 p5)), (7, (.pointer (some ⟨g1, 0, none⟩))), (13, (.bool t4506)), (32, (.pointer (some ⟨g7599, 0, none⟩))), (33, (.int .i64 t7603.2))] [] (fun fb => by kernel_rfl) rfl trivial ?_
    refine WL.done rfl ?_
    injection hx7579 with hx7579
    exact WX.to Kx7578 ((t7603.1.Width, t7603.1.Height, t7603.1.Cells, t7603.2), g7599, A7608, c7609) [0, 4, 5, 7, 13, 32, 33] rfl ⟨(hS7611.subR [0, 1, 2, 3, 4, 5, 6]).sub [2, 0, 1] (by decide), hx7579.symm⟩
  rintro ⟨y7615, g7571, A7574, c7575⟩ w7612 ⟨hS7613, hq7614⟩
  subst hq7614
  refine WX.next ?_
  refine WC.seq ?_
  refine WC.seq ?_
  refine WC.region ?_
  refine seg 3 [] [0, 4, 5, 7, 13, 32, 212] [(0, (.slice A_p0 p0.length c_p0)), (4, (.int .u8 p4)), (5, (.int .u8 p5)), (7, (.pointer (some ⟨g1, 0, none⟩))), (13, (.bool t4506)), (32, (.pointer (some ⟨g7571, 0, none⟩))), (212, (.bool (x7578.2.2.2 != 0)))] [] (fun fb => by kernel_rfl) rfl trivial ?_
  obtain ⟨x7622, hx7623, hf⟩ := bind_some hf
  refine WL.cutW (T := Bool) 8 (fun t => [(0, (.slice A_p0 p0.length c_p0)), (4, (.int .u8 p4)), (5, (.int .u8 p5)), (7, (.pointer (some ⟨g1, 0, none⟩))), (13, (.bool t4506)), (217, (.bool t))]) (fun t w1 => (St NoS w w1 [rowR enc_Tile A7209 c7210 y7358.1, rowR encInt A7214 c7215 y7358.2.2.2, rowR enc_Tile A5356 c5357 y5443.1, rowR encInt A5361 c5362 y5443.2.2.2, rowR enc_Tile A_p0 c_p0 p0, rowR encInt A_p1_Cells c_p1_Cells p1.Cells, cel ⟨2, 0, none⟩ (.int .i64 mG)] [blk g1 (.cells #[(.int .i64 p1.Width), (.int .i64 p1.Height), (.slice A_p1_Cells p1.Cells.length c_p1_Cells)] 35 (0, 0))] ∧ x7622 = t) ∧ CellsOK [] w1) (fun K => ?_) ?_
  ·
    rcases br_some hx7623 with ⟨h7624, hx7623⟩ | ⟨h7624, hx7623⟩
    ·
      refine WL.setB 212 h7624 rfl ?_
      refine seg 8 [] [0, 4, 5, 7, 13, 217] [(0, (.slice A_p0 p0.length c_p0)), (4, (.int .u8 p4)), (5, (.int .u8 p5)), (7, (.pointer (some ⟨g1, 0, none⟩))), (13, (.bool t4506)), (217, (.bool true))] [] (fun fb => by kernel_rfl) rfl trivial ?_
      injection hx7623 with hx7623
      exact WL.to K true [0, 4, 5, 7, 13, 217] rfl ⟨⟨(hS7613.subR [0, 1, 2, 3, 4, 5, 6]).sub [0] (by decide), hx7623.symm⟩, trivial⟩
    refine WL.setB 212 h7624 rfl ?_
    refine seg 5 [.v (.int .i64 x7578.1), .v (.int .i64 x7578.2.1), .v (.slice A7574 x7578.2.2.1.length c7575)] [0, 4, 5, 7, 13, 212, 213, 214] [(0, (.slice A_p0 p0.length c_p0)), (4, (.int .u8 p4)), (5, (.int .u8 p5)), (7, (.pointer (some ⟨g1, 0, none⟩))), (13, (.bool t4506)), (212, (.bool false)), (213, (.slice A_p0 p0.length c_p0)), (214, (.agg #[(.int .i64 x7578.1), (.int .i64 x7578.2.1), (.slice A7574 x7578.2.2.1.length c7575)]))] [.cell ⟨g7571, 0, none⟩ (.int .i64 x7578.1), .cell ⟨g7571, 1, none⟩ (.int .i64 x7578.2.1), .cell ⟨g7571, 2, none⟩ (.slice A7574 x7578.2.2.1.length c7575)] (fun fb => by kernel_rfl) rfl ⟨hS7613.cell 1 rfl 0 rfl, hS7613.cell 1 rfl 1 rfl, hS7613.cell 1 rfl 2 rfl, trivial⟩ ?_
    obtain ⟨t7625, ht7626, hx7623⟩ := bind_some hx7623
    refine WL.call (some 215) 14 #[(.slice A_p0 p0.length c_p0), (.agg #[(.int .i64 x7578.1), (.int .i64 x7578.2.1), (.slice A7574 x7578.2.2.1.length c7575)])] (fun fb => by kernel_rfl) (tile_Fits_calls _ p0 (Pattern.mk x7578.1 x7578.2.1 x7578.2.2.1) A_p0 c_p0 A7574 c7575 t7625 _ (hS7613.rd 4) (hS7613.ow 2).ofO ht7626) (fun v w7627 hR7628 => ?_)
    obtain ⟨rfl, hk_⟩ := hR7628
    have hS7629 := hS7613.keepN hk_
    refine ⟨trivial, ?_⟩
    refine seg 8 [] [0, 4, 5, 7, 13, 217] [(0, (.slice A_p0 p0.length c_p0)), (4, (.int .u8 p4)), (5, (.int .u8 p5)), (7, (.pointer (some ⟨g1, 0, none⟩))), (13, (.bool t4506)), (217, (.bool (!t7625)))] [] (fun fb => by kernel_rfl) rfl trivial ?_
    injection hx7623 with hx7623
    exact WL.to K (!t7625) [0, 4, 5, 7, 13, 217] rfl ⟨⟨(hS7629.subR [0, 1, 2, 3, 4, 5, 6]).sub [0] (by decide), hx7623.symm⟩, trivial⟩
  rintro y7630 w7632 ⟨⟨hS7633, hq7631⟩, hF7634⟩
  subst hq7631
  refine WL.done rfl ?_
  refine WX.next ?_
  rcases br_some hf with ⟨h7635, hf⟩ | ⟨h7635, hf⟩
  · refine WC.condT2 (fun fb => by kernel_rfl) h7635 ?_
    refine WC.seq ?_
    refine WC.region ?_
    refine seg 1 [] [12] [(12, (.bool false))] [] (fun fb => by kernel_rfl) rfl trivial ?_
    refine WL.done rfl ?_
    refine WX.next ?_
    refine WC.ret ?_
    injection hf with hf
    subst hf
    exact WX.thenR (WX.ret_ [] (.bool false) [] (fun fb => by kernel_rfl) trivial ⟨_, rfl, rfl, hS7633.keep⟩)
  refine WC.condF2 (fun fb => by kernel_rfl) h7635 ?_
  refine WC.skip ?_
  refine WX.next ?_
  refine WC.seq ?_
  refine WC.region ?_
  refine seg 7 [.v (.int .i64 p1.Width), .v (.int .i64 p1.Height), .v (.slice A_p1_Cells p1.Cells.length c_p1_Cells)] [0, 13, 219, 222, 225] [(0, (.slice A_p0 p0.length c_p0)), (13, (.bool t4506)), (219, (.agg #[(.int .i64 p1.Width), (.int .i64 p1.Height), (.slice A_p1_Cells p1.Cells.length c_p1_Cells)])), (222, (.int .i64 (w64 (1 + (w64 (p4)))))), (225, (.int .i64 (w64 (1 + (w64 (p5))))))] [.cell ⟨g1, 0, none⟩ (.int .i64 p1.Width), .cell ⟨g1, 1, none⟩ (.int .i64 p1.Height), .cell ⟨g1, 2, none⟩ (.slice A_p1_Cells p1.Cells.length c_p1_Cells)] (fun fb => by kernel_rfl) rfl ⟨hS7633.cell 0 rfl 0 rfl, hS7633.cell 0 rfl 1 rfl, hS7633.cell 0 rfl 2 rfl, trivial⟩ ?_
  obtain ⟨t8092, ht8093, hf⟩ := bind_some hf
  refine WL.call (some 226) 32 #[(.agg #[(.int .i64 p1.Width), (.int .i64 p1.Height), (.slice A_p1_Cells p1.Cells.length c_p1_Cells)]), (.int .i64 (w64 (1 + (w64 (p4))))), (.int .i64 (w64 (1 + (w64 (p5)))))] (fun fb => by kernel_rfl) (tile_Repeat_calls _ p1 (w64 (1 + (w64 (p4)))) (w64 (1 + (w64 (p5)))) A_p1_Cells c_p1_Cells t8092 _ (hS7633.rd 5) ht8093) (fun v w8094 hR8095 => ?_)
  obtain ⟨A8097, c8098, rfl, hk_⟩ := hR8095
  have hS8096 : St NoS w w8094 [rowR enc_Tile A7209 c7210 y7358.1, rowR encInt A7214 c7215 y7358.2.2.2, rowR enc_Tile A5356 c5357 y5443.1, rowR encInt A5361 c5362 y5443.2.2.2, rowR enc_Tile A_p0 c_p0 p0, rowR encInt A_p1_Cells c_p1_Cells p1.Cells, cel ⟨2, 0, none⟩ (.int .i64 mG)] [rowO 3 encInt A8097 c8098 t8092.1.Cells, blk g1 (.cells #[(.int .i64 p1.Width), (.int .i64 p1.Height), (.slice A_p1_Cells p1.Cells.length c_p1_Cells)] 35 (0, 0))] := hS7633.call hk_ [] [0] (fun g hg => hg.elim) (by simp) (by decide)
  refine ⟨trivial, ?_⟩
  refine seg 11 [] [0, 13, 227, 228] [(0, (.slice A_p0 p0.length c_p0)), (13, (.bool t4506)), (227, (.agg #[(.int .i64 t8092.1.Width), (.int .i64 t8092.1.Height), (.slice A8097 t8092.1.Cells.length c8098)])), (228, (.int .i64 t8092.2))] [] (fun fb => by kernel_rfl) rfl trivial ?_
  refine WL.new hS8096 34 [] (fun g => (.pointer (some ⟨g, 0, none⟩))) (.cells #[(.int .i64 0), (.int .i64 0), (.slice none 0 0)] 35 (0, 0)) [] (fun fb g => by kernel_rfl) trivial (fun g8099 w8100 hS8101 => ?_)
  refine ⟨trivial, ?_⟩
  refine WL.store hS8101 0 rfl [(0, (.int .i64 t8092.1.Width)), (1, (.int .i64 t8092.1.Height)), (2, (.slice A8097 t8092.1.Cells.length c8098))] #[(.int .i64 t8092.1.Width), (.int .i64 t8092.1.Height), (.slice A8097 t8092.1.Cells.length c8098)] (fun fb => by kernel_rfl) (by kernel_rfl) rfl [1, 2] (by decide) (by decide) (fun w8103 hS8104 => ?_)
  refine ⟨trivial, ?_⟩
  refine seg 14 [] [0, 13, 33, 34] [(0, (.slice A_p0 p0.length c_p0)), (13, (.bool t4506)), (33, (.int .i64 t8092.2)), (34, (.pointer (some ⟨g8099, 0, none⟩)))] [] (fun fb => by kernel_rfl) rfl trivial ?_
  refine WL.done rfl ?_
  refine WX.next ?_
  refine WC.seq ?_
  refine WC.seq ?_
  refine WC.region ?_
  refine seg 2 [] [0, 13, 33, 34, 230] [(0, (.slice A_p0 p0.length c_p0)), (13, (.bool t4506)), (33, (.int .i64 t8092.2)), (34, (.pointer (some ⟨g8099, 0, none⟩))), (230, (.bool (t8092.2 != 0)))] [] (fun fb => by kernel_rfl) rfl trivial ?_
  refine WL.done rfl ?_
  refine WX.next ?_
  rcases br_some hf with ⟨h8105, hf⟩ | ⟨h8105, hf⟩
  · refine WC.condT2 (fun fb => by kernel_rfl) h8105 ?_
    refine WC.seq ?_
    refine WC.region ?_
    refine seg 3 [] [233] [(233, (.bool (t8092.2 == 4)))] [] (fun fb => by kernel_rfl) rfl trivial ?_
    obtain ⟨x8112, hx8113, hf⟩ := bind_some hf
    refine WL.cutW (T := Bool) 5 (fun t => [(235, (.bool t))]) (fun t w1 => (St NoS w w1 [rowR enc_Tile A7209 c7210 y7358.1, rowR encInt A7214 c7215 y7358.2.2.2, rowR enc_Tile A5356 c5357 y5443.1, rowR encInt A5361 c5362 y5443.2.2.2, rowR enc_Tile A_p0 c_p0 p0, rowR encInt A_p1_Cells c_p1_Cells p1.Cells, cel ⟨2, 0, none⟩ (.int .i64 mG)] [] ∧ x8112 = t) ∧ CellsOK [] w1) (fun K => ?_) ?_
    ·
      rcases br_some hx8113 with ⟨h8114, hx8113⟩ | ⟨h8114, hx8113⟩
      ·
        refine WL.setB 233 h8114 rfl ?_
        obtain ⟨t8115, ht8116, hx8113⟩ := bind_some hx8113
        refine WL.call (some 234) 8 #[] (fun fb => by kernel_rfl) (law01_awake_calls _ mG t8115 _ (hS8104.rd 6) ht8116) (fun v w8117 hR8118 => ?_)
        obtain ⟨rfl, hk_⟩ := hR8118
        have hS8119 := hS8104.keepN hk_
        refine ⟨trivial, ?_⟩
        refine seg 5 [] [235] [(235, (.bool t8115))] [] (fun fb => by kernel_rfl) rfl trivial ?_
        injection hx8113 with hx8113
        exact WL.to K t8115 [235] rfl ⟨⟨(hS8119.subR [0, 1, 2, 3, 4, 5, 6]).sub [] (by decide), hx8113.symm⟩, trivial⟩
      refine WL.setB 233 h8114 rfl ?_
      refine seg 5 [] [235] [(235, (.bool false))] [] (fun fb => by kernel_rfl) rfl trivial ?_
      injection hx8113 with hx8113
      exact WL.to K false [235] rfl ⟨⟨(hS8104.subR [0, 1, 2, 3, 4, 5, 6]).sub [] (by decide), hx8113.symm⟩, trivial⟩
    rintro y8120 w8122 ⟨⟨hS8123, hq8121⟩, hF8124⟩
    subst hq8121
    refine seg 6 [] [12] [(12, (.bool x8112))] [] (fun fb => by kernel_rfl) rfl trivial ?_
    refine WL.done rfl ?_
    refine WX.next ?_
    refine WC.ret ?_
    injection hf with hf
    subst hf
    exact WX.thenR (WX.ret_ [] (.bool x8112) [] (fun fb => by kernel_rfl) trivial ⟨_, rfl, rfl, hS8123.keep⟩)
  refine WC.condF2 (fun fb => by kernel_rfl) h8105 ?_
  refine WC.skip ?_
  refine WX.next ?_
  refine WC.seq ?_
  refine WC.region ?_
  refine seg 3 [] [0, 34, 238] [(0, (.slice A_p0 p0.length c_p0)), (34, (.pointer (some ⟨g8099, 0, none⟩))), (238, (.bool (!t4506)))] [] (fun fb => by kernel_rfl) rfl trivial ?_
  obtain ⟨x8131, hx8132, hf⟩ := bind_some hf
  refine WL.cutW (T := Bool) 7 (fun t => [(242, (.bool t))]) (fun t w1 => (St NoS w w1 [rowR enc_Tile A7209 c7210 y7358.1, rowR encInt A7214 c7215 y7358.2.2.2, rowR enc_Tile A5356 c5357 y5443.1, rowR encInt A5361 c5362 y5443.2.2.2, rowR enc_Tile A_p0 c_p0 p0, rowR encInt A_p1_Cells c_p1_Cells p1.Cells, cel ⟨2, 0, none⟩ (.int .i64 mG)] [] ∧ x8131 = t) ∧ CellsOK [] w1) (fun K => ?_) ?_
  ·
    rcases br_some hx8132 with ⟨h8133, hx8132⟩ | ⟨h8133, hx8132⟩
    ·
      refine WL.setB 238 h8133 rfl ?_
      refine seg 7 [] [242] [(242, (.bool true))] [] (fun fb => by kernel_rfl) rfl trivial ?_
      injection hx8132 with hx8132
      exact WL.to K true [242] rfl ⟨⟨(hS8104.subR [0, 1, 2, 3, 4, 5, 6]).sub [] (by decide), hx8132.symm⟩, trivial⟩
    refine WL.setB 238 h8133 rfl ?_
    refine seg 5 [.v (.int .i64 t8092.1.Width), .v (.int .i64 t8092.1.Height), .v (.slice A8097 t8092.1.Cells.length c8098)] [238, 239, 240] [(238, (.bool false)), (239, (.slice A_p0 p0.length c_p0)), (240, (.agg #[(.int .i64 t8092.1.Width), (.int .i64 t8092.1.Height), (.slice A8097 t8092.1.Cells.length c8098)]))] [.cell ⟨g8099, 0, none⟩ (.int .i64 t8092.1.Width), .cell ⟨g8099, 1, none⟩ (.int .i64 t8092.1.Height), .cell ⟨g8099, 2, none⟩ (.slice A8097 t8092.1.Cells.length c8098)] (fun fb => by kernel_rfl) rfl ⟨hS8104.cell 0 rfl 0 rfl, hS8104.cell 0 rfl 1 rfl, hS8104.cell 0 rfl 2 rfl, trivial⟩ ?_
    obtain ⟨t8134, ht8135, hx8132⟩ := bind_some hx8132
    refine WL.call (some 241) 14 #[(.slice A_p0 p0.length c_p0), (.agg #[(.int .i64 t8092.1.Width), (.int .i64 t8092.1.Height), (.slice A8097 t8092.1.Cells.length c8098)])] (fun fb => by kernel_rfl) (tile_Fits_calls _ p0 t8092.1 A_p0 c_p0 A8097 c8098 t8134 _ (hS8104.rd 4) (hS8104.ow 1).ofO ht8135) (fun v w8136 hR8137 => ?_)
    obtain ⟨rfl, hk_⟩ := hR8137
    have hS8138 := hS8104.keepN hk_
    refine ⟨trivial, ?_⟩
    refine seg 7 [] [242] [(242, (.bool t8134))] [] (fun fb => by kernel_rfl) rfl trivial ?_
    injection hx8132 with hx8132
    exact WL.to K t8134 [242] rfl ⟨⟨(hS8138.subR [0, 1, 2, 3, 4, 5, 6]).sub [] (by decide), hx8132.symm⟩, trivial⟩
  rintro y8139 w8141 ⟨⟨hS8142, hq8140⟩, hF8143⟩
  subst hq8140
  refine seg 8 [] [243] [(243, (.bool x8131))] [] (fun fb => by kernel_rfl) rfl trivial ?_
  obtain ⟨x8150, hx8151, hf⟩ := bind_some hf
  refine WL.cutW (T := Bool) 10 (fun t => [(245, (.bool t))]) (fun t w1 => (St NoS w w1 [rowR enc_Tile A7209 c7210 y7358.1, rowR encInt A7214 c7215 y7358.2.2.2, rowR enc_Tile A5356 c5357 y5443.1, rowR encInt A5361 c5362 y5443.2.2.2, rowR enc_Tile A_p0 c_p0 p0, rowR encInt A_p1_Cells c_p1_Cells p1.Cells, cel ⟨2, 0, none⟩ (.int .i64 mG)] [] ∧ x8150 = t) ∧ CellsOK [] w1) (fun K => ?_) ?_
  ·
    rcases br_some hx8151 with ⟨h8152, hx8151⟩ | ⟨h8152, hx8151⟩
    ·
      refine WL.setB 243 h8152 rfl ?_
      obtain ⟨t8153, ht8154, hx8151⟩ := bind_some hx8151
      refine WL.call (some 244) 8 #[] (fun fb => by kernel_rfl) (law01_awake_calls _ mG t8153 _ (hS8142.rd 6) ht8154) (fun v w8155 hR8156 => ?_)
      obtain ⟨rfl, hk_⟩ := hR8156
      have hS8157 := hS8142.keepN hk_
      refine ⟨trivial, ?_⟩
      refine seg 10 [] [245] [(245, (.bool t8153))] [] (fun fb => by kernel_rfl) rfl trivial ?_
      injection hx8151 with hx8151
      exact WL.to K t8153 [245] rfl ⟨⟨(hS8157.subR [0, 1, 2, 3, 4, 5, 6]).sub [] (by decide), hx8151.symm⟩, trivial⟩
    refine WL.setB 243 h8152 rfl ?_
    refine seg 10 [] [245] [(245, (.bool false))] [] (fun fb => by kernel_rfl) rfl trivial ?_
    injection hx8151 with hx8151
    exact WL.to K false [245] rfl ⟨⟨(hS8142.subR [0, 1, 2, 3, 4, 5, 6]).sub [] (by decide), hx8151.symm⟩, trivial⟩
  rintro y8158 w8160 ⟨⟨hS8161, hq8159⟩, hF8162⟩
  subst hq8159
  refine seg 11 [] [12] [(12, (.bool x8150))] [] (fun fb => by kernel_rfl) rfl trivial ?_
  refine WL.done rfl ?_
  refine WX.next ?_
  refine WC.ret ?_
  injection hf with hf
  subst hf
  exact WX.ret_ [] (.bool x8150) [] (fun fb => by kernel_rfl) trivial ⟨_, rfl, rfl, hS8161.keep⟩
end Gp
