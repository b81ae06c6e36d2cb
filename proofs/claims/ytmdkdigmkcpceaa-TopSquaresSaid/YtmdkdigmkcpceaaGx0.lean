/- Walks: each function of the program computes its plain function. -/
import Derived.Test.YtmdkdigmkcpceaaGp
set_option linter.unusedVariables false
set_option linter.unusedSimpArgs false
set_option maxHeartbeats 4000000
namespace Gp
open Go Gw Go.Proofs
theorem tile_Form_calls (p0 : Pattern) (A_p0_Cells : Option Addr) (c_p0_Cells : Nat) (r : Bool) (w : World) (hR0 : RO NoS w (rowR encInt A_p0_Cells c_p0_Cells p0.Cells)) (hf : tile_Form p0 = some r) :
    CallsR Try.prog 64 #[(.agg #[(.int .i64 p0.Width), (.int .i64 p0.Height), (.slice A_p0_Cells p0.Cells.length c_p0_Cells)])] w (fun v w' => v = (.bool r) ∧ Keeps NoS w w') := by
  have hS : St NoS w w [rowR encInt A_p0_Cells c_p0_Cells p0.Cells] [] := St.init (ro_cons hR0 (ro_nil _ _))
  refine enter 40 Try.func64 rfl Try.ntmps64 rfl ?_
  unfold tile_Form at hf
  refine WC.seq ?_
  refine WC.region ?_
  refine WL.new hS 1 [] (fun g => (.pointer (some ⟨g, 0, none⟩))) (.cells #[(.int .i64 p0.Width), (.int .i64 p0.Height), (.slice A_p0_Cells p0.Cells.length c_p0_Cells)] 38 (0, 0)) [] (fun fb g => by kernel_rfl) trivial (fun g27 w28 hS29 => ?_)
  refine ⟨trivial, ?_⟩
  refine seg 2 [] [1] [(1, (.pointer (some ⟨g27, 0, none⟩)))] [] (fun fb => by kernel_rfl) rfl trivial ?_
  refine WL.done rfl ?_
  refine WX.next ?_
  refine WC.seq ?_
  refine WC.region ?_
  refine seg 4 [.v (.int .i64 p0.Width)] [1, 6] [(1, (.pointer (some ⟨g27, 0, none⟩))), (6, (.bool (decide (p0.Width ≥ 1))))] [.cell ⟨g27, 0, none⟩ (.int .i64 p0.Width)] (fun fb => by kernel_rfl) rfl ⟨hS29.cell 0 rfl 0 rfl, trivial⟩ ?_
  refine WL.cutV (T := Bool) 8 (fun t => [(10, (.bool t)), (1, (.pointer (some ⟨g27, 0, none⟩)))]) (fun t => ((decide (p0.Width ≥ 1)) && (decide (p0.Height ≥ 1))) = t) (fun K => ?_) ?_
  ·
    rcases Bool.eq_false_or_eq_true (decide (p0.Width ≥ 1)) with h31 | h31
    ·
      refine WL.setB 6 h31 rfl ?_
      refine seg 8 [.v (.int .i64 p0.Height)] [1, 10] [(1, (.pointer (some ⟨g27, 0, none⟩))), (10, (.bool (decide (p0.Height ≥ 1))))] [.cell ⟨g27, 1, none⟩ (.int .i64 p0.Height)] (fun fb => by kernel_rfl) rfl ⟨hS29.cell 0 rfl 1 rfl, trivial⟩ ?_
      exact WL.toV K (decide (p0.Height ≥ 1)) [10, 1] rfl (by first | (rw [h31]; done) | (rw [h31]; rfl))
    refine WL.setB 6 h31 rfl ?_
    refine seg 8 [] [1, 10] [(1, (.pointer (some ⟨g27, 0, none⟩))), (10, (.bool false))] [] (fun fb => by kernel_rfl) rfl trivial ?_
    exact WL.toV K false [10, 1] rfl (by first | (rw [h31]; done) | (rw [h31]; rfl))
  rintro b32 rfl
  refine seg 9 [] [1, 11] [(1, (.pointer (some ⟨g27, 0, none⟩))), (11, (.bool ((decide (p0.Width ≥ 1)) && (decide (p0.Height ≥ 1)))))] [] (fun fb => by kernel_rfl) rfl trivial ?_
  refine WL.cutV (T := Bool) 13 (fun t => [(15, (.bool t)), (1, (.pointer (some ⟨g27, 0, none⟩)))]) (fun t => (((decide (p0.Width ≥ 1)) && (decide (p0.Height ≥ 1))) && (decide (p0.Width ≤ 40000))) = t) (fun K => ?_) ?_
  ·
    rcases Bool.eq_false_or_eq_true ((decide (p0.Width ≥ 1)) && (decide (p0.Height ≥ 1))) with h33 | h33
    ·
      refine WL.setB 11 h33 rfl ?_
      refine seg 13 [.v (.int .i64 p0.Width)] [1, 15] [(1, (.pointer (some ⟨g27, 0, none⟩))), (15, (.bool (decide (p0.Width ≤ 40000))))] [.cell ⟨g27, 0, none⟩ (.int .i64 p0.Width)] (fun fb => by kernel_rfl) rfl ⟨hS29.cell 0 rfl 0 rfl, trivial⟩ ?_
      exact WL.toV K (decide (p0.Width ≤ 40000)) [15, 1] rfl (by first | (rw [h33]; done) | (rw [h33]; rfl))
    refine WL.setB 11 h33 rfl ?_
    refine seg 13 [] [1, 15] [(1, (.pointer (some ⟨g27, 0, none⟩))), (15, (.bool false))] [] (fun fb => by kernel_rfl) rfl trivial ?_
    exact WL.toV K false [15, 1] rfl (by first | (rw [h33]; done) | (rw [h33]; rfl))
  rintro b34 rfl
  refine seg 14 [] [1, 16] [(1, (.pointer (some ⟨g27, 0, none⟩))), (16, (.bool (((decide (p0.Width ≥ 1)) && (decide (p0.Height ≥ 1))) && (decide (p0.Width ≤ 40000)))))] [] (fun fb => by kernel_rfl) rfl trivial ?_
  refine WL.cutV (T := Bool) 18 (fun t => [(20, (.bool t)), (1, (.pointer (some ⟨g27, 0, none⟩)))]) (fun t => ((((decide (p0.Width ≥ 1)) && (decide (p0.Height ≥ 1))) && (decide (p0.Width ≤ 40000))) && (decide (p0.Height ≤ 40000))) = t) (fun K => ?_) ?_
  ·
    rcases Bool.eq_false_or_eq_true (((decide (p0.Width ≥ 1)) && (decide (p0.Height ≥ 1))) && (decide (p0.Width ≤ 40000))) with h35 | h35
    ·
      refine WL.setB 16 h35 rfl ?_
      refine seg 18 [.v (.int .i64 p0.Height)] [1, 20] [(1, (.pointer (some ⟨g27, 0, none⟩))), (20, (.bool (decide (p0.Height ≤ 40000))))] [.cell ⟨g27, 1, none⟩ (.int .i64 p0.Height)] (fun fb => by kernel_rfl) rfl ⟨hS29.cell 0 rfl 1 rfl, trivial⟩ ?_
      exact WL.toV K (decide (p0.Height ≤ 40000)) [20, 1] rfl (by first | (rw [h35]; done) | (rw [h35]; rfl))
    refine WL.setB 16 h35 rfl ?_
    refine seg 18 [] [1, 20] [(1, (.pointer (some ⟨g27, 0, none⟩))), (20, (.bool false))] [] (fun fb => by kernel_rfl) rfl trivial ?_
    exact WL.toV K false [20, 1] rfl (by first | (rw [h35]; done) | (rw [h35]; rfl))
  rintro b36 rfl
  refine seg 19 [] [1, 21] [(1, (.pointer (some ⟨g27, 0, none⟩))), (21, (.bool ((((decide (p0.Width ≥ 1)) && (decide (p0.Height ≥ 1))) && (decide (p0.Width ≤ 40000))) && (decide (p0.Height ≤ 40000)))))] [] (fun fb => by kernel_rfl) rfl trivial ?_
  refine WL.cutV (T := Bool) 26 (fun t => [(28, (.bool t)), (1, (.pointer (some ⟨g27, 0, none⟩)))]) (fun t => (((((decide (p0.Width ≥ 1)) && (decide (p0.Height ≥ 1))) && (decide (p0.Width ≤ 40000))) && (decide (p0.Height ≤ 40000))) && (decide (w64 (p0.Width * p0.Height) ≤ 40000))) = t) (fun K => ?_) ?_
  ·
    rcases Bool.eq_false_or_eq_true ((((decide (p0.Width ≥ 1)) && (decide (p0.Height ≥ 1))) && (decide (p0.Width ≤ 40000))) && (decide (p0.Height ≤ 40000))) with h37 | h37
    ·
      refine WL.setB 21 h37 rfl ?_
      refine seg 26 [.v (.int .i64 p0.Width), .v (.int .i64 p0.Height)] [1, 28] [(1, (.pointer (some ⟨g27, 0, none⟩))), (28, (.bool (decide (w64 (p0.Width * p0.Height) ≤ 40000))))] [.cell ⟨g27, 0, none⟩ (.int .i64 p0.Width), .cell ⟨g27, 1, none⟩ (.int .i64 p0.Height)] (fun fb => by kernel_rfl) rfl ⟨hS29.cell 0 rfl 0 rfl, hS29.cell 0 rfl 1 rfl, trivial⟩ ?_
      exact WL.toV K (decide (w64 (p0.Width * p0.Height) ≤ 40000)) [28, 1] rfl (by first | (rw [h37]; done) | (rw [h37]; rfl))
    refine WL.setB 21 h37 rfl ?_
    refine seg 26 [] [1, 28] [(1, (.pointer (some ⟨g27, 0, none⟩))), (28, (.bool false))] [] (fun fb => by kernel_rfl) rfl trivial ?_
    exact WL.toV K false [28, 1] rfl (by first | (rw [h37]; done) | (rw [h37]; rfl))
  rintro b38 rfl
  refine seg 27 [] [1, 29] [(1, (.pointer (some ⟨g27, 0, none⟩))), (29, (.bool (((((decide (p0.Width ≥ 1)) && (decide (p0.Height ≥ 1))) && (decide (p0.Width ≤ 40000))) && (decide (p0.Height ≤ 40000))) && (decide (w64 (p0.Width * p0.Height) ≤ 40000)))))] [] (fun fb => by kernel_rfl) rfl trivial ?_
  refine WL.cutV (T := Bool) 37 (fun t => [(39, (.bool t))]) (fun t => ((((((decide (p0.Width ≥ 1)) && (decide (p0.Height ≥ 1))) && (decide (p0.Width ≤ 40000))) && (decide (p0.Height ≤ 40000))) && (decide (w64 (p0.Width * p0.Height) ≤ 40000))) && ((p0.Cells.length : Int) == (w64 (p0.Width * p0.Height)))) = t) (fun K => ?_) ?_
  ·
    rcases Bool.eq_false_or_eq_true (((((decide (p0.Width ≥ 1)) && (decide (p0.Height ≥ 1))) && (decide (p0.Width ≤ 40000))) && (decide (p0.Height ≤ 40000))) && (decide (w64 (p0.Width * p0.Height) ≤ 40000))) with h39 | h39
    ·
      refine WL.setB 29 h39 rfl ?_
      refine seg 37 [.v (.slice A_p0_Cells p0.Cells.length c_p0_Cells), .v (.int .i64 p0.Width), .v (.int .i64 p0.Height)] [39] [(39, (.bool ((p0.Cells.length : Int) == (w64 (p0.Width * p0.Height)))))] [.cell ⟨g27, 2, none⟩ (.slice A_p0_Cells p0.Cells.length c_p0_Cells), .cell ⟨g27, 0, none⟩ (.int .i64 p0.Width), .cell ⟨g27, 1, none⟩ (.int .i64 p0.Height)] (fun fb => by kernel_rfl) rfl ⟨hS29.cell 0 rfl 2 rfl, hS29.cell 0 rfl 0 rfl, hS29.cell 0 rfl 1 rfl, trivial⟩ ?_
      exact WL.toV K ((p0.Cells.length : Int) == (w64 (p0.Width * p0.Height))) [39] rfl (by first | (rw [h39]; done) | (rw [h39]; rfl))
    refine WL.setB 29 h39 rfl ?_
    refine seg 37 [] [39] [(39, (.bool false))] [] (fun fb => by kernel_rfl) rfl trivial ?_
    exact WL.toV K false [39] rfl (by first | (rw [h39]; done) | (rw [h39]; rfl))
  rintro b40 rfl
  refine seg 38 [] [2] [(2, (.bool ((((((decide (p0.Width ≥ 1)) && (decide (p0.Height ≥ 1))) && (decide (p0.Width ≤ 40000))) && (decide (p0.Height ≤ 40000))) && (decide (w64 (p0.Width * p0.Height) ≤ 40000))) && ((p0.Cells.length : Int) == (w64 (p0.Width * p0.Height))))))] [] (fun fb => by kernel_rfl) rfl trivial ?_
  refine WL.done rfl ?_
  refine WX.next ?_
  refine WC.ret ?_
  injection hf with hf
  subst hf
  exact WX.ret_ [] (.bool ((((((decide (p0.Width ≥ 1)) && (decide (p0.Height ≥ 1))) && (decide (p0.Width ≤ 40000))) && (decide (p0.Height ≤ 40000))) && (decide (w64 (p0.Width * p0.Height) ≤ 40000))) && ((p0.Cells.length : Int) == (w64 (p0.Width * p0.Height))))) [] (fun fb => by kernel_rfl) trivial ⟨_, rfl, rfl, hS29.keep⟩
theorem tile_Repeat_calls (k : Nat) (p0 : Pattern) (p1 : Int) (p2 : Int) (A_p0_Cells : Option Addr) (c_p0_Cells : Nat) (r : Pattern × Int) (w : World) (hR0 : RO NoS w (rowR encInt A_p0_Cells c_p0_Cells p0.Cells)) (hf : tile_Repeat k p0 p1 p2 = some r) :
    CallsR Try.prog 50 #[(.agg #[(.int .i64 p0.Width), (.int .i64 p0.Height), (.slice A_p0_Cells p0.Cells.length c_p0_Cells)]), (.int .i64 p1), (.int .i64 p2)] w (fun v w' => ∃ (A1_ : Option Addr), ∃ (c1_ : Nat), v = (.tuple #[(.agg #[(.int .i64 r.1.Width), (.int .i64 r.1.Height), (.slice A1_ r.1.Cells.length c1_)]), (.int .i64 r.2)]) ∧ St NoS w w' [] [rowO 3 encInt A1_ c1_ r.1.Cells]) := by
  have hS : St NoS w w [rowR encInt A_p0_Cells c_p0_Cells p0.Cells] [] := St.init (ro_cons hR0 (ro_nil _ _))
  refine enter 70 Try.func50 rfl Try.ntmps50 rfl ?_
  unfold tile_Repeat at hf
  refine WC.seq ?_
  refine WC.region ?_
  refine WL.new hS 3 [] (fun g => (.pointer (some ⟨g, 0, none⟩))) (.cells #[(.int .i64 p0.Width), (.int .i64 p0.Height), (.slice A_p0_Cells p0.Cells.length c_p0_Cells)] 38 (0, 0)) [] (fun fb g => by kernel_rfl) trivial (fun g19 w20 hS21 => ?_)
  refine ⟨trivial, ?_⟩
  refine WL.new hS21 6 [] (fun g => (.pointer (some ⟨g, 0, none⟩))) (.cells #[(.int .i64 0), (.int .i64 0), (.slice none 0 0)] 38 (0, 0)) [] (fun fb g => by kernel_rfl) trivial (fun g23 w24 hS25 => ?_)
  refine ⟨trivial, ?_⟩
  refine seg 3 [] [1, 2, 3, 6] [(1, (.int .i64 p1)), (2, (.int .i64 p2)), (3, (.pointer (some ⟨g19, 0, none⟩))), (6, (.pointer (some ⟨g23, 0, none⟩)))] [] (fun fb => by kernel_rfl) rfl trivial ?_
  refine WL.done rfl ?_
  refine WX.next ?_
  refine WC.seq ?_
  refine WC.seq ?_
  refine WC.region ?_
  refine seg 1 [.v (.int .i64 p0.Width), .v (.int .i64 p0.Height), .v (.slice A_p0_Cells p0.Cells.length c_p0_Cells)] [1, 2, 3, 6, 11] [(1, (.int .i64 p1)), (2, (.int .i64 p2)), (3, (.pointer (some ⟨g19, 0, none⟩))), (6, (.pointer (some ⟨g23, 0, none⟩))), (11, (.agg #[(.int .i64 p0.Width), (.int .i64 p0.Height), (.slice A_p0_Cells p0.Cells.length c_p0_Cells)]))] [.cell ⟨g19, 0, none⟩ (.int .i64 p0.Width), .cell ⟨g19, 1, none⟩ (.int .i64 p0.Height), .cell ⟨g19, 2, none⟩ (.slice A_p0_Cells p0.Cells.length c_p0_Cells)] (fun fb => by kernel_rfl) rfl ⟨hS25.cell 1 rfl 0 rfl, hS25.cell 1 rfl 1 rfl, hS25.cell 1 rfl 2 rfl, trivial⟩ ?_
  obtain ⟨t41, ht42, hf⟩ := bind_some hf
  refine WL.call (some 12) 64 #[(.agg #[(.int .i64 p0.Width), (.int .i64 p0.Height), (.slice A_p0_Cells p0.Cells.length c_p0_Cells)])] (fun fb => by kernel_rfl) (tile_Form_calls p0 A_p0_Cells c_p0_Cells t41 _ (hS25.rd 0) ht42) (fun v w43 hR44 => ?_)
  obtain ⟨rfl, hk_⟩ := hR44
  have hS45 := hS25.keepN hk_
  refine ⟨trivial, ?_⟩
  refine seg 3 [] [1, 2, 3, 6, 13] [(1, (.int .i64 p1)), (2, (.int .i64 p2)), (3, (.pointer (some ⟨g19, 0, none⟩))), (6, (.pointer (some ⟨g23, 0, none⟩))), (13, (.bool (!t41)))] [] (fun fb => by kernel_rfl) rfl trivial ?_
  refine WL.done rfl ?_
  refine WX.next ?_
  rcases br_some hf with ⟨h46, hf⟩ | ⟨h46, hf⟩
  · refine WC.condT2 (fun fb => by kernel_rfl) h46 ?_
    refine WC.seq ?_
    refine WC.region ?_
    refine seg 1 [] [6, 14] [(6, (.pointer (some ⟨g23, 0, none⟩))), (14, (.agg #[(.int .i64 0), (.int .i64 0), (.slice none 0 0)]))] [] (fun fb => by kernel_rfl) rfl trivial ?_
    refine WL.store hS45 0 rfl [(0, (.int .i64 0)), (1, (.int .i64 0)), (2, (.slice none 0 0))] #[(.int .i64 0), (.int .i64 0), (.slice none 0 0)] (fun fb => by kernel_rfl) (by kernel_rfl) rfl [1] (by decide) (by decide) (fun w47 hS48 => ?_)
    refine ⟨trivial, ?_⟩
    refine seg 3 [] [6, 7] [(6, (.pointer (some ⟨g23, 0, none⟩))), (7, (.int .i64 1))] [] (fun fb => by kernel_rfl) rfl trivial ?_
    refine WL.done rfl ?_
    refine WX.next ?_
    refine WC.ret ?_
    have hS49 := hS48.nilrow 3 encInt
    injection hf with hf
    subst hf
    exact WX.thenR (WX.ret_ [.v (.int .i64 0), .v (.int .i64 0), .v (.slice none 0 0)] (.tuple #[(.agg #[(.int .i64 0), (.int .i64 0), (.slice none ([] : List Int).length 0)]), (.int .i64 1)]) [.cell ⟨g23, 0, none⟩ (.int .i64 0), .cell ⟨g23, 1, none⟩ (.int .i64 0), .cell ⟨g23, 2, none⟩ (.slice none 0 0)] (fun fb => by kernel_rfl) ⟨hS48.cell 0 rfl 0 rfl, hS48.cell 0 rfl 1 rfl, hS48.cell 0 rfl 2 rfl, trivial⟩ ⟨_, rfl, none, 0, rfl, (hS49.sub [0] (by decide)).noR⟩)
  refine WC.condF2 (fun fb => by kernel_rfl) h46 ?_
  refine WC.skip ?_
  refine WX.next ?_
  refine WC.seq ?_
  refine WC.seq ?_
  refine WC.region ?_
  refine seg 3 [] [1, 2, 3, 6, 17] [(1, (.int .i64 p1)), (2, (.int .i64 p2)), (3, (.pointer (some ⟨g19, 0, none⟩))), (6, (.pointer (some ⟨g23, 0, none⟩))), (17, (.bool (decide (p1 < 1))))] [] (fun fb => by kernel_rfl) rfl trivial ?_
  refine WL.cutV (T := Bool) 6 (fun t => [(20, (.bool t)), (1, (.int .i64 p1)), (2, (.int .i64 p2)), (3, (.pointer (some ⟨g19, 0, none⟩))), (6, (.pointer (some ⟨g23, 0, none⟩)))]) (fun t => ((decide (p1 < 1)) || (decide (p2 < 1))) = t) (fun K => ?_) ?_
  ·
    rcases Bool.eq_false_or_eq_true (decide (p1 < 1)) with h50 | h50
    ·
      refine WL.setB 17 h50 rfl ?_
      refine seg 6 [] [1, 2, 3, 6, 20] [(1, (.int .i64 p1)), (2, (.int .i64 p2)), (3, (.pointer (some ⟨g19, 0, none⟩))), (6, (.pointer (some ⟨g23, 0, none⟩))), (20, (.bool true))] [] (fun fb => by kernel_rfl) rfl trivial ?_
      exact WL.toV K true [20, 1, 2, 3, 6] rfl (by first | (rw [h50]; done) | (rw [h50]; rfl))
    refine WL.setB 17 h50 rfl ?_
    refine seg 6 [] [1, 2, 3, 6, 20] [(1, (.int .i64 p1)), (2, (.int .i64 p2)), (3, (.pointer (some ⟨g19, 0, none⟩))), (6, (.pointer (some ⟨g23, 0, none⟩))), (20, (.bool (decide (p2 < 1))))] [] (fun fb => by kernel_rfl) rfl trivial ?_
    exact WL.toV K (decide (p2 < 1)) [20, 1, 2, 3, 6] rfl (by first | (rw [h50]; done) | (rw [h50]; rfl))
  rintro b51 rfl
  refine WL.done rfl ?_
  refine WX.next ?_
  rcases br_some hf with ⟨h52, hf⟩ | ⟨h52, hf⟩
  · refine WC.condT2 (fun fb => by kernel_rfl) h52 ?_
    refine WC.seq ?_
    refine WC.region ?_
    refine seg 1 [] [6, 21] [(6, (.pointer (some ⟨g23, 0, none⟩))), (21, (.agg #[(.int .i64 0), (.int .i64 0), (.slice none 0 0)]))] [] (fun fb => by kernel_rfl) rfl trivial ?_
    refine WL.store hS45 0 rfl [(0, (.int .i64 0)), (1, (.int .i64 0)), (2, (.slice none 0 0))] #[(.int .i64 0), (.int .i64 0), (.slice none 0 0)] (fun fb => by kernel_rfl) (by kernel_rfl) rfl [1] (by decide) (by decide) (fun w53 hS54 => ?_)
    refine ⟨trivial, ?_⟩
    refine seg 3 [] [6, 7] [(6, (.pointer (some ⟨g23, 0, none⟩))), (7, (.int .i64 2))] [] (fun fb => by kernel_rfl) rfl trivial ?_
    refine WL.done rfl ?_
    refine WX.next ?_
    refine WC.ret ?_
    have hS55 := hS54.nilrow 3 encInt
    injection hf with hf
    subst hf
    exact WX.thenR (WX.ret_ [.v (.int .i64 0), .v (.int .i64 0), .v (.slice none 0 0)] (.tuple #[(.agg #[(.int .i64 0), (.int .i64 0), (.slice none ([] : List Int).length 0)]), (.int .i64 2)]) [.cell ⟨g23, 0, none⟩ (.int .i64 0), .cell ⟨g23, 1, none⟩ (.int .i64 0), .cell ⟨g23, 2, none⟩ (.slice none 0 0)] (fun fb => by kernel_rfl) ⟨hS54.cell 0 rfl 0 rfl, hS54.cell 0 rfl 1 rfl, hS54.cell 0 rfl 2 rfl, trivial⟩ ⟨_, rfl, none, 0, rfl, (hS55.sub [0] (by decide)).noR⟩)
  refine WC.condF2 (fun fb => by kernel_rfl) h52 ?_
  refine WC.skip ?_
  refine WX.next ?_
  refine WC.seq ?_
  refine WC.seq ?_
  refine WC.region ?_
  refine seg 3 [] [1, 2, 3, 6, 24] [(1, (.int .i64 p1)), (2, (.int .i64 p2)), (3, (.pointer (some ⟨g19, 0, none⟩))), (6, (.pointer (some ⟨g23, 0, none⟩))), (24, (.bool (decide (p1 > 40000))))] [] (fun fb => by kernel_rfl) rfl trivial ?_
  refine WL.cutV (T := Bool) 6 (fun t => [(27, (.bool t)), (1, (.int .i64 p1)), (2, (.int .i64 p2)), (3, (.pointer (some ⟨g19, 0, none⟩))), (6, (.pointer (some ⟨g23, 0, none⟩)))]) (fun t => ((decide (p1 > 40000)) || (decide (p2 > 40000))) = t) (fun K => ?_) ?_
  ·
    rcases Bool.eq_false_or_eq_true (decide (p1 > 40000)) with h56 | h56
    ·
      refine WL.setB 24 h56 rfl ?_
      refine seg 6 [] [1, 2, 3, 6, 27] [(1, (.int .i64 p1)), (2, (.int .i64 p2)), (3, (.pointer (some ⟨g19, 0, none⟩))), (6, (.pointer (some ⟨g23, 0, none⟩))), (27, (.bool true))] [] (fun fb => by kernel_rfl) rfl trivial ?_
      exact WL.toV K true [27, 1, 2, 3, 6] rfl (by first | (rw [h56]; done) | (rw [h56]; rfl))
    refine WL.setB 24 h56 rfl ?_
    refine seg 6 [] [1, 2, 3, 6, 27] [(1, (.int .i64 p1)), (2, (.int .i64 p2)), (3, (.pointer (some ⟨g19, 0, none⟩))), (6, (.pointer (some ⟨g23, 0, none⟩))), (27, (.bool (decide (p2 > 40000))))] [] (fun fb => by kernel_rfl) rfl trivial ?_
    exact WL.toV K (decide (p2 > 40000)) [27, 1, 2, 3, 6] rfl (by first | (rw [h56]; done) | (rw [h56]; rfl))
  rintro b57 rfl
  refine seg 7 [] [1, 2, 3, 6, 28] [(1, (.int .i64 p1)), (2, (.int .i64 p2)), (3, (.pointer (some ⟨g19, 0, none⟩))), (6, (.pointer (some ⟨g23, 0, none⟩))), (28, (.bool ((decide (p1 > 40000)) || (decide (p2 > 40000)))))] [] (fun fb => by kernel_rfl) rfl trivial ?_
  refine WL.cutV (T := Bool) 12 (fun t => [(33, (.bool t)), (1, (.int .i64 p1)), (2, (.int .i64 p2)), (3, (.pointer (some ⟨g19, 0, none⟩))), (6, (.pointer (some ⟨g23, 0, none⟩)))]) (fun t => (((decide (p1 > 40000)) || (decide (p2 > 40000))) || (decide (w64 (p1 * p2) > 40000))) = t) (fun K => ?_) ?_
  ·
    rcases Bool.eq_false_or_eq_true ((decide (p1 > 40000)) || (decide (p2 > 40000))) with h58 | h58
    ·
      refine WL.setB 28 h58 rfl ?_
      refine seg 12 [] [1, 2, 3, 6, 33] [(1, (.int .i64 p1)), (2, (.int .i64 p2)), (3, (.pointer (some ⟨g19, 0, none⟩))), (6, (.pointer (some ⟨g23, 0, none⟩))), (33, (.bool true))] [] (fun fb => by kernel_rfl) rfl trivial ?_
      exact WL.toV K true [33, 1, 2, 3, 6] rfl (by first | (rw [h58]; done) | (rw [h58]; rfl))
    refine WL.setB 28 h58 rfl ?_
    refine seg 12 [] [1, 2, 3, 6, 33] [(1, (.int .i64 p1)), (2, (.int .i64 p2)), (3, (.pointer (some ⟨g19, 0, none⟩))), (6, (.pointer (some ⟨g23, 0, none⟩))), (33, (.bool (decide (w64 (p1 * p2) > 40000))))] [] (fun fb => by kernel_rfl) rfl trivial ?_
    exact WL.toV K (decide (w64 (p1 * p2) > 40000)) [33, 1, 2, 3, 6] rfl (by first | (rw [h58]; done) | (rw [h58]; rfl))
  rintro b59 rfl
  refine WL.done rfl ?_
  refine WX.next ?_
  rcases br_some hf with ⟨h60, hf⟩ | ⟨h60, hf⟩
  · refine WC.condT2 (fun fb => by kernel_rfl) h60 ?_
    refine WC.seq ?_
    refine WC.region ?_
    refine seg 1 [] [6, 34] [(6, (.pointer (some ⟨g23, 0, none⟩))), (34, (.agg #[(.int .i64 0), (.int .i64 0), (.slice none 0 0)]))] [] (fun fb => by kernel_rfl) rfl trivial ?_
    refine WL.store hS45 0 rfl [(0, (.int .i64 0)), (1, (.int .i64 0)), (2, (.slice none 0 0))] #[(.int .i64 0), (.int .i64 0), (.slice none 0 0)] (fun fb => by kernel_rfl) (by kernel_rfl) rfl [1] (by decide) (by decide) (fun w61 hS62 => ?_)
    refine ⟨trivial, ?_⟩
    refine seg 3 [] [6, 7] [(6, (.pointer (some ⟨g23, 0, none⟩))), (7, (.int .i64 4))] [] (fun fb => by kernel_rfl) rfl trivial ?_
    refine WL.done rfl ?_
    refine WX.next ?_
    refine WC.ret ?_
    have hS63 := hS62.nilrow 3 encInt
    injection hf with hf
    subst hf
    exact WX.thenR (WX.ret_ [.v (.int .i64 0), .v (.int .i64 0), .v (.slice none 0 0)] (.tuple #[(.agg #[(.int .i64 0), (.int .i64 0), (.slice none ([] : List Int).length 0)]), (.int .i64 4)]) [.cell ⟨g23, 0, none⟩ (.int .i64 0), .cell ⟨g23, 1, none⟩ (.int .i64 0), .cell ⟨g23, 2, none⟩ (.slice none 0 0)] (fun fb => by kernel_rfl) ⟨hS62.cell 0 rfl 0 rfl, hS62.cell 0 rfl 1 rfl, hS62.cell 0 rfl 2 rfl, trivial⟩ ⟨_, rfl, none, 0, rfl, (hS63.sub [0] (by decide)).noR⟩)
  refine WC.condF2 (fun fb => by kernel_rfl) h60 ?_
  refine WC.skip ?_
  refine WX.next ?_
  refine WC.seq ?_
  refine WC.region ?_
  refine seg 3 [] [1, 2, 3, 6, 37] [(1, (.int .i64 p1)), (2, (.int .i64 p2)), (3, (.pointer (some ⟨g19, 0, none⟩))), (6, (.pointer (some ⟨g23, 0, none⟩))), (37, (.agg #[(.int .i64 p1), (.int .i64 p2), (.slice none 0 0)]))] [] (fun fb => by kernel_rfl) rfl trivial ?_
  refine WL.new hS45 8 [] (fun g => (.pointer (some ⟨g, 0, none⟩))) (.cells #[(.int .i64 0), (.int .i64 0), (.slice none 0 0)] 38 (0, 0)) [] (fun fb g => by kernel_rfl) trivial (fun g64 w65 hS66 => ?_)
  refine ⟨trivial, ?_⟩
  refine WL.store hS66 0 rfl [(0, (.int .i64 p1)), (1, (.int .i64 p2)), (2, (.slice none 0 0))] #[(.int .i64 p1), (.int .i64 p2), (.slice none 0 0)] (fun fb => by kernel_rfl) (by kernel_rfl) rfl [1, 2] (by decide) (by decide) (fun w68 hS69 => ?_)
  refine ⟨trivial, ?_⟩
  refine WL.done rfl ?_
  refine WX.next ?_
  refine WC.seq ?_
  refine WC.seq ?_
  refine WC.region ?_
  refine seg 2 [] [1, 3, 6, 8, 38, 39] [(1, (.int .i64 p1)), (3, (.pointer (some ⟨g19, 0, none⟩))), (6, (.pointer (some ⟨g23, 0, none⟩))), (8, (.pointer (some ⟨g64, 0, none⟩))), (38, (.int .i64 p2)), (39, (.int .i64 0))] [] (fun fb => by kernel_rfl) rfl trivial ?_
  refine WL.done rfl ?_
  refine WX.next ?_
  have hS339 := hS69.nilrow 3 encInt
  obtain ⟨x347, hx348, hf⟩ := bind_some hf
  refine WC.cutN (T := (List Int) × (Option Addr) × Nat) (fun t => [(6, (.pointer (some ⟨g23, 0, none⟩))), (8, (.pointer (some ⟨g64, 0, none⟩)))]) (fun t w1 => St NoS w w1 [rowR encInt A_p0_Cells c_p0_Cells p0.Cells] [blk g23 (.cells #[(.int .i64 0), (.int .i64 0), (.slice none 0 0)] 38 (0, 0)), blk g64 (.cells #[(.int .i64 p1), (.int .i64 p2), (.slice t.2.1 t.1.length t.2.2)] 38 (0, 0)), rowO 3 encInt t.2.1 t.2.2 t.1] ∧ x347 = t.1) (fun Kx347 => ?_) ?_
  ·
    refine WC.block ?_
    refine WC.loop (T := ((List Int) × Int) × (Option Addr) × Nat) (fun t => [(1, (.int .i64 p1)), (3, (.pointer (some ⟨g19, 0, none⟩))), (6, (.pointer (some ⟨g23, 0, none⟩))), (8, (.pointer (some ⟨g64, 0, none⟩))), (38, (.int .i64 p2)), (39, (.int .i64 t.1.2))]) (fun n t w1 => St NoS w w1 [rowR encInt A_p0_Cells c_p0_Cells p0.Cells] [blk g19 (.cells #[(.int .i64 p0.Width), (.int .i64 p0.Height), (.slice A_p0_Cells p0.Cells.length c_p0_Cells)] 38 (0, 0)), blk g23 (.cells #[(.int .i64 0), (.int .i64 0), (.slice none 0 0)] 38 (0, 0)), blk g64 (.cells #[(.int .i64 p1), (.int .i64 p2), (.slice t.2.1 t.1.1.length t.2.2)] 38 (0, 0)), rowO 3 encInt t.2.1 t.2.2 t.1.1] ∧ tile_Repeat.l0 n t.1.1 t.1.2 p0 p1 p2 = some x347) k ((([] : List Int), 0), none, 0) [1, 3, 6, 8, 38, 39] rfl ⟨(hS339.subR [0]).sub [3, 2, 1, 0] (by decide), hx348⟩ ?_
    rintro k349 ⟨⟨l342, x343⟩, A340, c341⟩ w350 ⟨hS351, hl352⟩
    cases k349 with
    | zero => rw [tile_Repeat.l0] at hl352; cases hl352
    | succ k349 =>
      rw [tile_Repeat.l0] at hl352
      refine WC.seq ?_
      refine WC.region ?_
      refine seg 1 [] [1, 3, 6, 8, 38, 39, 40] [(1, (.int .i64 p1)), (3, (.pointer (some ⟨g19, 0, none⟩))), (6, (.pointer (some ⟨g23, 0, none⟩))), (8, (.pointer (some ⟨g64, 0, none⟩))), (38, (.int .i64 p2)), (39, (.int .i64 x343)), (40, (.bool (decide (x343 < p2))))] [] (fun fb => by kernel_rfl) rfl trivial ?_
      refine WL.done rfl ?_
      refine WX.next ?_
      refine WC.seq ?_
      rcases br_some hl352 with ⟨h353, hl352⟩ | ⟨h353, hl352⟩
      · refine WC.condT2 (fun fb => by kernel_rfl) h353 ?_
        refine WC.skip ?_
        refine WX.next ?_
        refine WC.seq ?_
        refine WC.block ?_
        refine WC.seq ?_
        refine WC.region ?_
        refine seg 2 [] [1, 3, 6, 8, 9, 38, 39] [(1, (.int .i64 p1)), (3, (.pointer (some ⟨g19, 0, none⟩))), (6, (.pointer (some ⟨g23, 0, none⟩))), (8, (.pointer (some ⟨g64, 0, none⟩))), (9, (.int .i64 x343)), (38, (.int .i64 p2)), (39, (.int .i64 x343))] [] (fun fb => by kernel_rfl) rfl trivial ?_
        refine WL.done rfl ?_
        refine WX.next ?_
        refine WC.seq ?_
        refine WC.region ?_
        refine seg 2 [] [1, 3, 6, 8, 9, 38, 39, 42, 43] [(1, (.int .i64 p1)), (3, (.pointer (some ⟨g19, 0, none⟩))), (6, (.pointer (some ⟨g23, 0, none⟩))), (8, (.pointer (some ⟨g64, 0, none⟩))), (9, (.int .i64 x343)), (38, (.int .i64 p2)), (39, (.int .i64 x343)), (42, (.int .i64 p1)), (43, (.int .i64 0))] [] (fun fb => by kernel_rfl) rfl trivial ?_
        refine WL.done rfl ?_
        refine WX.next ?_
        obtain ⟨x437, hx438, hl352⟩ := bind_some hl352
        refine WC.cutN (T := (List Int) × (Option Addr) × Nat) (fun t => [(1, (.int .i64 p1)), (3, (.pointer (some ⟨g19, 0, none⟩))), (6, (.pointer (some ⟨g23, 0, none⟩))), (8, (.pointer (some ⟨g64, 0, none⟩))), (38, (.int .i64 p2)), (39, (.int .i64 x343))]) (fun t w1 => St NoS w w1 [rowR encInt A_p0_Cells c_p0_Cells p0.Cells] [blk g19 (.cells #[(.int .i64 p0.Width), (.int .i64 p0.Height), (.slice A_p0_Cells p0.Cells.length c_p0_Cells)] 38 (0, 0)), blk g23 (.cells #[(.int .i64 0), (.int .i64 0), (.slice none 0 0)] 38 (0, 0)), blk g64 (.cells #[(.int .i64 p1), (.int .i64 p2), (.slice t.2.1 t.1.length t.2.2)] 38 (0, 0)), rowO 3 encInt t.2.1 t.2.2 t.1] ∧ x437 = t.1) (fun Kx437 => ?_) ?_
        ·
          refine WC.block ?_
          refine WC.loop (T := ((List Int) × Int) × (Option Addr) × Nat) (fun t => [(1, (.int .i64 p1)), (3, (.pointer (some ⟨g19, 0, none⟩))), (6, (.pointer (some ⟨g23, 0, none⟩))), (8, (.pointer (some ⟨g64, 0, none⟩))), (9, (.int .i64 x343)), (38, (.int .i64 p2)), (39, (.int .i64 x343)), (42, (.int .i64 p1)), (43, (.int .i64 t.1.2))]) (fun n t w1 => St NoS w w1 [rowR encInt A_p0_Cells c_p0_Cells p0.Cells] [blk g19 (.cells #[(.int .i64 p0.Width), (.int .i64 p0.Height), (.slice A_p0_Cells p0.Cells.length c_p0_Cells)] 38 (0, 0)), blk g23 (.cells #[(.int .i64 0), (.int .i64 0), (.slice none 0 0)] 38 (0, 0)), blk g64 (.cells #[(.int .i64 p1), (.int .i64 p2), (.slice t.2.1 t.1.1.length t.2.2)] 38 (0, 0)), rowO 3 encInt t.2.1 t.2.2 t.1.1] ∧ tile_Repeat.l1 n t.1.1 t.1.2 p0 p1 x343 = some x437) k349 ((l342, 0), A340, c341) [1, 3, 6, 8, 9, 38, 39, 42, 43] rfl ⟨(hS351.subR [0]).sub [0, 1, 2, 3] (by decide), hx438⟩ ?_
          rintro k439 ⟨⟨l432, x433⟩, A430, c431⟩ w440 ⟨hS441, hl442⟩
          cases k439 with
          | zero => rw [tile_Repeat.l1] at hl442; cases hl442
          | succ k439 =>
            rw [tile_Repeat.l1] at hl442
            refine WC.seq ?_
            refine WC.region ?_
            refine seg 1 [] [1, 3, 6, 8, 9, 38, 39, 42, 43, 44] [(1, (.int .i64 p1)), (3, (.pointer (some ⟨g19, 0, none⟩))), (6, (.pointer (some ⟨g23, 0, none⟩))), (8, (.pointer (some ⟨g64, 0, none⟩))), (9, (.int .i64 x343)), (38, (.int .i64 p2)), (39, (.int .i64 x343)), (42, (.int .i64 p1)), (43, (.int .i64 x433)), (44, (.bool (decide (x433 < p1))))] [] (fun fb => by kernel_rfl) rfl trivial ?_
            refine WL.done rfl ?_
            refine WX.next ?_
            refine WC.seq ?_
            rcases br_some hl442 with ⟨h443, hl442⟩ | ⟨h443, hl442⟩
            · refine WC.condT2 (fun fb => by kernel_rfl) h443 ?_
              refine WC.skip ?_
              refine WX.next ?_
              refine WC.seq ?_
              refine WC.block ?_
              refine WC.seq ?_
              refine WC.region ?_
              refine seg 2 [] [1, 3, 6, 8, 9, 10, 38, 39, 42, 43] [(1, (.int .i64 p1)), (3, (.pointer (some ⟨g19, 0, none⟩))), (6, (.pointer (some ⟨g23, 0, none⟩))), (8, (.pointer (some ⟨g64, 0, none⟩))), (9, (.int .i64 x343)), (10, (.int .i64 x433)), (38, (.int .i64 p2)), (39, (.int .i64 x343)), (42, (.int .i64 p1)), (43, (.int .i64 x433))] [] (fun fb => by kernel_rfl) rfl trivial ?_
              refine WL.done rfl ?_
              refine WX.next ?_
              obtain ⟨h464, hl442⟩ := as_some hl442
              obtain ⟨h465, hl442⟩ := as_some hl442
              obtain ⟨h466, hl442⟩ := as_some hl442
              refine WC.regionD ([(1, ⟨g64, 2, none⟩, (.slice A430 l432.length c431)), (3, ⟨g19, 2, none⟩, (.slice A_p0_Cells p0.Cells.length c_p0_Cells)), (6, ⟨g19, 1, none⟩, (.int .i64 p0.Height)), (9, ⟨g19, 0, none⟩, (.int .i64 p0.Width)), (13, ⟨g19, 0, none⟩, (.int .i64 p0.Width)), (17, ((adr A_p0_Cells).add ((w64 ((w64 ((Int.tmod x343 p0.Height) * p0.Width)) + (Int.tmod x433 p0.Width))).toNat * 1)), (.int .i64 (rdD p0.Cells (w64 ((w64 ((Int.tmod x343 p0.Height) * p0.Width)) + (Int.tmod x433 p0.Width))) 0)))], [0, 1, 2, 3, 4, 5, 6, 7, 8, 9, 10, 11, 12, 13, 14, 15, 16, 17, 20], [[], [0], [], [2], [], [], [5], [4, 5, 6], [], [8], [4, 5, 6, 7, 8, 9], [], [], [12], [11, 12, 13], [4, 5, 6, 7, 8, 9, 10, 11, 12, 13, 14], [2, 3, 4, 5, 6, 7, 8, 9, 10, 11, 12, 13, 14, 15], [2, 3, 4, 5, 6, 7, 8, 9, 10, 11, 12, 13, 14, 15, 16], [2, 3, 4, 5, 6, 7, 8, 9, 10, 11, 12, 13, 14, 15, 16, 17], [0, 1, 2, 3, 4, 5, 6, 7, 8, 9, 10, 11, 12, 13, 14, 15, 16, 17, 18], [0, 1, 2, 3, 4, 5, 6, 7, 8, 9, 10, 11, 12, 13, 14, 15, 16, 17, 18, 19], [0, 1, 2, 3, 4, 5, 6, 7, 8, 9, 10, 11, 12, 13, 14, 15, 16, 17, 18, 19, 20]]) [[0, 1, 2, 3, 4, 5, 6, 7, 8, 9, 10, 11, 12, 13, 14, 15, 16, 17, 18, 19, 20, 21]] (by kernel_rfl) (by kernel_rfl) (NoPanic.block (NoPanic.seq (NoPanic.seq (NoPanic.block (NoPanic.block (NoPanic.seq (NoPanic.seq (NoPanic.block (NoPanic.seq (NoPanic.body)))))))))) ?_
              have hS460 := hS441.drew
              revert hS460
              generalize World.drew w440 = w459
              intro hS460
              refine ⟨⟨hS460.cell 2 rfl 2 rfl, hS460.cell 0 rfl 2 rfl, hS460.cell 0 rfl 1 rfl, hS460.cell 0 rfl 0 rfl, hS460.cell 0 rfl 0 rfl, rowR.cell (hS460.rd 0).1 0 h466.1 h466.2 0 rfl, trivial⟩, forallC ?_ (forallN)⟩
              refine segF 18 [.v (.slice A430 l432.length c431), .v (.slice A_p0_Cells p0.Cells.length c_p0_Cells), .v (.int .i64 p0.Height), .v (.int .i64 p0.Width), .v (.int .i64 p0.Width), .v (.int .i64 (rdD p0.Cells (w64 ((w64 ((Int.tmod x343 p0.Height) * p0.Width)) + (Int.tmod x433 p0.Width))) 0))] [1, 3, 6, 8, 9, 38, 39, 42, 43, 47, 63] [(1, (.int .i64 p1)), (3, (.pointer (some ⟨g19, 0, none⟩))), (6, (.pointer (some ⟨g23, 0, none⟩))), (8, (.pointer (some ⟨g64, 0, none⟩))), (9, (.int .i64 x343)), (38, (.int .i64 p2)), (39, (.int .i64 x343)), (42, (.int .i64 p1)), (43, (.int .i64 x433)), (47, (.slice A430 l432.length c431)), (63, (.int .i64 (rdD p0.Cells (w64 ((w64 ((Int.tmod x343 p0.Height) * p0.Width)) + (Int.tmod x433 p0.Width))) 0)))] [.ne p0.Height, .ne p0.Width, .idx A_p0_Cells (w64 ((w64 ((Int.tmod x343 p0.Height) * p0.Width)) + (Int.tmod x433 p0.Width))) p0.Cells.length] [0, 1, 2, 3, 4, 5] [(1, ⟨g64, 2, none⟩, (.slice A430 l432.length c431)), (3, ⟨g19, 2, none⟩, (.slice A_p0_Cells p0.Cells.length c_p0_Cells)), (6, ⟨g19, 1, none⟩, (.int .i64 p0.Height)), (9, ⟨g19, 0, none⟩, (.int .i64 p0.Width)), (13, ⟨g19, 0, none⟩, (.int .i64 p0.Width)), (17, ((adr A_p0_Cells).add ((w64 ((w64 ((Int.tmod x343 p0.Height) * p0.Width)) + (Int.tmod x433 p0.Width))).toNat * 1)), (.int .i64 (rdD p0.Cells (w64 ((w64 ((Int.tmod x343 p0.Height) * p0.Width)) + (Int.tmod x433 p0.Width))) 0)))] (fun fb => by kernel_rfl) rfl ⟨h464, h465, rowR.adr (hS460.rd 0).1 h466.1 h466.2, trivial⟩ rfl ?_
              refine WL.new hS460 64 [] (fun g => (.slice (some ⟨g, 0, none⟩) 1 1)) (.cells #[(.int .i64 (rdD p0.Cells (w64 ((w64 ((Int.tmod x343 p0.Height) * p0.Width)) + (Int.tmod x433 p0.Width))) 0))] 3 (0, 0)) [] (fun fb g => by kernel_rfl) trivial (fun g467 w468 hS469 => ?_)
              refine ⟨⟨hS469.cell 3 rfl 2 rfl, trivial⟩, ?_⟩
              have hS471 : St NoS w w468 [rowR encInt A_p0_Cells c_p0_Cells p0.Cells] [rowO 3 encInt (some ⟨g467, 0, none⟩) 1 [(rdD p0.Cells (w64 ((w64 ((Int.tmod x343 p0.Height) * p0.Width)) + (Int.tmod x433 p0.Width))) 0)], blk g19 (.cells #[(.int .i64 p0.Width), (.int .i64 p0.Height), (.slice A_p0_Cells p0.Cells.length c_p0_Cells)] 38 (0, 0)), blk g23 (.cells #[(.int .i64 0), (.int .i64 0), (.slice none 0 0)] 38 (0, 0)), blk g64 (.cells #[(.int .i64 p1), (.int .i64 p2), (.slice A430 l432.length c431)] 38 (0, 0)), rowO 3 encInt A430 c431 l432] := hS469.map1 0 _ (fun h => rowO.ofBlk h rfl (Nat.le_of_ble_eq_true (by kernel_rfl))) (fun _ h => by obtain ⟨_, h1, h2⟩ := h; injection h1 with h1; subst h1; exact h2) [1, 2, 3, 4] (by decide) (by decide)
              obtain ⟨h472, hl442⟩ := as_some hl442
              refine WL.append hS471 4 (d := 65) (tS := 36) (z := (.int .i64 0)) (bytes := 8) (c2 := 1) rfl (fun fb => by kernel_rfl) (rowO.rd (hS471.own 0).1) (by kernel_rfl) (by kernel_rfl) rfl (by decide) h472 (by decide) [0, 1, 2, 3] (by decide) (by decide) (fun A473 c474 w475 hS476 => ?_)
              refine ⟨trivial, ?_⟩
              refine seg 21 [] [1, 3, 6, 8, 9, 38, 39, 42, 43, 65, 66] [(1, (.int .i64 p1)), (3, (.pointer (some ⟨g19, 0, none⟩))), (6, (.pointer (some ⟨g23, 0, none⟩))), (8, (.pointer (some ⟨g64, 0, none⟩))), (9, (.int .i64 x343)), (38, (.int .i64 p2)), (39, (.int .i64 x343)), (42, (.int .i64 p1)), (43, (.int .i64 x433)), (65, (.slice A473 (l432 ++ [(rdD p0.Cells (w64 ((w64 ((Int.tmod x343 p0.Height) * p0.Width)) + (Int.tmod x433 p0.Width))) 0)]).length c474)), (66, (.pointer (some ⟨g64, 2, none⟩)))] [] (fun fb => by kernel_rfl) rfl trivial ?_
              refine WL.store hS476 4 rfl [(2, (.slice A473 (l432 ++ [(rdD p0.Cells (w64 ((w64 ((Int.tmod x343 p0.Height) * p0.Width)) + (Int.tmod x433 p0.Width))) 0)]).length c474))] #[(.int .i64 p1), (.int .i64 p2), (.slice A473 (l432 ++ [(rdD p0.Cells (w64 ((w64 ((Int.tmod x343 p0.Height) * p0.Width)) + (Int.tmod x433 p0.Width))) 0)]).length c474)] (fun fb => by kernel_rfl) (by kernel_rfl) rfl [0, 1, 2, 3] (by decide) (by decide) (fun w477 hS478 => ?_)
              refine ⟨trivial, ?_⟩
              refine WL.done rfl ?_
              refine WX.blockN (WX.next ?_)
              refine WC.region ?_
              refine seg 2 [] [1, 3, 6, 8, 9, 38, 39, 42, 43] [(1, (.int .i64 p1)), (3, (.pointer (some ⟨g19, 0, none⟩))), (6, (.pointer (some ⟨g23, 0, none⟩))), (8, (.pointer (some ⟨g64, 0, none⟩))), (9, (.int .i64 x343)), (38, (.int .i64 p2)), (39, (.int .i64 x343)), (42, (.int .i64 p1)), (43, (.int .i64 (w64 (x433 + 1))))] [] (fun fb => by kernel_rfl) rfl trivial ?_
              refine WL.done rfl ?_
              exact WX.again k439 (Nat.lt_succ_self _) ((l432 ++ [(rdD p0.Cells (w64 ((w64 ((Int.tmod x343 p0.Height) * p0.Width)) + (Int.tmod x433 p0.Width))) 0)], w64 (x433 + 1)), A473, c474) [1, 3, 6, 8, 9, 38, 39, 42, 43] rfl ⟨(hS478.subR [0]).sub [3, 4, 0, 1] (by decide), hl442⟩
            refine WC.condF2 (fun fb => by kernel_rfl) h443 ?_
            refine WC.exit ?_
            injection hl442 with hl442
            exact WX.thenX (WX.thenX (WX.blockHere (WX.to Kx437 (l432, A430, c431) [1, 3, 6, 8, 38, 39] rfl ⟨(hS441.subR [0]).sub [0, 1, 2, 3] (by decide), hl442.symm⟩)))
        rintro ⟨y482, A434, c435⟩ w479 ⟨hS480, hq481⟩
        subst hq481
        refine WX.blockN (WX.next ?_)
        refine WC.region ?_
        refine seg 2 [] [1, 3, 6, 8, 38, 39] [(1, (.int .i64 p1)), (3, (.pointer (some ⟨g19, 0, none⟩))), (6, (.pointer (some ⟨g23, 0, none⟩))), (8, (.pointer (some ⟨g64, 0, none⟩))), (38, (.int .i64 p2)), (39, (.int .i64 (w64 (x343 + 1))))] [] (fun fb => by kernel_rfl) rfl trivial ?_
        refine WL.done rfl ?_
        exact WX.again k349 (Nat.lt_succ_self _) ((x437, w64 (x343 + 1)), A434, c435) [1, 3, 6, 8, 38, 39] rfl ⟨(hS480.subR [0]).sub [0, 1, 2, 3] (by decide), hl352⟩
      refine WC.condF2 (fun fb => by kernel_rfl) h353 ?_
      refine WC.exit ?_
      injection hl352 with hl352
      exact WX.thenX (WX.thenX (WX.blockHere (WX.to Kx347 (l342, A340, c341) [6, 8] rfl ⟨(hS351.subR [0]).sub [1, 2, 3] (by decide), hl352.symm⟩)))
  rintro ⟨y486, A344, c345⟩ w483 ⟨hS484, hq485⟩
  subst hq485
  refine WX.next ?_
  refine WC.seq ?_
  refine WC.region ?_
  refine seg 1 [.v (.int .i64 p1), .v (.int .i64 p2), .v (.slice A344 x347.length c345)] [6, 69] [(6, (.pointer (some ⟨g23, 0, none⟩))), (69, (.agg #[(.int .i64 p1), (.int .i64 p2), (.slice A344 x347.length c345)]))] [.cell ⟨g64, 0, none⟩ (.int .i64 p1), .cell ⟨g64, 1, none⟩ (.int .i64 p2), .cell ⟨g64, 2, none⟩ (.slice A344 x347.length c345)] (fun fb => by kernel_rfl) rfl ⟨hS484.cell 1 rfl 0 rfl, hS484.cell 1 rfl 1 rfl, hS484.cell 1 rfl 2 rfl, trivial⟩ ?_
  refine WL.store hS484 0 rfl [(0, (.int .i64 p1)), (1, (.int .i64 p2)), (2, (.slice A344 x347.length c345))] #[(.int .i64 p1), (.int .i64 p2), (.slice A344 x347.length c345)] (fun fb => by kernel_rfl) (by kernel_rfl) rfl [1, 2] (by decide) (by decide) (fun w487 hS488 => ?_)
  refine ⟨trivial, ?_⟩
  refine seg 3 [] [6, 7] [(6, (.pointer (some ⟨g23, 0, none⟩))), (7, (.int .i64 0))] [] (fun fb => by kernel_rfl) rfl trivial ?_
  refine WL.done rfl ?_
  refine WX.next ?_
  refine WC.ret ?_
  injection hf with hf
  subst hf
  exact WX.ret_ [.v (.int .i64 p1), .v (.int .i64 p2), .v (.slice A344 x347.length c345)] (.tuple #[(.agg #[(.int .i64 p1), (.int .i64 p2), (.slice A344 x347.length c345)]), (.int .i64 0)]) [.cell ⟨g23, 0, none⟩ (.int .i64 p1), .cell ⟨g23, 1, none⟩ (.int .i64 p2), .cell ⟨g23, 2, none⟩ (.slice A344 x347.length c345)] (fun fb => by kernel_rfl) ⟨hS488.cell 0 rfl 0 rfl, hS488.cell 0 rfl 1 rfl, hS488.cell 0 rfl 2 rfl, trivial⟩ ⟨_, rfl, A344, c345, rfl, (hS488.sub [2] (by decide)).noR⟩
theorem top_chess_calls   (r : (List Tile)) (w : World)  (hf : top_chess = some r) :
    CallsR Try.prog 51 #[] w (fun v w' => ∃ (A1_ : Option Addr), ∃ (c1_ : Nat), v = (.slice A1_ r.length c1_) ∧ St NoS w w' [] [rowO 24 enc_Tile A1_ c1_ r]) := by
  have hS : St NoS w w [] [] := St.init (ro_nil _ _)
  refine enter 4 Try.func51 rfl Try.ntmps51 rfl ?_
  unfold top_chess at hf
  refine WC.seq ?_
  refine WC.region ?_
  refine seg 1 [] [] [] [] (fun fb => by kernel_rfl) rfl trivial ?_
  refine WL.done rfl ?_
  refine WX.next ?_
  refine WC.seq ?_
  refine WC.region ?_
  refine seg 2 [] [1, 2] [(1, (.agg #[(.int .i64 0), (.int .i64 1), (.int .i64 1), (.int .i64 0)])), (2, (.agg #[(.int .i64 1), (.int .i64 0), (.int .i64 0), (.int .i64 1)]))] [] (fun fb => by kernel_rfl) rfl trivial ?_
  refine WL.new hS 3 [] (fun g => (.slice (some ⟨g, 0, none⟩) 2 2)) (.cells #[(.int .i64 0), (.int .i64 1), (.int .i64 1), (.int .i64 0), (.int .i64 1), (.int .i64 0), (.int .i64 0), (.int .i64 1)] 24 (0, 0)) [] (fun fb g => by kernel_rfl) trivial (fun g502 w503 hS504 => ?_)
  refine ⟨trivial, ?_⟩
  have hS506 : St NoS w w503 [] [rowO 24 enc_Tile (some ⟨g502, 0, none⟩) 2 [(Tile.mk 0 1 1 0), (Tile.mk 1 0 0 1)]] := hS504.map1 0 _ (fun h => rowO.ofBlk h rfl (Nat.le_of_ble_eq_true (by kernel_rfl))) (fun _ h => by obtain ⟨_, h1, h2⟩ := h; injection h1 with h1; subst h1; exact h2) [] (by decide) (by decide)
  refine seg 4 [] [0] [(0, (.slice (some ⟨g502, 0, none⟩) [(Tile.mk 0 1 1 0), (Tile.mk 1 0 0 1)].length 2))] [] (fun fb => by kernel_rfl) rfl trivial ?_
  refine WL.done rfl ?_
  refine WX.next ?_
  refine WC.ret ?_
  injection hf with hf
  subst hf
  exact WX.ret_ [] (.slice (some ⟨g502, 0, none⟩) [(Tile.mk 0 1 1 0), (Tile.mk 1 0 0 1)].length 2) [] (fun fb => by kernel_rfl) trivial ⟨_, rfl, (some ⟨g502, 0, none⟩), 2, rfl, (hS506.sub [0] (by decide)).noR⟩
theorem tile_colour_1_calls (p0 : Int)  (r : Bool) (w : World)  (hf : tile_colour_1 p0 = some r) :
    CallsR Try.prog 80 #[(.int .i64 p0)] w (fun v w' => v = (.bool r) ∧ Keeps NoS w w') := by
  have hS : St NoS w w [] [] := St.init (ro_nil _ _)
  refine enter 9 Try.func80 rfl Try.ntmps80 rfl ?_
  unfold tile_colour_1 at hf
  refine WC.seq ?_
  refine WC.region ?_
  refine seg 1 [] [0] [(0, (.int .i64 p0))] [] (fun fb => by kernel_rfl) rfl trivial ?_
  refine WL.done rfl ?_
  refine WX.next ?_
  refine WC.seq ?_
  refine WC.region ?_
  refine seg 3 [] [0, 5] [(0, (.int .i64 p0)), (5, (.bool (decide (p0 < 0))))] [] (fun fb => by kernel_rfl) rfl trivial ?_
  refine WL.cutV (T := Bool) 6 (fun t => [(8, (.bool t))]) (fun t => ((decide (p0 < 0)) || (decide (p0 ≥ 1000))) = t) (fun K => ?_) ?_
  ·
    rcases Bool.eq_false_or_eq_true (decide (p0 < 0)) with h545 | h545
    ·
      refine WL.setB 5 h545 rfl ?_
      refine seg 6 [] [8] [(8, (.bool true))] [] (fun fb => by kernel_rfl) rfl trivial ?_
      exact WL.toV K true [8] rfl (by first | (rw [h545]; done) | (rw [h545]; rfl))
    refine WL.setB 5 h545 rfl ?_
    refine seg 6 [] [8] [(8, (.bool (decide (p0 ≥ 1000))))] [] (fun fb => by kernel_rfl) rfl trivial ?_
    exact WL.toV K (decide (p0 ≥ 1000)) [8] rfl (by first | (rw [h545]; done) | (rw [h545]; rfl))
  rintro b546 rfl
  refine seg 7 [] [2] [(2, (.bool ((decide (p0 < 0)) || (decide (p0 ≥ 1000)))))] [] (fun fb => by kernel_rfl) rfl trivial ?_
  refine WL.done rfl ?_
  refine WX.next ?_
  refine WC.ret ?_
  injection hf with hf
  subst hf
  exact WX.ret_ [] (.bool ((decide (p0 < 0)) || (decide (p0 ≥ 1000)))) [] (fun fb => by kernel_rfl) trivial ⟨_, rfl, rfl, hS.keep⟩
theorem slices_IndexFunc_int_int_with_tile_colour_1_calls (k : Nat) (p0 : List Int) (A_p0 : Option Addr) (c_p0 : Nat) (r : Int) (w : World) (hR0 : RO NoS w (rowR encInt A_p0 c_p0 p0)) (hf : slices_IndexFunc_int_int_with_tile_colour_1 k p0 = some r) :
    CallsR Try.prog 81 #[(.slice A_p0 p0.length c_p0), (.func (.func 80) #[] #[])] w (fun v w' => v = (.int .i64 r) ∧ Keeps NoS w w') := by
  have hS : St NoS w w [rowR encInt A_p0 c_p0 p0] [] := St.init (ro_cons hR0 (ro_nil _ _))
  refine enter 19 Try.func81 rfl Try.ntmps81 rfl ?_
  unfold slices_IndexFunc_int_int_with_tile_colour_1 at hf
  refine WC.seq ?_
  refine WC.region ?_
  refine seg 1 [] [0, 1] [(0, (.slice A_p0 p0.length c_p0)), (1, (.func (.func 80) #[] #[]))] [] (fun fb => by kernel_rfl) rfl trivial ?_
  refine WL.done rfl ?_
  refine WX.next ?_
  refine WC.seq ?_
  refine WC.seq ?_
  refine WC.region ?_
  refine seg 3 [] [0, 1, 7, 8] [(0, (.slice A_p0 p0.length c_p0)), (1, (.func (.func 80) #[] #[])), (7, (.int .i64 (p0.length : Int))), (8, (.int .i64 0))] [] (fun fb => by kernel_rfl) rfl trivial ?_
  refine WL.done rfl ?_
  refine WX.next ?_
  obtain ⟨x563, hx564, hf⟩ := bind_some hf
  refine WC.cutN (T := Unit) (fun t => []) (fun t w1 => St NoS w w1 [rowR encInt A_p0 c_p0 p0] [] ∧ x563 = .inr t) (fun Kx563 => ?_) ?_
  ·
    refine WC.block ?_
    refine WC.loop (T := Int) (fun t => [(0, (.slice A_p0 p0.length c_p0)), (1, (.func (.func 80) #[] #[])), (7, (.int .i64 (p0.length : Int))), (8, (.int .i64 t))]) (fun n t w1 => St NoS w w1 [rowR encInt A_p0 c_p0 p0] [] ∧ slices_IndexFunc_int_int_with_tile_colour_1.l0 n t p0 = some x563) k 0 [0, 1, 7, 8] rfl ⟨(hS.subR [0]).sub [] (by decide), hx564⟩ ?_
    rintro k565 x562 w566 ⟨hS567, hl568⟩
    cases k565 with
    | zero => rw [slices_IndexFunc_int_int_with_tile_colour_1.l0] at hl568; cases hl568
    | succ k565 =>
      rw [slices_IndexFunc_int_int_with_tile_colour_1.l0] at hl568
      refine WC.seq ?_
      refine WC.region ?_
      refine seg 1 [] [0, 1, 7, 8, 9] [(0, (.slice A_p0 p0.length c_p0)), (1, (.func (.func 80) #[] #[])), (7, (.int .i64 (p0.length : Int))), (8, (.int .i64 x562)), (9, (.bool (decide (x562 < (p0.length : Int)))))] [] (fun fb => by kernel_rfl) rfl trivial ?_
      refine WL.done rfl ?_
      refine WX.next ?_
      refine WC.seq ?_
      rcases br_some hl568 with ⟨h569, hl568⟩ | ⟨h569, hl568⟩
      · refine WC.condT2 (fun fb => by kernel_rfl) h569 ?_
        refine WC.skip ?_
        refine WX.next ?_
        refine WC.seq ?_
        refine WC.block ?_
        refine WC.seq ?_
        refine WC.region ?_
        refine seg 2 [] [0, 1, 5, 7, 8] [(0, (.slice A_p0 p0.length c_p0)), (1, (.func (.func 80) #[] #[])), (5, (.int .i64 x562)), (7, (.int .i64 (p0.length : Int))), (8, (.int .i64 x562))] [] (fun fb => by kernel_rfl) rfl trivial ?_
        refine WL.done rfl ?_
        refine WX.next ?_
        refine WC.seq ?_
        refine WC.region ?_
        refine seg 3 [] [0, 1, 5, 7, 8, 11, 12, 13] [(0, (.slice A_p0 p0.length c_p0)), (1, (.func (.func 80) #[] #[])), (5, (.int .i64 x562)), (7, (.int .i64 (p0.length : Int))), (8, (.int .i64 x562)), (11, (.func (.func 80) #[] #[])), (12, (.slice A_p0 p0.length c_p0)), (13, (.int .i64 x562))] [] (fun fb => by kernel_rfl) rfl trivial ?_
        obtain ⟨h570, hl568⟩ := as_some hl568
        refine seg 5 [.v (.int .i64 (rdD p0 x562 0))] [0, 1, 5, 7, 8, 11, 15] [(0, (.slice A_p0 p0.length c_p0)), (1, (.func (.func 80) #[] #[])), (5, (.int .i64 x562)), (7, (.int .i64 (p0.length : Int))), (8, (.int .i64 x562)), (11, (.func (.func 80) #[] #[])), (15, (.int .i64 (rdD p0 x562 0)))] [.idx A_p0 x562 p0.length, .cell ((adr A_p0).add ((x562).toNat * 1)) (.int .i64 (rdD p0 x562 0))] (fun fb => by kernel_rfl) rfl ⟨rowR.adr (hS567.rd 0).1 h570.1 h570.2, rowR.cell (hS567.rd 0).1 0 h570.1 h570.2 0 rfl, trivial⟩ ?_
        obtain ⟨t571, ht572, hl568⟩ := bind_some hl568
        refine WL.call (some 16) 80 #[(.int .i64 (rdD p0 x562 0))] (fun fb => by kernel_rfl) (tile_colour_1_calls (rdD p0 x562 0) t571 _ ht572) (fun v w573 hR574 => ?_)
        obtain ⟨rfl, hk_⟩ := hR574
        have hS575 := hS567.keepN hk_
        refine ⟨trivial, ?_⟩
        refine WL.done rfl ?_
        refine WX.next ?_
        rcases br_some hl568 with ⟨h576, hl568⟩ | ⟨h576, hl568⟩
        · refine WC.condT2 (fun fb => by kernel_rfl) h576 ?_
          refine WC.seq ?_
          refine WC.region ?_
          refine seg 2 [] [4] [(4, (.int .i64 x562))] [] (fun fb => by kernel_rfl) rfl trivial ?_
          refine WL.done rfl ?_
          refine WX.next ?_
          refine WC.ret ?_
          injection hl568 with hl568
          subst hl568
          injection hf with hf
          subst hf
          exact WX.blockR (WX.thenR (WX.thenR (WX.blockR (WX.thenR (WX.ret_ [] (.int .i64 x562) [] (fun fb => by kernel_rfl) trivial ⟨_, rfl, rfl, hS575.keep⟩)))))
        refine WC.condF2 (fun fb => by kernel_rfl) h576 ?_
        refine WC.skip ?_
        refine WX.blockN (WX.next ?_)
        refine WC.region ?_
        refine seg 2 [] [0, 1, 7, 8] [(0, (.slice A_p0 p0.length c_p0)), (1, (.func (.func 80) #[] #[])), (7, (.int .i64 (p0.length : Int))), (8, (.int .i64 (w64 (x562 + 1))))] [] (fun fb => by kernel_rfl) rfl trivial ?_
        refine WL.done rfl ?_
        exact WX.again k565 (Nat.lt_succ_self _) (w64 (x562 + 1)) [0, 1, 7, 8] rfl ⟨(hS575.subR [0]).sub [] (by decide), hl568⟩
      refine WC.condF2 (fun fb => by kernel_rfl) h569 ?_
      refine WC.exit ?_
      injection hl568 with hl568
      exact WX.thenX (WX.thenX (WX.blockHere (WX.to Kx563 () [] rfl ⟨(hS567.subR [0]).sub [] (by decide), hl568.symm⟩)))
  rintro y580 w577 ⟨hS578, hq579⟩
  subst hq579
  have hf := sum_inr hf
  refine WX.next ?_
  refine WC.seq ?_
  refine WC.region ?_
  refine seg 1 [] [4] [(4, (.int .i64 (-1)))] [] (fun fb => by kernel_rfl) rfl trivial ?_
  refine WL.done rfl ?_
  refine WX.next ?_
  refine WC.ret ?_
  injection hf with hf
  subst hf
  exact WX.ret_ [] (.int .i64 (-1)) [] (fun fb => by kernel_rfl) trivial ⟨_, rfl, rfl, hS578.keep⟩
theorem slices_ContainsFunc_int_int_with_tile_colour_1_calls (k : Nat) (p0 : List Int) (A_p0 : Option Addr) (c_p0 : Nat) (r : Bool) (w : World) (hR0 : RO NoS w (rowR encInt A_p0 c_p0 p0)) (hf : slices_ContainsFunc_int_int_with_tile_colour_1 k p0 = some r) :
    CallsR Try.prog 65 #[(.slice A_p0 p0.length c_p0), (.func (.func 80) #[] #[])] w (fun v w' => v = (.bool r) ∧ Keeps NoS w w') := by
  have hS : St NoS w w [rowR encInt A_p0 c_p0 p0] [] := St.init (ro_cons hR0 (ro_nil _ _))
  refine enter 9 Try.func65 rfl Try.ntmps65 rfl ?_
  unfold slices_ContainsFunc_int_int_with_tile_colour_1 at hf
  refine WC.seq ?_
  refine WC.region ?_
  refine seg 1 [] [0, 1] [(0, (.slice A_p0 p0.length c_p0)), (1, (.func (.func 80) #[] #[]))] [] (fun fb => by kernel_rfl) rfl trivial ?_
  refine WL.done rfl ?_
  refine WX.next ?_
  refine WC.seq ?_
  refine WC.region ?_
  refine seg 2 [] [5, 6] [(5, (.slice A_p0 p0.length c_p0)), (6, (.func (.func 80) #[] #[]))] [] (fun fb => by kernel_rfl) rfl trivial ?_
  obtain ⟨t582, ht583, hf⟩ := bind_some hf
  refine WL.call (some 7) 81 #[(.slice A_p0 p0.length c_p0), (.func (.func 80) #[] #[])] (fun fb => by kernel_rfl) (slices_IndexFunc_int_int_with_tile_colour_1_calls _ p0 A_p0 c_p0 t582 _ (hS.rd 0) ht583) (fun v w584 hR585 => ?_)
  obtain ⟨rfl, hk_⟩ := hR585
  have hS586 := hS.keepN hk_
  refine ⟨trivial, ?_⟩
  refine seg 5 [] [4] [(4, (.bool (decide (t582 ≥ 0))))] [] (fun fb => by kernel_rfl) rfl trivial ?_
  refine WL.done rfl ?_
  refine WX.next ?_
  refine WC.ret ?_
  injection hf with hf
  subst hf
  exact WX.ret_ [] (.bool (decide (t582 ≥ 0))) [] (fun fb => by kernel_rfl) trivial ⟨_, rfl, rfl, hS586.keep⟩
theorem tile_colour_calls (k : Nat) (p0 : List Int) (A_p0 : Option Addr) (c_p0 : Nat) (r : Bool) (w : World) (hR0 : RO NoS w (rowR encInt A_p0 c_p0 p0)) (hf : tile_colour k p0 = some r) :
    CallsR Try.prog 59 #[(.slice A_p0 p0.length c_p0)] w (fun v w' => v = (.bool r) ∧ Keeps NoS w w') := by
  have hS : St NoS w w [rowR encInt A_p0 c_p0 p0] [] := St.init (ro_cons hR0 (ro_nil _ _))
  refine enter 6 Try.func59 rfl Try.ntmps59 rfl ?_
  unfold tile_colour at hf
  refine WC.seq ?_
  refine WC.region ?_
  refine seg 1 [] [0] [(0, (.slice A_p0 p0.length c_p0))] [] (fun fb => by kernel_rfl) rfl trivial ?_
  refine WL.done rfl ?_
  refine WX.next ?_
  refine WC.seq ?_
  refine WC.region ?_
  refine seg 1 [] [3] [(3, (.slice A_p0 p0.length c_p0))] [] (fun fb => by kernel_rfl) rfl trivial ?_
  obtain ⟨t587, ht588, hf⟩ := bind_some hf
  refine WL.call (some 4) 65 #[(.slice A_p0 p0.length c_p0), (.func (.func 80) #[] #[])] (fun fb => by kernel_rfl) (slices_ContainsFunc_int_int_with_tile_colour_1_calls _ p0 A_p0 c_p0 t587 _ (hS.rd 0) ht588) (fun v w589 hR590 => ?_)
  obtain ⟨rfl, hk_⟩ := hR590
  have hS591 := hS.keepN hk_
  refine ⟨trivial, ?_⟩
  refine seg 4 [] [2] [(2, (.bool (!t587)))] [] (fun fb => by kernel_rfl) rfl trivial ?_
  refine WL.done rfl ?_
  refine WX.next ?_
  refine WC.ret ?_
  injection hf with hf
  subst hf
  exact WX.ret_ [] (.bool (!t587)) [] (fun fb => by kernel_rfl) trivial ⟨_, rfl, rfl, hS591.keep⟩
theorem tile_Valid_key24 : KeyK Try.prog 24 (aggI ints_Tile) := KeyK.struct (n := 4) (by kernel_rfl) ints_Tile (fun _ => rfl) (fun x y h => by cases x; cases y; simp only [ints_Tile, List.cons.injEq, and_true] at h; obtain ⟨rfl, rfl, rfl, rfl⟩ := h; rfl)
theorem tile_Valid_calls (k : Nat) (p0 : List Tile) (A_p0 : Option Addr) (c_p0 : Nat) (r : Bool) (w : World) (hR0 : RO NoS w (rowR enc_Tile A_p0 c_p0 p0)) (hf : tile_Valid k p0 = some r) :
    CallsR Try.prog 38 #[(.slice A_p0 p0.length c_p0)] w (fun v w' => v = (.bool r) ∧ Keeps NoS w w') := by
  have hS : St NoS w w [rowR enc_Tile A_p0 c_p0 p0] [] := St.init (ro_cons hR0 (ro_nil _ _))
  refine enter 35 Try.func38 rfl Try.ntmps38 rfl ?_
  unfold tile_Valid at hf
  refine WC.seq ?_
  refine WC.region ?_
  refine seg 1 [] [0] [(0, (.slice A_p0 p0.length c_p0))] [] (fun fb => by kernel_rfl) rfl trivial ?_
  refine WL.done rfl ?_
  refine WX.next ?_
  refine WC.seq ?_
  refine WC.seq ?_
  refine WC.region ?_
  refine seg 3 [] [0, 8] [(0, (.slice A_p0 p0.length c_p0)), (8, (.bool (decide ((p0.length : Int) > 1000))))] [] (fun fb => by kernel_rfl) rfl trivial ?_
  refine WL.done rfl ?_
  refine WX.next ?_
  rcases br_some hf with ⟨h526, hf⟩ | ⟨h526, hf⟩
  · refine WC.condT2 (fun fb => by kernel_rfl) h526 ?_
    refine WC.seq ?_
    refine WC.region ?_
    refine seg 1 [] [2] [(2, (.bool false))] [] (fun fb => by kernel_rfl) rfl trivial ?_
    refine WL.done rfl ?_
    refine WX.next ?_
    refine WC.ret ?_
    injection hf with hf
    subst hf
    exact WX.thenR (WX.ret_ [] (.bool false) [] (fun fb => by kernel_rfl) trivial ⟨_, rfl, rfl, hS.keep⟩)
  refine WC.condF2 (fun fb => by kernel_rfl) h526 ?_
  refine WC.skip ?_
  refine WX.next ?_
  refine WC.seq ?_
  refine WC.region ?_
  refine WL.new hS 9 [] (fun g => (.map (some g))) (mapObj (aggI ints_Tile) vB ([] : List (Tile × Bool))) [] (fun fb g => by kernel_rfl) trivial (fun g527 w528 hS529 => ?_)
  refine ⟨trivial, ?_⟩
  refine seg 2 [] [0, 3] [(0, (.slice A_p0 p0.length c_p0)), (3, (.map (some g527)))] [] (fun fb => by kernel_rfl) rfl trivial ?_
  refine WL.done rfl ?_
  refine WX.next ?_
  refine WC.seq ?_
  refine WC.seq ?_
  refine WC.region ?_
  refine seg 3 [] [3, 10, 11, 12] [(3, (.map (some g527))), (10, (.slice A_p0 p0.length c_p0)), (11, (.int .i64 (p0.length : Int))), (12, (.int .i64 0))] [] (fun fb => by kernel_rfl) rfl trivial ?_
  refine WL.done rfl ?_
  refine WX.next ?_
  obtain ⟨x663, hx664, hf⟩ := bind_some hf
  refine WC.cutN (T := Unit) (fun t => []) (fun t w1 => St NoS w w1 [rowR enc_Tile A_p0 c_p0 p0] [] ∧ x663 = .inr t) (fun Kx663 => ?_) ?_
  ·
    refine WC.block ?_
    refine WC.loop (T := (List (Tile × Bool)) × Int) (fun t => [(3, (.map (some g527))), (10, (.slice A_p0 p0.length c_p0)), (11, (.int .i64 (p0.length : Int))), (12, (.int .i64 t.2))]) (fun n t w1 => St NoS w w1 [rowR enc_Tile A_p0 c_p0 p0] [blk g527 (mapObj (aggI ints_Tile) vB t.1)] ∧ tile_Valid.l0 n t.1 t.2 p0 = some x663) k (([] : List (Tile × Bool)), 0) [3, 10, 11, 12] rfl ⟨(hS529.subR [0]).sub [0] (by decide), hx664⟩ ?_
    rintro k665 ⟨l661, x662⟩ w666 ⟨hS667, hl668⟩
    cases k665 with
    | zero => rw [tile_Valid.l0] at hl668; cases hl668
    | succ k665 =>
      rw [tile_Valid.l0] at hl668
      refine WC.seq ?_
      refine WC.region ?_
      refine seg 1 [] [3, 10, 11, 12, 13] [(3, (.map (some g527))), (10, (.slice A_p0 p0.length c_p0)), (11, (.int .i64 (p0.length : Int))), (12, (.int .i64 x662)), (13, (.bool (decide (x662 < (p0.length : Int)))))] [] (fun fb => by kernel_rfl) rfl trivial ?_
      refine WL.done rfl ?_
      refine WX.next ?_
      refine WC.seq ?_
      rcases br_some hl668 with ⟨h669, hl668⟩ | ⟨h669, hl668⟩
      · refine WC.condT2 (fun fb => by kernel_rfl) h669 ?_
        refine WC.skip ?_
        refine WX.next ?_
        refine WC.seq ?_
        refine WC.block ?_
        refine WC.seq ?_
        refine WC.region ?_
        obtain ⟨h670, hl668⟩ := as_some hl668
        refine seg 2 [.v (.int .i64 ((rdD p0 x662 z_Tile).N)), .v (.int .i64 ((rdD p0 x662 z_Tile).E)), .v (.int .i64 ((rdD p0 x662 z_Tile).S)), .v (.int .i64 ((rdD p0 x662 z_Tile).W))] [3, 10, 11, 12, 15] [(3, (.map (some g527))), (10, (.slice A_p0 p0.length c_p0)), (11, (.int .i64 (p0.length : Int))), (12, (.int .i64 x662)), (15, (.agg #[(.int .i64 ((rdD p0 x662 z_Tile).N)), (.int .i64 ((rdD p0 x662 z_Tile).E)), (.int .i64 ((rdD p0 x662 z_Tile).S)), (.int .i64 ((rdD p0 x662 z_Tile).W))]))] [.idx A_p0 x662 p0.length, .cell ((adr A_p0).add ((x662).toNat * 4)) (.int .i64 ((rdD p0 x662 z_Tile).N)), .cell (((adr A_p0).add ((x662).toNat * 4)).add 1) (.int .i64 ((rdD p0 x662 z_Tile).E)), .cell (((adr A_p0).add ((x662).toNat * 4)).add 2) (.int .i64 ((rdD p0 x662 z_Tile).S)), .cell (((adr A_p0).add ((x662).toNat * 4)).add 3) (.int .i64 ((rdD p0 x662 z_Tile).W))] (fun fb => by kernel_rfl) rfl ⟨rowR.adr (hS667.rd 0).1 h670.1 h670.2, rowR.cell (hS667.rd 0).1 z_Tile h670.1 h670.2 0 rfl, rowR.cell (hS667.rd 0).1 z_Tile h670.1 h670.2 1 rfl, rowR.cell (hS667.rd 0).1 z_Tile h670.1 h670.2 2 rfl, rowR.cell (hS667.rd 0).1 z_Tile h670.1 h670.2 3 rfl, trivial⟩ ?_
        refine WL.new hS667 5 [] (fun g => (.pointer (some ⟨g, 0, none⟩))) (.cells #[(.int .i64 0), (.int .i64 0), (.int .i64 0), (.int .i64 0)] 24 (0, 0)) [] (fun fb g => by kernel_rfl) trivial (fun g671 w672 hS673 => ?_)
        refine ⟨trivial, ?_⟩
        refine WL.store hS673 0 rfl [(0, (.int .i64 ((rdD p0 x662 z_Tile).N))), (1, (.int .i64 ((rdD p0 x662 z_Tile).E))), (2, (.int .i64 ((rdD p0 x662 z_Tile).S))), (3, (.int .i64 ((rdD p0 x662 z_Tile).W)))] #[(.int .i64 ((rdD p0 x662 z_Tile).N)), (.int .i64 ((rdD p0 x662 z_Tile).E)), (.int .i64 ((rdD p0 x662 z_Tile).S)), (.int .i64 ((rdD p0 x662 z_Tile).W))] (fun fb => by kernel_rfl) (by kernel_rfl) rfl [1] (by decide) (by decide) (fun w675 hS676 => ?_)
        refine ⟨trivial, ?_⟩
        refine WL.done rfl ?_
        refine WX.next ?_
        refine WC.seq ?_
        refine WC.seq ?_
        refine WC.region ?_
        refine seg 2 [.v (.int .i64 ((rdD p0 x662 z_Tile).N)), .v (.int .i64 ((rdD p0 x662 z_Tile).E)), .v (.int .i64 ((rdD p0 x662 z_Tile).S)), .v (.int .i64 ((rdD p0 x662 z_Tile).W))] [3, 5, 10, 11, 12, 16, 17] [(3, (.map (some g527))), (5, (.pointer (some ⟨g671, 0, none⟩))), (10, (.slice A_p0 p0.length c_p0)), (11, (.int .i64 (p0.length : Int))), (12, (.int .i64 x662)), (16, (.map (some g527))), (17, (.agg #[(.int .i64 ((rdD p0 x662 z_Tile).N)), (.int .i64 ((rdD p0 x662 z_Tile).E)), (.int .i64 ((rdD p0 x662 z_Tile).S)), (.int .i64 ((rdD p0 x662 z_Tile).W))]))] [.cell ⟨g671, 0, none⟩ (.int .i64 ((rdD p0 x662 z_Tile).N)), .cell ⟨g671, 1, none⟩ (.int .i64 ((rdD p0 x662 z_Tile).E)), .cell ⟨g671, 2, none⟩ (.int .i64 ((rdD p0 x662 z_Tile).S)), .cell ⟨g671, 3, none⟩ (.int .i64 ((rdD p0 x662 z_Tile).W))] (fun fb => by kernel_rfl) rfl ⟨hS676.cell 0 rfl 0 rfl, hS676.cell 0 rfl 1 rfl, hS676.cell 0 rfl 2 rfl, hS676.cell 0 rfl 3 rfl, trivial⟩ ?_
        refine WL.lookup (hS676.own 1).1 (rdD p0 x662 z_Tile) (d := 18) (c := false) (t := 100) (kT := 24) (eT := 4) (z := false) (kE := (aggI ints_Tile)) (vE := vB) (l := l661) (.bool (mget (rdD p0 x662 z_Tile) false l661)) (fun fb => by kernel_rfl) tile_Valid_key24 (by kernel_rfl) (fun _ => by kernel_rfl) rfl ?_
        refine ⟨trivial, ?_⟩
        refine seg 4 [] [3, 5, 10, 11, 12, 19] [(3, (.map (some g527))), (5, (.pointer (some ⟨g671, 0, none⟩))), (10, (.slice A_p0 p0.length c_p0)), (11, (.int .i64 (p0.length : Int))), (12, (.int .i64 x662)), (19, (.bool (mget (rdD p0 x662 z_Tile) false l661)))] [] (fun fb => by kernel_rfl) rfl trivial ?_
        obtain ⟨x688, hx689, hl668⟩ := bind_some hl668
        refine WL.cutW (T := Bool) 16 (fun t => [(3, (.map (some g527))), (5, (.pointer (some ⟨g671, 0, none⟩))), (10, (.slice A_p0 p0.length c_p0)), (11, (.int .i64 (p0.length : Int))), (12, (.int .i64 x662)), (31, (.bool t))]) (fun t w1 => (St NoS w w1 [rowR enc_Tile A_p0 c_p0 p0] [blk g527 (mapObj (aggI ints_Tile) vB l661), blk g671 (.cells #[(.int .i64 ((rdD p0 x662 z_Tile).N)), (.int .i64 ((rdD p0 x662 z_Tile).E)), (.int .i64 ((rdD p0 x662 z_Tile).S)), (.int .i64 ((rdD p0 x662 z_Tile).W))] 24 (0, 0))] ∧ x688 = t) ∧ CellsOK [] w1) (fun K => ?_) ?_
        ·
          rcases br_some hx689 with ⟨h690, hx689⟩ | ⟨h690, hx689⟩
          ·
            refine WL.setB 19 h690 rfl ?_
            refine seg 16 [] [3, 5, 10, 11, 12, 31] [(3, (.map (some g527))), (5, (.pointer (some ⟨g671, 0, none⟩))), (10, (.slice A_p0 p0.length c_p0)), (11, (.int .i64 (p0.length : Int))), (12, (.int .i64 x662)), (31, (.bool true))] [] (fun fb => by kernel_rfl) rfl trivial ?_
            injection hx689 with hx689
            exact WL.to K true [3, 5, 10, 11, 12, 31] rfl ⟨⟨(hS676.subR [0]).sub [1, 0] (by decide), hx689.symm⟩, trivial⟩
          refine WL.setB 19 h690 rfl ?_
          refine seg 12 [.v (.int .i64 ((rdD p0 x662 z_Tile).N)), .v (.int .i64 ((rdD p0 x662 z_Tile).E)), .v (.int .i64 ((rdD p0 x662 z_Tile).S)), .v (.int .i64 ((rdD p0 x662 z_Tile).W))] [3, 5, 10, 11, 12, 19, 21, 23, 25, 27] [(3, (.map (some g527))), (5, (.pointer (some ⟨g671, 0, none⟩))), (10, (.slice A_p0 p0.length c_p0)), (11, (.int .i64 (p0.length : Int))), (12, (.int .i64 x662)), (19, (.bool false)), (21, (.int .i64 ((rdD p0 x662 z_Tile).N))), (23, (.int .i64 ((rdD p0 x662 z_Tile).E))), (25, (.int .i64 ((rdD p0 x662 z_Tile).S))), (27, (.int .i64 ((rdD p0 x662 z_Tile).W)))] [.cell ⟨g671, 0, none⟩ (.int .i64 ((rdD p0 x662 z_Tile).N)), .cell ⟨g671, 1, none⟩ (.int .i64 ((rdD p0 x662 z_Tile).E)), .cell ⟨g671, 2, none⟩ (.int .i64 ((rdD p0 x662 z_Tile).S)), .cell ⟨g671, 3, none⟩ (.int .i64 ((rdD p0 x662 z_Tile).W))] (fun fb => by kernel_rfl) rfl ⟨hS676.cell 0 rfl 0 rfl, hS676.cell 0 rfl 1 rfl, hS676.cell 0 rfl 2 rfl, hS676.cell 0 rfl 3 rfl, trivial⟩ ?_
          refine WL.new hS676 28 [] (fun g => (.slice (some ⟨g, 0, none⟩) 4 4)) (.cells #[(.int .i64 ((rdD p0 x662 z_Tile).N)), (.int .i64 ((rdD p0 x662 z_Tile).E)), (.int .i64 ((rdD p0 x662 z_Tile).S)), (.int .i64 ((rdD p0 x662 z_Tile).W))] 3 (0, 0)) [] (fun fb g => by kernel_rfl) trivial (fun g691 w692 hS693 => ?_)
          refine ⟨trivial, ?_⟩
          have hS695 : St NoS w w692 [rowR enc_Tile A_p0 c_p0 p0] [rowO 3 encInt (some ⟨g691, 0, none⟩) 4 [(rdD p0 x662 z_Tile).N, (rdD p0 x662 z_Tile).E, (rdD p0 x662 z_Tile).S, (rdD p0 x662 z_Tile).W], blk g671 (.cells #[(.int .i64 ((rdD p0 x662 z_Tile).N)), (.int .i64 ((rdD p0 x662 z_Tile).E)), (.int .i64 ((rdD p0 x662 z_Tile).S)), (.int .i64 ((rdD p0 x662 z_Tile).W))] 24 (0, 0)), blk g527 (mapObj (aggI ints_Tile) vB l661)] := hS693.map1 0 _ (fun h => rowO.ofBlk h rfl (Nat.le_of_ble_eq_true (by kernel_rfl))) (fun _ h => by obtain ⟨_, h1, h2⟩ := h; injection h1 with h1; subst h1; exact h2) [1, 2] (by decide) (by decide)
          obtain ⟨t696, ht697, hx689⟩ := bind_some hx689
          refine WL.call (some 29) 59 #[(.slice (some ⟨g691, 0, none⟩) [(rdD p0 x662 z_Tile).N, (rdD p0 x662 z_Tile).E, (rdD p0 x662 z_Tile).S, (rdD p0 x662 z_Tile).W].length 4)] (fun fb => by kernel_rfl) (tile_colour_calls _ [(rdD p0 x662 z_Tile).N, (rdD p0 x662 z_Tile).E, (rdD p0 x662 z_Tile).S, (rdD p0 x662 z_Tile).W] (some ⟨g691, 0, none⟩) 4 t696 _ (hS695.ow 0).ofO ht697) (fun v w698 hR699 => ?_)
          obtain ⟨rfl, hk_⟩ := hR699
          have hS700 := hS695.keepN hk_
          refine ⟨trivial, ?_⟩
          refine seg 16 [] [3, 5, 10, 11, 12, 31] [(3, (.map (some g527))), (5, (.pointer (some ⟨g671, 0, none⟩))), (10, (.slice A_p0 p0.length c_p0)), (11, (.int .i64 (p0.length : Int))), (12, (.int .i64 x662)), (31, (.bool (!t696)))] [] (fun fb => by kernel_rfl) rfl trivial ?_
          injection hx689 with hx689
          exact WL.to K (!t696) [3, 5, 10, 11, 12, 31] rfl ⟨⟨(hS700.subR [0]).sub [2, 1] (by decide), hx689.symm⟩, trivial⟩
        rintro y701 w703 ⟨⟨hS704, hq702⟩, hF705⟩
        subst hq702
        refine WL.done rfl ?_
        refine WX.next ?_
        rcases br_some hl668 with ⟨h706, hl668⟩ | ⟨h706, hl668⟩
        · refine WC.condT2 (fun fb => by kernel_rfl) h706 ?_
          refine WC.seq ?_
          refine WC.region ?_
          refine seg 1 [] [2] [(2, (.bool false))] [] (fun fb => by kernel_rfl) rfl trivial ?_
          refine WL.done rfl ?_
          refine WX.next ?_
          refine WC.ret ?_
          injection hl668 with hl668
          subst hl668
          injection hf with hf
          subst hf
          exact WX.thenR (WX.blockR (WX.thenR (WX.thenR (WX.blockR (WX.thenR (WX.ret_ [] (.bool false) [] (fun fb => by kernel_rfl) trivial ⟨_, rfl, rfl, hS704.keep⟩))))))
        refine WC.condF2 (fun fb => by kernel_rfl) h706 ?_
        refine WC.skip ?_
        refine WX.next ?_
        refine WC.region ?_
        refine seg 2 [.v (.int .i64 ((rdD p0 x662 z_Tile).N)), .v (.int .i64 ((rdD p0 x662 z_Tile).E)), .v (.int .i64 ((rdD p0 x662 z_Tile).S)), .v (.int .i64 ((rdD p0 x662 z_Tile).W))] [3, 10, 11, 12, 32, 33] [(3, (.map (some g527))), (10, (.slice A_p0 p0.length c_p0)), (11, (.int .i64 (p0.length : Int))), (12, (.int .i64 x662)), (32, (.map (some g527))), (33, (.agg #[(.int .i64 ((rdD p0 x662 z_Tile).N)), (.int .i64 ((rdD p0 x662 z_Tile).E)), (.int .i64 ((rdD p0 x662 z_Tile).S)), (.int .i64 ((rdD p0 x662 z_Tile).W))]))] [.cell ⟨g671, 0, none⟩ (.int .i64 ((rdD p0 x662 z_Tile).N)), .cell ⟨g671, 1, none⟩ (.int .i64 ((rdD p0 x662 z_Tile).E)), .cell ⟨g671, 2, none⟩ (.int .i64 ((rdD p0 x662 z_Tile).S)), .cell ⟨g671, 3, none⟩ (.int .i64 ((rdD p0 x662 z_Tile).W))] (fun fb => by kernel_rfl) rfl ⟨hS704.cell 1 rfl 0 rfl, hS704.cell 1 rfl 1 rfl, hS704.cell 1 rfl 2 rfl, hS704.cell 1 rfl 3 rfl, trivial⟩ ?_
        refine WL.mapput hS704 0 (t := 100) (kT := 24) (eT := 4) (kE := (aggI ints_Tile)) (vE := vB) (l := l661) rfl (rdD p0 x662 z_Tile) true (fun fb => by kernel_rfl) tile_Valid_key24 (by kernel_rfl) [1] (by decide) (by decide) (fun w707 hS708 => ?_)
        refine ⟨trivial, ?_⟩
        refine WL.done rfl ?_
        refine WX.blockN (WX.next ?_)
        refine WC.region ?_
        refine seg 2 [] [3, 10, 11, 12] [(3, (.map (some g527))), (10, (.slice A_p0 p0.length c_p0)), (11, (.int .i64 (p0.length : Int))), (12, (.int .i64 (w64 (x662 + 1))))] [] (fun fb => by kernel_rfl) rfl trivial ?_
        refine WL.done rfl ?_
        exact WX.again k665 (Nat.lt_succ_self _) (mput (rdD p0 x662 z_Tile) true l661, w64 (x662 + 1)) [3, 10, 11, 12] rfl ⟨(hS708.subR [0]).sub [0] (by decide), hl668⟩
      refine WC.condF2 (fun fb => by kernel_rfl) h669 ?_
      refine WC.exit ?_
      injection hl668 with hl668
      exact WX.thenX (WX.thenX (WX.blockHere (WX.to Kx663 () [] rfl ⟨(hS667.subR [0]).sub [] (by decide), hl668.symm⟩)))
  rintro y712 w709 ⟨hS710, hq711⟩
  subst hq711
  have hf := sum_inr hf
  refine WX.next ?_
  refine WC.seq ?_
  refine WC.region ?_
  refine seg 1 [] [2] [(2, (.bool true))] [] (fun fb => by kernel_rfl) rfl trivial ?_
  refine WL.done rfl ?_
  refine WX.next ?_
  refine WC.ret ?_
  injection hf with hf
  subst hf
  exact WX.ret_ [] (.bool true) [] (fun fb => by kernel_rfl) trivial ⟨_, rfl, rfl, hS710.keep⟩
theorem tile_of_1_calls (p0 : Int) (f0 : List Tile) (g_f0 : Nat) (A_f0 : Option Addr) (c_f0 : Nat) (r : Bool) (w : World) (hR0 : RO NoS w (blk g_f0 (.cells #[(.slice A_f0 f0.length c_f0)] 22 (0, 0)))) (hR1 : RO NoS w (rowR enc_Tile A_f0 c_f0 f0)) (hf : tile_of_1 p0 f0 = some r) :
    CallsR Try.prog 66 #[(.int .i64 p0), (.pointer (some ⟨g_f0, 0, none⟩))] w (fun v w' => v = (.bool r) ∧ Keeps NoS w w') := by
  have hS : St NoS w w [blk g_f0 (.cells #[(.slice A_f0 f0.length c_f0)] 22 (0, 0)), rowR enc_Tile A_f0 c_f0 f0] [] := St.init (ro_cons hR0 (ro_cons hR1 (ro_nil _ _)))
  refine enter 12 Try.func66 rfl Try.ntmps66 rfl ?_
  unfold tile_of_1 at hf
  refine WC.seq ?_
  refine WC.region ?_
  refine seg 1 [] [0, 1] [(0, (.int .i64 p0)), (1, (.pointer (some ⟨g_f0, 0, none⟩)))] [] (fun fb => by kernel_rfl) rfl trivial ?_
  refine WL.done rfl ?_
  refine WX.next ?_
  refine WC.seq ?_
  refine WC.region ?_
  refine seg 3 [] [0, 1, 6] [(0, (.int .i64 p0)), (1, (.pointer (some ⟨g_f0, 0, none⟩))), (6, (.bool (decide (p0 < 0))))] [] (fun fb => by kernel_rfl) rfl trivial ?_
  refine WL.cutV (T := Bool) 8 (fun t => [(11, (.bool t))]) (fun t => ((decide (p0 < 0)) || (decide (p0 ≥ (f0.length : Int)))) = t) (fun K => ?_) ?_
  ·
    rcases Bool.eq_false_or_eq_true (decide (p0 < 0)) with h740 | h740
    ·
      refine WL.setB 6 h740 rfl ?_
      refine seg 8 [] [11] [(11, (.bool true))] [] (fun fb => by kernel_rfl) rfl trivial ?_
      exact WL.toV K true [11] rfl (by first | (rw [h740]; done) | (rw [h740]; rfl))
    refine WL.setB 6 h740 rfl ?_
    refine seg 8 [.v (.slice A_f0 f0.length c_f0)] [11] [(11, (.bool (decide (p0 ≥ (f0.length : Int)))))] [.cell ⟨g_f0, 0, none⟩ (.slice A_f0 f0.length c_f0)] (fun fb => by kernel_rfl) rfl ⟨blk_cell (hS.rd 0).1 0 rfl, trivial⟩ ?_
    exact WL.toV K (decide (p0 ≥ (f0.length : Int))) [11] rfl (by first | (rw [h740]; done) | (rw [h740]; rfl))
  rintro b741 rfl
  refine seg 9 [] [3] [(3, (.bool ((decide (p0 < 0)) || (decide (p0 ≥ (f0.length : Int))))))] [] (fun fb => by kernel_rfl) rfl trivial ?_
  refine WL.done rfl ?_
  refine WX.next ?_
  refine WC.ret ?_
  injection hf with hf
  subst hf
  exact WX.ret_ [] (.bool ((decide (p0 < 0)) || (decide (p0 ≥ (f0.length : Int))))) [] (fun fb => by kernel_rfl) trivial ⟨_, rfl, rfl, hS.keep⟩
theorem slices_IndexFunc_int_int_with_tile_of_1_calls (k : Nat) (p0 : List Int) (p1_0 : List Tile) (A_p0 : Option Addr) (c_p0 : Nat) (g_p1_0 : Nat) (A_p1_0 : Option Addr) (c_p1_0 : Nat) (r : Int) (w : World) (hR0 : RO NoS w (rowR encInt A_p0 c_p0 p0)) (hR1 : RO NoS w (blk g_p1_0 (.cells #[(.slice A_p1_0 p1_0.length c_p1_0)] 22 (0, 0)))) (hR2 : RO NoS w (rowR enc_Tile A_p1_0 c_p1_0 p1_0)) (hf : slices_IndexFunc_int_int_with_tile_of_1 k p0 p1_0 = some r) :
    CallsR Try.prog 81 #[(.slice A_p0 p0.length c_p0), (.func (.func 66) #[] #[(.pointer (some ⟨g_p1_0, 0, none⟩))])] w (fun v w' => v = (.int .i64 r) ∧ Keeps NoS w w') := by
  have hS : St NoS w w [rowR encInt A_p0 c_p0 p0, blk g_p1_0 (.cells #[(.slice A_p1_0 p1_0.length c_p1_0)] 22 (0, 0)), rowR enc_Tile A_p1_0 c_p1_0 p1_0] [] := St.init (ro_cons hR0 (ro_cons hR1 (ro_cons hR2 (ro_nil _ _))))
  refine enter 19 Try.func81 rfl Try.ntmps81 rfl ?_
  unfold slices_IndexFunc_int_int_with_tile_of_1 at hf
  refine WC.seq ?_
  refine WC.region ?_
  refine seg 1 [] [0, 1] [(0, (.slice A_p0 p0.length c_p0)), (1, (.func (.func 66) #[] #[(.pointer (some ⟨g_p1_0, 0, none⟩))]))] [] (fun fb => by kernel_rfl) rfl trivial ?_
  refine WL.done rfl ?_
  refine WX.next ?_
  refine WC.seq ?_
  refine WC.seq ?_
  refine WC.region ?_
  refine seg 3 [] [0, 1, 7, 8] [(0, (.slice A_p0 p0.length c_p0)), (1, (.func (.func 66) #[] #[(.pointer (some ⟨g_p1_0, 0, none⟩))])), (7, (.int .i64 (p0.length : Int))), (8, (.int .i64 0))] [] (fun fb => by kernel_rfl) rfl trivial ?_
  refine WL.done rfl ?_
  refine WX.next ?_
  obtain ⟨x758, hx759, hf⟩ := bind_some hf
  refine WC.cutN (T := Unit) (fun t => []) (fun t w1 => St NoS w w1 [rowR encInt A_p0 c_p0 p0, blk g_p1_0 (.cells #[(.slice A_p1_0 p1_0.length c_p1_0)] 22 (0, 0)), rowR enc_Tile A_p1_0 c_p1_0 p1_0] [] ∧ x758 = .inr t) (fun Kx758 => ?_) ?_
  ·
    refine WC.block ?_
    refine WC.loop (T := Int) (fun t => [(0, (.slice A_p0 p0.length c_p0)), (1, (.func (.func 66) #[] #[(.pointer (some ⟨g_p1_0, 0, none⟩))])), (7, (.int .i64 (p0.length : Int))), (8, (.int .i64 t))]) (fun n t w1 => St NoS w w1 [rowR encInt A_p0 c_p0 p0, blk g_p1_0 (.cells #[(.slice A_p1_0 p1_0.length c_p1_0)] 22 (0, 0)), rowR enc_Tile A_p1_0 c_p1_0 p1_0] [] ∧ slices_IndexFunc_int_int_with_tile_of_1.l0 n t p0 p1_0 = some x758) k 0 [0, 1, 7, 8] rfl ⟨(hS.subR [0, 1, 2]).sub [] (by decide), hx759⟩ ?_
    rintro k760 x757 w761 ⟨hS762, hl763⟩
    cases k760 with
    | zero => rw [slices_IndexFunc_int_int_with_tile_of_1.l0] at hl763; cases hl763
    | succ k760 =>
      rw [slices_IndexFunc_int_int_with_tile_of_1.l0] at hl763
      refine WC.seq ?_
      refine WC.region ?_
      refine seg 1 [] [0, 1, 7, 8, 9] [(0, (.slice A_p0 p0.length c_p0)), (1, (.func (.func 66) #[] #[(.pointer (some ⟨g_p1_0, 0, none⟩))])), (7, (.int .i64 (p0.length : Int))), (8, (.int .i64 x757)), (9, (.bool (decide (x757 < (p0.length : Int)))))] [] (fun fb => by kernel_rfl) rfl trivial ?_
      refine WL.done rfl ?_
      refine WX.next ?_
      refine WC.seq ?_
      rcases br_some hl763 with ⟨h764, hl763⟩ | ⟨h764, hl763⟩
      · refine WC.condT2 (fun fb => by kernel_rfl) h764 ?_
        refine WC.skip ?_
        refine WX.next ?_
        refine WC.seq ?_
        refine WC.block ?_
        refine WC.seq ?_
        refine WC.region ?_
        refine seg 2 [] [0, 1, 5, 7, 8] [(0, (.slice A_p0 p0.length c_p0)), (1, (.func (.func 66) #[] #[(.pointer (some ⟨g_p1_0, 0, none⟩))])), (5, (.int .i64 x757)), (7, (.int .i64 (p0.length : Int))), (8, (.int .i64 x757))] [] (fun fb => by kernel_rfl) rfl trivial ?_
        refine WL.done rfl ?_
        refine WX.next ?_
        refine WC.seq ?_
        refine WC.region ?_
        refine seg 3 [] [0, 1, 5, 7, 8, 11, 12, 13] [(0, (.slice A_p0 p0.length c_p0)), (1, (.func (.func 66) #[] #[(.pointer (some ⟨g_p1_0, 0, none⟩))])), (5, (.int .i64 x757)), (7, (.int .i64 (p0.length : Int))), (8, (.int .i64 x757)), (11, (.func (.func 66) #[] #[(.pointer (some ⟨g_p1_0, 0, none⟩))])), (12, (.slice A_p0 p0.length c_p0)), (13, (.int .i64 x757))] [] (fun fb => by kernel_rfl) rfl trivial ?_
        obtain ⟨h765, hl763⟩ := as_some hl763
        refine seg 5 [.v (.int .i64 (rdD p0 x757 0))] [0, 1, 5, 7, 8, 11, 15] [(0, (.slice A_p0 p0.length c_p0)), (1, (.func (.func 66) #[] #[(.pointer (some ⟨g_p1_0, 0, none⟩))])), (5, (.int .i64 x757)), (7, (.int .i64 (p0.length : Int))), (8, (.int .i64 x757)), (11, (.func (.func 66) #[] #[(.pointer (some ⟨g_p1_0, 0, none⟩))])), (15, (.int .i64 (rdD p0 x757 0)))] [.idx A_p0 x757 p0.length, .cell ((adr A_p0).add ((x757).toNat * 1)) (.int .i64 (rdD p0 x757 0))] (fun fb => by kernel_rfl) rfl ⟨rowR.adr (hS762.rd 0).1 h765.1 h765.2, rowR.cell (hS762.rd 0).1 0 h765.1 h765.2 0 rfl, trivial⟩ ?_
        obtain ⟨t766, ht767, hl763⟩ := bind_some hl763
        refine WL.call (some 16) 66 #[(.int .i64 (rdD p0 x757 0)), (.pointer (some ⟨g_p1_0, 0, none⟩))] (fun fb => by kernel_rfl) (tile_of_1_calls (rdD p0 x757 0) p1_0 g_p1_0 A_p1_0 c_p1_0 t766 _ (hS762.rd 1) (hS762.rd 2) ht767) (fun v w768 hR769 => ?_)
        obtain ⟨rfl, hk_⟩ := hR769
        have hS770 := hS762.keepN hk_
        refine ⟨trivial, ?_⟩
        refine WL.done rfl ?_
        refine WX.next ?_
        rcases br_some hl763 with ⟨h771, hl763⟩ | ⟨h771, hl763⟩
        · refine WC.condT2 (fun fb => by kernel_rfl) h771 ?_
          refine WC.seq ?_
          refine WC.region ?_
          refine seg 2 [] [4] [(4, (.int .i64 x757))] [] (fun fb => by kernel_rfl) rfl trivial ?_
          refine WL.done rfl ?_
          refine WX.next ?_
          refine WC.ret ?_
          injection hl763 with hl763
          subst hl763
          injection hf with hf
          subst hf
          exact WX.blockR (WX.thenR (WX.thenR (WX.blockR (WX.thenR (WX.ret_ [] (.int .i64 x757) [] (fun fb => by kernel_rfl) trivial ⟨_, rfl, rfl, hS770.keep⟩)))))
        refine WC.condF2 (fun fb => by kernel_rfl) h771 ?_
        refine WC.skip ?_
        refine WX.blockN (WX.next ?_)
        refine WC.region ?_
        refine seg 2 [] [0, 1, 7, 8] [(0, (.slice A_p0 p0.length c_p0)), (1, (.func (.func 66) #[] #[(.pointer (some ⟨g_p1_0, 0, none⟩))])), (7, (.int .i64 (p0.length : Int))), (8, (.int .i64 (w64 (x757 + 1))))] [] (fun fb => by kernel_rfl) rfl trivial ?_
        refine WL.done rfl ?_
        exact WX.again k760 (Nat.lt_succ_self _) (w64 (x757 + 1)) [0, 1, 7, 8] rfl ⟨(hS770.subR [0, 1, 2]).sub [] (by decide), hl763⟩
      refine WC.condF2 (fun fb => by kernel_rfl) h764 ?_
      refine WC.exit ?_
      injection hl763 with hl763
      exact WX.thenX (WX.thenX (WX.blockHere (WX.to Kx758 () [] rfl ⟨(hS762.subR [0, 1, 2]).sub [] (by decide), hl763.symm⟩)))
  rintro y775 w772 ⟨hS773, hq774⟩
  subst hq774
  have hf := sum_inr hf
  refine WX.next ?_
  refine WC.seq ?_
  refine WC.region ?_
  refine seg 1 [] [4] [(4, (.int .i64 (-1)))] [] (fun fb => by kernel_rfl) rfl trivial ?_
  refine WL.done rfl ?_
  refine WX.next ?_
  refine WC.ret ?_
  injection hf with hf
  subst hf
  exact WX.ret_ [] (.int .i64 (-1)) [] (fun fb => by kernel_rfl) trivial ⟨_, rfl, rfl, hS773.keep⟩
theorem slices_ContainsFunc_int_int_with_tile_of_1_calls (k : Nat) (p0 : List Int) (p1_0 : List Tile) (A_p0 : Option Addr) (c_p0 : Nat) (g_p1_0 : Nat) (A_p1_0 : Option Addr) (c_p1_0 : Nat) (r : Bool) (w : World) (hR0 : RO NoS w (rowR encInt A_p0 c_p0 p0)) (hR1 : RO NoS w (blk g_p1_0 (.cells #[(.slice A_p1_0 p1_0.length c_p1_0)] 22 (0, 0)))) (hR2 : RO NoS w (rowR enc_Tile A_p1_0 c_p1_0 p1_0)) (hf : slices_ContainsFunc_int_int_with_tile_of_1 k p0 p1_0 = some r) :
    CallsR Try.prog 65 #[(.slice A_p0 p0.length c_p0), (.func (.func 66) #[] #[(.pointer (some ⟨g_p1_0, 0, none⟩))])] w (fun v w' => v = (.bool r) ∧ Keeps NoS w w') := by
  have hS : St NoS w w [rowR encInt A_p0 c_p0 p0, blk g_p1_0 (.cells #[(.slice A_p1_0 p1_0.length c_p1_0)] 22 (0, 0)), rowR enc_Tile A_p1_0 c_p1_0 p1_0] [] := St.init (ro_cons hR0 (ro_cons hR1 (ro_cons hR2 (ro_nil _ _))))
  refine enter 9 Try.func65 rfl Try.ntmps65 rfl ?_
  unfold slices_ContainsFunc_int_int_with_tile_of_1 at hf
  refine WC.seq ?_
  refine WC.region ?_
  refine seg 1 [] [0, 1] [(0, (.slice A_p0 p0.length c_p0)), (1, (.func (.func 66) #[] #[(.pointer (some ⟨g_p1_0, 0, none⟩))]))] [] (fun fb => by kernel_rfl) rfl trivial ?_
  refine WL.done rfl ?_
  refine WX.next ?_
  refine WC.seq ?_
  refine WC.region ?_
  refine seg 2 [] [5, 6] [(5, (.slice A_p0 p0.length c_p0)), (6, (.func (.func 66) #[] #[(.pointer (some ⟨g_p1_0, 0, none⟩))]))] [] (fun fb => by kernel_rfl) rfl trivial ?_
  obtain ⟨t777, ht778, hf⟩ := bind_some hf
  refine WL.call (some 7) 81 #[(.slice A_p0 p0.length c_p0), (.func (.func 66) #[] #[(.pointer (some ⟨g_p1_0, 0, none⟩))])] (fun fb => by kernel_rfl) (slices_IndexFunc_int_int_with_tile_of_1_calls _ p0 p1_0 A_p0 c_p0 g_p1_0 A_p1_0 c_p1_0 t777 _ (hS.rd 0) (hS.rd 1) (hS.rd 2) ht778) (fun v w779 hR780 => ?_)
  obtain ⟨rfl, hk_⟩ := hR780
  have hS781 := hS.keepN hk_
  refine ⟨trivial, ?_⟩
  refine seg 5 [] [4] [(4, (.bool (decide (t777 ≥ 0))))] [] (fun fb => by kernel_rfl) rfl trivial ?_
  refine WL.done rfl ?_
  refine WX.next ?_
  refine WC.ret ?_
  injection hf with hf
  subst hf
  exact WX.ret_ [] (.bool (decide (t777 ≥ 0))) [] (fun fb => by kernel_rfl) trivial ⟨_, rfl, rfl, hS781.keep⟩
theorem tile_of_calls (k : Nat) (p0 : List Tile) (p1 : Pattern) (A_p0 : Option Addr) (c_p0 : Nat) (A_p1_Cells : Option Addr) (c_p1_Cells : Nat) (r : Bool) (w : World) (hR0 : RO NoS w (rowR enc_Tile A_p0 c_p0 p0)) (hR1 : RO NoS w (rowR encInt A_p1_Cells c_p1_Cells p1.Cells)) (hf : tile_of k p0 p1 = some r) :
    CallsR Try.prog 48 #[(.slice A_p0 p0.length c_p0), (.agg #[(.int .i64 p1.Width), (.int .i64 p1.Height), (.slice A_p1_Cells p1.Cells.length c_p1_Cells)])] w (fun v w' => v = (.bool r) ∧ Keeps NoS w w') := by
  have hS : St NoS w w [rowR enc_Tile A_p0 c_p0 p0, rowR encInt A_p1_Cells c_p1_Cells p1.Cells] [] := St.init (ro_cons hR0 (ro_cons hR1 (ro_nil _ _)))
  refine enter 18 Try.func48 rfl Try.ntmps48 rfl ?_
  unfold tile_of at hf
  refine WC.seq ?_
  refine WC.region ?_
  refine WL.new hS 2 [] (fun g => (.pointer (some ⟨g, 0, none⟩))) (.cells #[(.slice A_p0 p0.length c_p0)] 22 (0, 0)) [] (fun fb g => by kernel_rfl) trivial (fun g518 w519 hS520 => ?_)
  refine ⟨trivial, ?_⟩
  refine WL.new hS520 3 [] (fun g => (.pointer (some ⟨g, 0, none⟩))) (.cells #[(.int .i64 p1.Width), (.int .i64 p1.Height), (.slice A_p1_Cells p1.Cells.length c_p1_Cells)] 38 (0, 0)) [] (fun fb g => by kernel_rfl) trivial (fun g522 w523 hS524 => ?_)
  refine ⟨trivial, ?_⟩
  refine seg 3 [] [2, 3] [(2, (.pointer (some ⟨g518, 0, none⟩))), (3, (.pointer (some ⟨g522, 0, none⟩)))] [] (fun fb => by kernel_rfl) rfl trivial ?_
  refine WL.done rfl ?_
  refine WX.next ?_
  refine WC.seq ?_
  refine WC.region ?_
  refine seg 1 [.v (.slice A_p0 p0.length c_p0)] [2, 3, 5] [(2, (.pointer (some ⟨g518, 0, none⟩))), (3, (.pointer (some ⟨g522, 0, none⟩))), (5, (.slice A_p0 p0.length c_p0))] [.cell ⟨g518, 0, none⟩ (.slice A_p0 p0.length c_p0)] (fun fb => by kernel_rfl) rfl ⟨hS524.cell 1 rfl 0 rfl, trivial⟩ ?_
  obtain ⟨t714, ht715, hf⟩ := bind_some hf
  refine WL.call (some 6) 38 #[(.slice A_p0 p0.length c_p0)] (fun fb => by kernel_rfl) (tile_Valid_calls _ p0 A_p0 c_p0 t714 _ (hS524.rd 0) ht715) (fun v w716 hR717 => ?_)
  obtain ⟨rfl, hk_⟩ := hR717
  have hS718 := hS524.keepN hk_
  refine ⟨trivial, ?_⟩
  refine seg 3 [] [2, 3, 7] [(2, (.pointer (some ⟨g518, 0, none⟩))), (3, (.pointer (some ⟨g522, 0, none⟩))), (7, (.bool t714))] [] (fun fb => by kernel_rfl) rfl trivial ?_
  obtain ⟨x725, hx726, hf⟩ := bind_some hf
  refine WL.cutW (T := Bool) 6 (fun t => [(2, (.pointer (some ⟨g518, 0, none⟩))), (3, (.pointer (some ⟨g522, 0, none⟩))), (10, (.bool t))]) (fun t w1 => (St NoS w w1 [rowR enc_Tile A_p0 c_p0 p0, rowR encInt A_p1_Cells c_p1_Cells p1.Cells] [blk g518 (.cells #[(.slice A_p0 p0.length c_p0)] 22 (0, 0)), blk g522 (.cells #[(.int .i64 p1.Width), (.int .i64 p1.Height), (.slice A_p1_Cells p1.Cells.length c_p1_Cells)] 38 (0, 0))] ∧ x725 = t) ∧ CellsOK [] w1) (fun K => ?_) ?_
  ·
    rcases br_some hx726 with ⟨h727, hx726⟩ | ⟨h727, hx726⟩
    ·
      refine WL.setB 7 h727 rfl ?_
      refine seg 4 [.v (.int .i64 p1.Width), .v (.int .i64 p1.Height), .v (.slice A_p1_Cells p1.Cells.length c_p1_Cells)] [2, 3, 7, 8] [(2, (.pointer (some ⟨g518, 0, none⟩))), (3, (.pointer (some ⟨g522, 0, none⟩))), (7, (.bool true)), (8, (.agg #[(.int .i64 p1.Width), (.int .i64 p1.Height), (.slice A_p1_Cells p1.Cells.length c_p1_Cells)]))] [.cell ⟨g522, 0, none⟩ (.int .i64 p1.Width), .cell ⟨g522, 1, none⟩ (.int .i64 p1.Height), .cell ⟨g522, 2, none⟩ (.slice A_p1_Cells p1.Cells.length c_p1_Cells)] (fun fb => by kernel_rfl) rfl ⟨hS718.cell 0 rfl 0 rfl, hS718.cell 0 rfl 1 rfl, hS718.cell 0 rfl 2 rfl, trivial⟩ ?_
      obtain ⟨t728, ht729, hx726⟩ := bind_some hx726
      refine WL.call (some 9) 64 #[(.agg #[(.int .i64 p1.Width), (.int .i64 p1.Height), (.slice A_p1_Cells p1.Cells.length c_p1_Cells)])] (fun fb => by kernel_rfl) (tile_Form_calls p1 A_p1_Cells c_p1_Cells t728 _ (hS718.rd 1) ht729) (fun v w730 hR731 => ?_)
      obtain ⟨rfl, hk_⟩ := hR731
      have hS732 := hS718.keepN hk_
      refine ⟨trivial, ?_⟩
      refine seg 6 [] [2, 3, 10] [(2, (.pointer (some ⟨g518, 0, none⟩))), (3, (.pointer (some ⟨g522, 0, none⟩))), (10, (.bool t728))] [] (fun fb => by kernel_rfl) rfl trivial ?_
      injection hx726 with hx726
      exact WL.to K t728 [2, 3, 10] rfl ⟨⟨(hS732.subR [0, 1]).sub [1, 0] (by decide), hx726.symm⟩, trivial⟩
    refine WL.setB 7 h727 rfl ?_
    refine seg 6 [] [2, 3, 10] [(2, (.pointer (some ⟨g518, 0, none⟩))), (3, (.pointer (some ⟨g522, 0, none⟩))), (10, (.bool false))] [] (fun fb => by kernel_rfl) rfl trivial ?_
    injection hx726 with hx726
    exact WL.to K false [2, 3, 10] rfl ⟨⟨(hS718.subR [0, 1]).sub [1, 0] (by decide), hx726.symm⟩, trivial⟩
  rintro y733 w735 ⟨⟨hS736, hq734⟩, hF737⟩
  subst hq734
  refine seg 7 [] [2, 3, 11] [(2, (.pointer (some ⟨g518, 0, none⟩))), (3, (.pointer (some ⟨g522, 0, none⟩))), (11, (.bool x725))] [] (fun fb => by kernel_rfl) rfl trivial ?_
  obtain ⟨x788, hx789, hf⟩ := bind_some hf
  refine WL.cutW (T := Bool) 13 (fun t => [(17, (.bool t))]) (fun t w1 => (St NoS w w1 [rowR enc_Tile A_p0 c_p0 p0, rowR encInt A_p1_Cells c_p1_Cells p1.Cells] [] ∧ x788 = t) ∧ CellsOK [] w1) (fun K => ?_) ?_
  ·
    rcases br_some hx789 with ⟨h790, hx789⟩ | ⟨h790, hx789⟩
    ·
      refine WL.setB 11 h790 rfl ?_
      refine seg 10 [.v (.slice A_p1_Cells p1.Cells.length c_p1_Cells)] [11, 13, 14] [(11, (.bool true)), (13, (.slice A_p1_Cells p1.Cells.length c_p1_Cells)), (14, (.func (.func 66) #[] #[(.pointer (some ⟨g518, 0, none⟩))]))] [.cell ⟨g522, 2, none⟩ (.slice A_p1_Cells p1.Cells.length c_p1_Cells)] (fun fb => by kernel_rfl) rfl ⟨hS736.cell 1 rfl 2 rfl, trivial⟩ ?_
      obtain ⟨t791, ht792, hx789⟩ := bind_some hx789
      refine WL.call (some 15) 65 #[(.slice A_p1_Cells p1.Cells.length c_p1_Cells), (.func (.func 66) #[] #[(.pointer (some ⟨g518, 0, none⟩))])] (fun fb => by kernel_rfl) (slices_ContainsFunc_int_int_with_tile_of_1_calls _ p1.Cells p0 A_p1_Cells c_p1_Cells g518 A_p0 c_p0 t791 _ (hS736.rd 1) (hS736.ow 0) (hS736.rd 0) ht792) (fun v w793 hR794 => ?_)
      obtain ⟨rfl, hk_⟩ := hR794
      have hS795 := hS736.keepN hk_
      refine ⟨trivial, ?_⟩
      refine seg 13 [] [17] [(17, (.bool (!t791)))] [] (fun fb => by kernel_rfl) rfl trivial ?_
      injection hx789 with hx789
      exact WL.to K (!t791) [17] rfl ⟨⟨(hS795.subR [0, 1]).sub [] (by decide), hx789.symm⟩, trivial⟩
    refine WL.setB 11 h790 rfl ?_
    refine seg 13 [] [17] [(17, (.bool false))] [] (fun fb => by kernel_rfl) rfl trivial ?_
    injection hx789 with hx789
    exact WL.to K false [17] rfl ⟨⟨(hS736.subR [0, 1]).sub [] (by decide), hx789.symm⟩, trivial⟩
  rintro y796 w798 ⟨⟨hS799, hq797⟩, hF800⟩
  subst hq797
  refine seg 14 [] [4] [(4, (.bool x788))] [] (fun fb => by kernel_rfl) rfl trivial ?_
  refine WL.done rfl ?_
  refine WX.next ?_
  refine WC.ret ?_
  injection hf with hf
  subst hf
  exact WX.ret_ [] (.bool x788) [] (fun fb => by kernel_rfl) trivial ⟨_, rfl, rfl, hS799.keep⟩
theorem tile_joins_calls (k : Nat) (p0 : List Tile) (p1 : Pattern) (p2 : Bool) (A_p0 : Option Addr) (c_p0 : Nat) (A_p1_Cells : Option Addr) (c_p1_Cells : Nat) (r : Bool) (w : World) (hR0 : RO NoS w (rowR enc_Tile A_p0 c_p0 p0)) (hR1 : RO NoS w (rowR encInt A_p1_Cells c_p1_Cells p1.Cells)) (hf : tile_joins k p0 p1 p2 = some r) :
    CallsR Try.prog 49 #[(.slice A_p0 p0.length c_p0), (.agg #[(.int .i64 p1.Width), (.int .i64 p1.Height), (.slice A_p1_Cells p1.Cells.length c_p1_Cells)]), (.bool p2)] w (fun v w' => v = (.bool r) ∧ Keeps NoS w w') := by
  have hS : St NoS w w [rowR enc_Tile A_p0 c_p0 p0, rowR encInt A_p1_Cells c_p1_Cells p1.Cells] [] := St.init (ro_cons hR0 (ro_cons hR1 (ro_nil _ _)))
  refine enter 92 Try.func49 rfl Try.ntmps49 rfl ?_
  unfold tile_joins at hf
  refine WC.seq ?_
  refine WC.region ?_
  refine WL.new hS 4 [] (fun g => (.pointer (some ⟨g, 0, none⟩))) (.cells #[(.int .i64 p1.Width), (.int .i64 p1.Height), (.slice A_p1_Cells p1.Cells.length c_p1_Cells)] 38 (0, 0)) [] (fun fb g => by kernel_rfl) trivial (fun g806 w807 hS808 => ?_)
  refine ⟨trivial, ?_⟩
  refine seg 2 [] [0, 2, 4] [(0, (.slice A_p0 p0.length c_p0)), (2, (.bool p2)), (4, (.pointer (some ⟨g806, 0, none⟩)))] [] (fun fb => by kernel_rfl) rfl trivial ?_
  refine WL.done rfl ?_
  refine WX.next ?_
  refine WC.seq ?_
  refine WC.seq ?_
  refine WC.region ?_
  refine seg 4 [.v (.slice A_p1_Cells p1.Cells.length c_p1_Cells)] [0, 2, 4, 12, 13, 14] [(0, (.slice A_p0 p0.length c_p0)), (2, (.bool p2)), (4, (.pointer (some ⟨g806, 0, none⟩))), (12, (.slice A_p1_Cells p1.Cells.length c_p1_Cells)), (13, (.int .i64 (p1.Cells.length : Int))), (14, (.int .i64 0))] [.cell ⟨g806, 2, none⟩ (.slice A_p1_Cells p1.Cells.length c_p1_Cells)] (fun fb => by kernel_rfl) rfl ⟨hS808.cell 0 rfl 2 rfl, trivial⟩ ?_
  refine WL.done rfl ?_
  refine WX.next ?_
  obtain ⟨x978, hx979, hf⟩ := bind_some hf
  refine WC.cutN (T := Unit) (fun t => []) (fun t w1 => St NoS w w1 [rowR enc_Tile A_p0 c_p0 p0, rowR encInt A_p1_Cells c_p1_Cells p1.Cells] [] ∧ x978 = .inr t) (fun Kx978 => ?_) ?_
  ·
    refine WC.block ?_
    refine WC.loop (T := Int) (fun t => [(0, (.slice A_p0 p0.length c_p0)), (2, (.bool p2)), (4, (.pointer (some ⟨g806, 0, none⟩))), (12, (.slice A_p1_Cells p1.Cells.length c_p1_Cells)), (13, (.int .i64 (p1.Cells.length : Int))), (14, (.int .i64 t))]) (fun n t w1 => St NoS w w1 [rowR enc_Tile A_p0 c_p0 p0, rowR encInt A_p1_Cells c_p1_Cells p1.Cells] [blk g806 (.cells #[(.int .i64 p1.Width), (.int .i64 p1.Height), (.slice A_p1_Cells p1.Cells.length c_p1_Cells)] 38 (0, 0))] ∧ tile_joins.l0 n t p0 p1 p2 = some x978) k 0 [0, 2, 4, 12, 13, 14] rfl ⟨(hS808.subR [0, 1]).sub [0] (by decide), hx979⟩ ?_
    rintro k980 x977 w981 ⟨hS982, hl983⟩
    cases k980 with
    | zero => rw [tile_joins.l0] at hl983; cases hl983
    | succ k980 =>
      rw [tile_joins.l0] at hl983
      refine WC.seq ?_
      refine WC.region ?_
      refine seg 1 [] [0, 2, 4, 12, 13, 14, 15] [(0, (.slice A_p0 p0.length c_p0)), (2, (.bool p2)), (4, (.pointer (some ⟨g806, 0, none⟩))), (12, (.slice A_p1_Cells p1.Cells.length c_p1_Cells)), (13, (.int .i64 (p1.Cells.length : Int))), (14, (.int .i64 x977)), (15, (.bool (decide (x977 < (p1.Cells.length : Int)))))] [] (fun fb => by kernel_rfl) rfl trivial ?_
      refine WL.done rfl ?_
      refine WX.next ?_
      refine WC.seq ?_
      rcases br_some hl983 with ⟨h984, hl983⟩ | ⟨h984, hl983⟩
      · refine WC.condT2 (fun fb => by kernel_rfl) h984 ?_
        refine WC.skip ?_
        refine WX.next ?_
        refine WC.seq ?_
        refine WC.block ?_
        refine WC.seq ?_
        refine WC.region ?_
        refine seg 1 [] [0, 2, 4, 12, 13, 14, 16] [(0, (.slice A_p0 p0.length c_p0)), (2, (.bool p2)), (4, (.pointer (some ⟨g806, 0, none⟩))), (12, (.slice A_p1_Cells p1.Cells.length c_p1_Cells)), (13, (.int .i64 (p1.Cells.length : Int))), (14, (.int .i64 x977)), (16, (.int .i64 x977))] [] (fun fb => by kernel_rfl) rfl trivial ?_
        obtain ⟨h985, hl983⟩ := as_some hl983
        refine seg 5 [.v (.int .i64 (rdD p1.Cells x977 0))] [0, 2, 4, 7, 8, 12, 13, 14] [(0, (.slice A_p0 p0.length c_p0)), (2, (.bool p2)), (4, (.pointer (some ⟨g806, 0, none⟩))), (7, (.int .i64 x977)), (8, (.int .i64 (rdD p1.Cells x977 0))), (12, (.slice A_p1_Cells p1.Cells.length c_p1_Cells)), (13, (.int .i64 (p1.Cells.length : Int))), (14, (.int .i64 x977))] [.idx A_p1_Cells x977 p1.Cells.length, .cell ((adr A_p1_Cells).add ((x977).toNat * 1)) (.int .i64 (rdD p1.Cells x977 0))] (fun fb => by kernel_rfl) rfl ⟨rowR.adr (hS982.rd 1).1 h985.1 h985.2, rowR.cell (hS982.rd 1).1 0 h985.1 h985.2 0 rfl, trivial⟩ ?_
        refine WL.done rfl ?_
        refine WX.next ?_
        refine WC.seq ?_
        obtain ⟨h990, hl983⟩ := as_some hl983
        refine WC.regionD ([(2, ⟨g806, 0, none⟩, (.int .i64 p1.Width)), (6, ⟨g806, 0, none⟩, (.int .i64 p1.Width))], [0, 1, 2, 3, 4, 5, 6, 7, 8, 9], [[], [], [1], [0, 1, 2], [], [], [5], [4, 5, 6], [0, 1, 2, 3], [0, 1, 2, 3, 4, 5, 6, 7, 8]]) [[0, 1, 2, 3, 4, 5, 6, 7, 8, 9]] (by kernel_rfl) (by kernel_rfl) (NoPanic.seq (NoPanic.block (NoPanic.seq (NoPanic.seq (NoPanic.block (NoPanic.seq (NoPanic.body))))))) ?_
        have hS988 := hS982.drew
        revert hS988
        generalize World.drew w981 = w987
        intro hS988
        refine ⟨⟨hS988.cell 0 rfl 0 rfl, hS988.cell 0 rfl 0 rfl, trivial⟩, forallC ?_ (forallN)⟩
        refine segF 10 [.v (.int .i64 p1.Width), .v (.int .i64 p1.Width)] [0, 2, 4, 8, 9, 10, 12, 13, 14] [(0, (.slice A_p0 p0.length c_p0)), (2, (.bool p2)), (4, (.pointer (some ⟨g806, 0, none⟩))), (8, (.int .i64 (rdD p1.Cells x977 0))), (9, (.int .i64 (Int.tmod x977 p1.Width))), (10, (.int .i64 (w64 (Int.tdiv x977 p1.Width)))), (12, (.slice A_p1_Cells p1.Cells.length c_p1_Cells)), (13, (.int .i64 (p1.Cells.length : Int))), (14, (.int .i64 x977))] [.ne p1.Width, .ne p1.Width] [0, 1] [(2, ⟨g806, 0, none⟩, (.int .i64 p1.Width)), (6, ⟨g806, 0, none⟩, (.int .i64 p1.Width))] (fun fb => by kernel_rfl) rfl ⟨h990, h990, trivial⟩ rfl ?_
        refine WL.done rfl ?_
        refine WX.next ?_
        refine WC.seq ?_
        refine WC.seq ?_
        refine WC.region ?_
        refine seg 6 [.v (.int .i64 p1.Width)] [0, 2, 4, 8, 9, 10, 12, 13, 14, 32] [(0, (.slice A_p0 p0.length c_p0)), (2, (.bool p2)), (4, (.pointer (some ⟨g806, 0, none⟩))), (8, (.int .i64 (rdD p1.Cells x977 0))), (9, (.int .i64 (Int.tmod x977 p1.Width))), (10, (.int .i64 (w64 (Int.tdiv x977 p1.Width)))), (12, (.slice A_p1_Cells p1.Cells.length c_p1_Cells)), (13, (.int .i64 (p1.Cells.length : Int))), (14, (.int .i64 x977)), (32, (.bool (decide (w64 ((Int.tmod x977 p1.Width) + 1) < p1.Width))))] [.cell ⟨g806, 0, none⟩ (.int .i64 p1.Width)] (fun fb => by kernel_rfl) rfl ⟨hS988.cell 0 rfl 0 rfl, trivial⟩ ?_
        refine WL.cutV (T := Bool) 8 (fun t => [(34, (.bool t)), (0, (.slice A_p0 p0.length c_p0)), (2, (.bool p2)), (4, (.pointer (some ⟨g806, 0, none⟩))), (8, (.int .i64 (rdD p1.Cells x977 0))), (9, (.int .i64 (Int.tmod x977 p1.Width))), (10, (.int .i64 (w64 (Int.tdiv x977 p1.Width)))), (12, (.slice A_p1_Cells p1.Cells.length c_p1_Cells)), (13, (.int .i64 (p1.Cells.length : Int))), (14, (.int .i64 x977))]) (fun t => ((decide (w64 ((Int.tmod x977 p1.Width) + 1) < p1.Width)) || p2) = t) (fun K => ?_) ?_
        ·
          rcases Bool.eq_false_or_eq_true (decide (w64 ((Int.tmod x977 p1.Width) + 1) < p1.Width)) with h991 | h991
          ·
            refine WL.setB 32 h991 rfl ?_
            refine seg 8 [] [0, 2, 4, 8, 9, 10, 12, 13, 14, 34] [(0, (.slice A_p0 p0.length c_p0)), (2, (.bool p2)), (4, (.pointer (some ⟨g806, 0, none⟩))), (8, (.int .i64 (rdD p1.Cells x977 0))), (9, (.int .i64 (Int.tmod x977 p1.Width))), (10, (.int .i64 (w64 (Int.tdiv x977 p1.Width)))), (12, (.slice A_p1_Cells p1.Cells.length c_p1_Cells)), (13, (.int .i64 (p1.Cells.length : Int))), (14, (.int .i64 x977)), (34, (.bool true))] [] (fun fb => by kernel_rfl) rfl trivial ?_
            exact WL.toV K true [34, 0, 2, 4, 8, 9, 10, 12, 13, 14] rfl (by first | (rw [h991]; done) | (rw [h991]; rfl))
          refine WL.setB 32 h991 rfl ?_
          refine seg 8 [] [0, 2, 4, 8, 9, 10, 12, 13, 14, 34] [(0, (.slice A_p0 p0.length c_p0)), (2, (.bool p2)), (4, (.pointer (some ⟨g806, 0, none⟩))), (8, (.int .i64 (rdD p1.Cells x977 0))), (9, (.int .i64 (Int.tmod x977 p1.Width))), (10, (.int .i64 (w64 (Int.tdiv x977 p1.Width)))), (12, (.slice A_p1_Cells p1.Cells.length c_p1_Cells)), (13, (.int .i64 (p1.Cells.length : Int))), (14, (.int .i64 x977)), (34, (.bool p2))] [] (fun fb => by kernel_rfl) rfl trivial ?_
          exact WL.toV K p2 [34, 0, 2, 4, 8, 9, 10, 12, 13, 14] rfl (by first | (rw [h991]; done) | (rw [h991]; rfl))
        rintro b992 rfl
        refine WL.done rfl ?_
        refine WX.next ?_
        obtain ⟨x1006, hx1007, hl983⟩ := bind_some hl983
        refine WC.cutN (T := Unit) (fun t => [(0, (.slice A_p0 p0.length c_p0)), (2, (.bool p2)), (4, (.pointer (some ⟨g806, 0, none⟩))), (8, (.int .i64 (rdD p1.Cells x977 0))), (9, (.int .i64 (Int.tmod x977 p1.Width))), (10, (.int .i64 (w64 (Int.tdiv x977 p1.Width)))), (12, (.slice A_p1_Cells p1.Cells.length c_p1_Cells)), (13, (.int .i64 (p1.Cells.length : Int))), (14, (.int .i64 x977))]) (fun t w1 => St NoS w w1 [rowR enc_Tile A_p0 c_p0 p0, rowR encInt A_p1_Cells c_p1_Cells p1.Cells] [blk g806 (.cells #[(.int .i64 p1.Width), (.int .i64 p1.Height), (.slice A_p1_Cells p1.Cells.length c_p1_Cells)] 38 (0, 0))] ∧ x1006 = .inr t) (fun Kx1006 => ?_) ?_
        ·
          rcases br_some hx1007 with ⟨h1008, hx1007⟩ | ⟨h1008, hx1007⟩
          · refine WC.condT2 (fun fb => by kernel_rfl) h1008 ?_
            refine WC.seq ?_
            obtain ⟨h1017, hx1007⟩ := as_some hx1007
            obtain ⟨h1018, hx1007⟩ := as_some hx1007
            obtain ⟨h1019, hx1007⟩ := as_some hx1007
            refine WC.regionD ([(4, (((adr A_p0).add (((rdD p1.Cells x977 0)).toNat * 4)).add 1), (.int .i64 ((rdD p0 (rdD p1.Cells x977 0) z_Tile).E))), (7, ⟨g806, 2, none⟩, (.slice A_p1_Cells p1.Cells.length c_p1_Cells)), (10, ⟨g806, 0, none⟩, (.int .i64 p1.Width)), (15, ⟨g806, 0, none⟩, (.int .i64 p1.Width)), (19, ((adr A_p1_Cells).add ((w64 ((w64 ((w64 (Int.tdiv x977 p1.Width)) * p1.Width)) + (Int.tmod (w64 ((Int.tmod x977 p1.Width) + 1)) p1.Width))).toNat * 1)), (.int .i64 (rdD p1.Cells (w64 ((w64 ((w64 (Int.tdiv x977 p1.Width)) * p1.Width)) + (Int.tmod (w64 ((Int.tmod x977 p1.Width) + 1)) p1.Width))) 0))), (22, (((adr A_p0).add (((rdD p1.Cells (w64 ((w64 ((w64 (Int.tdiv x977 p1.Width)) * p1.Width)) + (Int.tmod (w64 ((Int.tmod x977 p1.Width) + 1)) p1.Width))) 0)).toNat * 4)).add 3), (.int .i64 ((rdD p0 (rdD p1.Cells (w64 ((w64 ((w64 (Int.tdiv x977 p1.Width)) * p1.Width)) + (Int.tmod (w64 ((Int.tmod x977 p1.Width) + 1)) p1.Width))) 0) z_Tile).W)))], [0, 1, 2, 3, 4, 5, 6, 7, 8, 9, 10, 11, 12, 13, 14, 15, 16, 17, 18, 19, 20, 21, 22, 23], [[], [], [0, 1], [0, 1, 2], [0, 1, 2, 3], [], [], [6], [], [], [9], [8, 9, 10], [], [12], [], [14], [12, 13, 14, 15], [8, 9, 10, 11, 12, 13, 14, 15, 16], [6, 7, 8, 9, 10, 11, 12, 13, 14, 15, 16, 17], [6, 7, 8, 9, 10, 11, 12, 13, 14, 15, 16, 17, 18], [5, 6, 7, 8, 9, 10, 11, 12, 13, 14, 15, 16, 17, 18, 19], [5, 6, 7, 8, 9, 10, 11, 12, 13, 14, 15, 16, 17, 18, 19, 20], [5, 6, 7, 8, 9, 10, 11, 12, 13, 14, 15, 16, 17, 18, 19, 20, 21], [0, 1, 2, 3, 4, 5, 6, 7, 8, 9, 10, 11, 12, 13, 14, 15, 16, 17, 18, 19, 20, 21, 22]]) [[0, 1, 2, 3, 4, 5, 6, 7, 8, 9, 10, 11, 12, 13, 14, 15, 16, 17, 18, 19, 20, 21, 22, 23]] (by kernel_rfl) (by kernel_rfl) (NoPanic.seq (NoPanic.seq (NoPanic.block (NoPanic.seq (NoPanic.seq (NoPanic.block (NoPanic.seq (NoPanic.body)))))))) ?_
            have hS1013 := hS988.drew
            revert hS1013
            generalize World.drew w987 = w1012
            intro hS1013
            refine ⟨⟨rowR.cell (hS1013.rd 0).1 z_Tile h1017.1 h1017.2 1 rfl, hS1013.cell 0 rfl 2 rfl, hS1013.cell 0 rfl 0 rfl, hS1013.cell 0 rfl 0 rfl, rowR.cell (hS1013.rd 1).1 0 h1018.1 h1018.2 0 rfl, rowR.cell (hS1013.rd 0).1 z_Tile h1019.1 h1019.2 3 rfl, trivial⟩, forallC ?_ (forallN)⟩
            refine segF 24 [.v (.int .i64 ((rdD p0 (rdD p1.Cells x977 0) z_Tile).E)), .v (.slice A_p1_Cells p1.Cells.length c_p1_Cells), .v (.int .i64 p1.Width), .v (.int .i64 p1.Width), .v (.int .i64 (rdD p1.Cells (w64 ((w64 ((w64 (Int.tdiv x977 p1.Width)) * p1.Width)) + (Int.tmod (w64 ((Int.tmod x977 p1.Width) + 1)) p1.Width))) 0)), .v (.int .i64 ((rdD p0 (rdD p1.Cells (w64 ((w64 ((w64 (Int.tdiv x977 p1.Width)) * p1.Width)) + (Int.tmod (w64 ((Int.tmod x977 p1.Width) + 1)) p1.Width))) 0) z_Tile).W))] [0, 2, 4, 8, 9, 10, 12, 13, 14, 58] [(0, (.slice A_p0 p0.length c_p0)), (2, (.bool p2)), (4, (.pointer (some ⟨g806, 0, none⟩))), (8, (.int .i64 (rdD p1.Cells x977 0))), (9, (.int .i64 (Int.tmod x977 p1.Width))), (10, (.int .i64 (w64 (Int.tdiv x977 p1.Width)))), (12, (.slice A_p1_Cells p1.Cells.length c_p1_Cells)), (13, (.int .i64 (p1.Cells.length : Int))), (14, (.int .i64 x977)), (58, (.bool (((rdD p0 (rdD p1.Cells x977 0) z_Tile).E) != ((rdD p0 (rdD p1.Cells (w64 ((w64 ((w64 (Int.tdiv x977 p1.Width)) * p1.Width)) + (Int.tmod (w64 ((Int.tmod x977 p1.Width) + 1)) p1.Width))) 0) z_Tile).W))))] [.idx A_p0 (rdD p1.Cells x977 0) p0.length, .ne p1.Width, .idx A_p1_Cells (w64 ((w64 ((w64 (Int.tdiv x977 p1.Width)) * p1.Width)) + (Int.tmod (w64 ((Int.tmod x977 p1.Width) + 1)) p1.Width))) p1.Cells.length, .idx A_p0 (rdD p1.Cells (w64 ((w64 ((w64 (Int.tdiv x977 p1.Width)) * p1.Width)) + (Int.tmod (w64 ((Int.tmod x977 p1.Width) + 1)) p1.Width))) 0) p0.length] [0, 1, 2, 3, 4, 5] [(4, (((adr A_p0).add (((rdD p1.Cells x977 0)).toNat * 4)).add 1), (.int .i64 ((rdD p0 (rdD p1.Cells x977 0) z_Tile).E))), (7, ⟨g806, 2, none⟩, (.slice A_p1_Cells p1.Cells.length c_p1_Cells)), (10, ⟨g806, 0, none⟩, (.int .i64 p1.Width)), (15, ⟨g806, 0, none⟩, (.int .i64 p1.Width)), (19, ((adr A_p1_Cells).add ((w64 ((w64 ((w64 (Int.tdiv x977 p1.Width)) * p1.Width)) + (Int.tmod (w64 ((Int.tmod x977 p1.Width) + 1)) p1.Width))).toNat * 1)), (.int .i64 (rdD p1.Cells (w64 ((w64 ((w64 (Int.tdiv x977 p1.Width)) * p1.Width)) + (Int.tmod (w64 ((Int.tmod x977 p1.Width) + 1)) p1.Width))) 0))), (22, (((adr A_p0).add (((rdD p1.Cells (w64 ((w64 ((w64 (Int.tdiv x977 p1.Width)) * p1.Width)) + (Int.tmod (w64 ((Int.tmod x977 p1.Width) + 1)) p1.Width))) 0)).toNat * 4)).add 3), (.int .i64 ((rdD p0 (rdD p1.Cells (w64 ((w64 ((w64 (Int.tdiv x977 p1.Width)) * p1.Width)) + (Int.tmod (w64 ((Int.tmod x977 p1.Width) + 1)) p1.Width))) 0) z_Tile).W)))] (fun fb => by kernel_rfl) rfl ⟨rowR.adr (hS1013.rd 0).1 h1017.1 h1017.2, h990, rowR.adr (hS1013.rd 1).1 h1018.1 h1018.2, rowR.adr (hS1013.rd 0).1 h1019.1 h1019.2, trivial⟩ rfl ?_
            refine WL.done rfl ?_
            refine WX.next ?_
            rcases br_some hx1007 with ⟨h1020, hx1007⟩ | ⟨h1020, hx1007⟩
            · refine WC.condT2 (fun fb => by kernel_rfl) h1020 ?_
              refine WC.seq ?_
              refine WC.region ?_
              refine seg 1 [] [6] [(6, (.bool false))] [] (fun fb => by kernel_rfl) rfl trivial ?_
              refine WL.done rfl ?_
              refine WX.next ?_
              refine WC.ret ?_
              injection hx1007 with hx1007
              subst hx1007
              injection hl983 with hl983
              subst hl983
              injection hf with hf
              subst hf
              exact WX.thenR (WX.blockR (WX.thenR (WX.thenR (WX.blockR (WX.thenR (WX.ret_ [] (.bool false) [] (fun fb => by kernel_rfl) trivial ⟨_, rfl, rfl, hS1013.keep⟩))))))
            refine WC.condF2 (fun fb => by kernel_rfl) h1020 ?_
            refine WC.skip ?_
            injection hx1007 with hx1007
            exact WX.to Kx1006 () [0, 2, 4, 8, 9, 10, 12, 13, 14] rfl ⟨(hS1013.subR [0, 1]).sub [0] (by decide), hx1007.symm⟩
          refine WC.condF2 (fun fb => by kernel_rfl) h1008 ?_
          refine WC.skip ?_
          injection hx1007 with hx1007
          exact WX.to Kx1006 () [0, 2, 4, 8, 9, 10, 12, 13, 14] rfl ⟨(hS988.subR [0, 1]).sub [0] (by decide), hx1007.symm⟩
        rintro y1024 w1021 ⟨hS1022, hq1023⟩
        subst hq1023
        have hl983 := sum_inr hl983
        refine WX.next ?_
        refine WC.seq ?_
        refine WC.region ?_
        refine seg 6 [.v (.int .i64 p1.Height)] [0, 2, 4, 8, 9, 10, 12, 13, 14, 64] [(0, (.slice A_p0 p0.length c_p0)), (2, (.bool p2)), (4, (.pointer (some ⟨g806, 0, none⟩))), (8, (.int .i64 (rdD p1.Cells x977 0))), (9, (.int .i64 (Int.tmod x977 p1.Width))), (10, (.int .i64 (w64 (Int.tdiv x977 p1.Width)))), (12, (.slice A_p1_Cells p1.Cells.length c_p1_Cells)), (13, (.int .i64 (p1.Cells.length : Int))), (14, (.int .i64 x977)), (64, (.bool (decide (w64 ((w64 (Int.tdiv x977 p1.Width)) + 1) < p1.Height))))] [.cell ⟨g806, 1, none⟩ (.int .i64 p1.Height)] (fun fb => by kernel_rfl) rfl ⟨hS1022.cell 0 rfl 1 rfl, trivial⟩ ?_
        refine WL.cutV (T := Bool) 8 (fun t => [(66, (.bool t)), (0, (.slice A_p0 p0.length c_p0)), (2, (.bool p2)), (4, (.pointer (some ⟨g806, 0, none⟩))), (8, (.int .i64 (rdD p1.Cells x977 0))), (9, (.int .i64 (Int.tmod x977 p1.Width))), (10, (.int .i64 (w64 (Int.tdiv x977 p1.Width)))), (12, (.slice A_p1_Cells p1.Cells.length c_p1_Cells)), (13, (.int .i64 (p1.Cells.length : Int))), (14, (.int .i64 x977))]) (fun t => ((decide (w64 ((w64 (Int.tdiv x977 p1.Width)) + 1) < p1.Height)) || p2) = t) (fun K => ?_) ?_
        ·
          rcases Bool.eq_false_or_eq_true (decide (w64 ((w64 (Int.tdiv x977 p1.Width)) + 1) < p1.Height)) with h1026 | h1026
          ·
            refine WL.setB 64 h1026 rfl ?_
            refine seg 8 [] [0, 2, 4, 8, 9, 10, 12, 13, 14, 66] [(0, (.slice A_p0 p0.length c_p0)), (2, (.bool p2)), (4, (.pointer (some ⟨g806, 0, none⟩))), (8, (.int .i64 (rdD p1.Cells x977 0))), (9, (.int .i64 (Int.tmod x977 p1.Width))), (10, (.int .i64 (w64 (Int.tdiv x977 p1.Width)))), (12, (.slice A_p1_Cells p1.Cells.length c_p1_Cells)), (13, (.int .i64 (p1.Cells.length : Int))), (14, (.int .i64 x977)), (66, (.bool true))] [] (fun fb => by kernel_rfl) rfl trivial ?_
            exact WL.toV K true [66, 0, 2, 4, 8, 9, 10, 12, 13, 14] rfl (by first | (rw [h1026]; done) | (rw [h1026]; rfl))
          refine WL.setB 64 h1026 rfl ?_
          refine seg 8 [] [0, 2, 4, 8, 9, 10, 12, 13, 14, 66] [(0, (.slice A_p0 p0.length c_p0)), (2, (.bool p2)), (4, (.pointer (some ⟨g806, 0, none⟩))), (8, (.int .i64 (rdD p1.Cells x977 0))), (9, (.int .i64 (Int.tmod x977 p1.Width))), (10, (.int .i64 (w64 (Int.tdiv x977 p1.Width)))), (12, (.slice A_p1_Cells p1.Cells.length c_p1_Cells)), (13, (.int .i64 (p1.Cells.length : Int))), (14, (.int .i64 x977)), (66, (.bool p2))] [] (fun fb => by kernel_rfl) rfl trivial ?_
          exact WL.toV K p2 [66, 0, 2, 4, 8, 9, 10, 12, 13, 14] rfl (by first | (rw [h1026]; done) | (rw [h1026]; rfl))
        rintro b1027 rfl
        refine WL.done rfl ?_
        refine WX.next ?_
        obtain ⟨x1044, hx1045, hl983⟩ := bind_some hl983
        refine WC.cutN (T := Unit) (fun t => [(0, (.slice A_p0 p0.length c_p0)), (2, (.bool p2)), (4, (.pointer (some ⟨g806, 0, none⟩))), (12, (.slice A_p1_Cells p1.Cells.length c_p1_Cells)), (13, (.int .i64 (p1.Cells.length : Int))), (14, (.int .i64 x977))]) (fun t w1 => St NoS w w1 [rowR enc_Tile A_p0 c_p0 p0, rowR encInt A_p1_Cells c_p1_Cells p1.Cells] [blk g806 (.cells #[(.int .i64 p1.Width), (.int .i64 p1.Height), (.slice A_p1_Cells p1.Cells.length c_p1_Cells)] 38 (0, 0))] ∧ x1044 = .inr t) (fun Kx1044 => ?_) ?_
        ·
          rcases br_some hx1045 with ⟨h1046, hx1045⟩ | ⟨h1046, hx1045⟩
          · refine WC.condT2 (fun fb => by kernel_rfl) h1046 ?_
            refine WC.seq ?_
            obtain ⟨h1057, hx1045⟩ := as_some hx1045
            obtain ⟨h1058, hx1045⟩ := as_some hx1045
            obtain ⟨h1059, hx1045⟩ := as_some hx1045
            obtain ⟨h1060, hx1045⟩ := as_some hx1045
            refine WC.regionD ([(4, ((adr A_p0).add (((rdD p1.Cells x977 0)).toNat * 4)), (.int .i64 ((rdD p0 (rdD p1.Cells x977 0) z_Tile).N))), (7, ⟨g806, 2, none⟩, (.slice A_p1_Cells p1.Cells.length c_p1_Cells)), (11, ⟨g806, 1, none⟩, (.int .i64 p1.Height)), (14, ⟨g806, 0, none⟩, (.int .i64 p1.Width)), (19, ((adr A_p1_Cells).add ((w64 ((w64 ((Int.tmod (w64 ((w64 (Int.tdiv x977 p1.Width)) + 1)) p1.Height) * p1.Width)) + (Int.tmod x977 p1.Width))).toNat * 1)), (.int .i64 (rdD p1.Cells (w64 ((w64 ((Int.tmod (w64 ((w64 (Int.tdiv x977 p1.Width)) + 1)) p1.Height) * p1.Width)) + (Int.tmod x977 p1.Width))) 0))), (22, (((adr A_p0).add (((rdD p1.Cells (w64 ((w64 ((Int.tmod (w64 ((w64 (Int.tdiv x977 p1.Width)) + 1)) p1.Height) * p1.Width)) + (Int.tmod x977 p1.Width))) 0)).toNat * 4)).add 2), (.int .i64 ((rdD p0 (rdD p1.Cells (w64 ((w64 ((Int.tmod (w64 ((w64 (Int.tdiv x977 p1.Width)) + 1)) p1.Height) * p1.Width)) + (Int.tmod x977 p1.Width))) 0) z_Tile).S)))], [0, 1, 2, 3, 4, 5, 6, 7, 8, 9, 10, 11, 12, 13, 14, 15, 16, 17, 18, 19, 20, 21, 22, 23], [[], [], [0, 1], [0, 1, 2], [0, 1, 2, 3], [], [], [6], [], [8], [], [10], [8, 9, 10, 11], [], [13], [8, 9, 10, 11, 12, 13, 14], [], [8, 9, 10, 11, 12, 13, 14, 15, 16], [6, 7, 8, 9, 10, 11, 12, 13, 14, 15, 16, 17], [6, 7, 8, 9, 10, 11, 12, 13, 14, 15, 16, 17, 18], [5, 6, 7, 8, 9, 10, 11, 12, 13, 14, 15, 16, 17, 18, 19], [5, 6, 7, 8, 9, 10, 11, 12, 13, 14, 15, 16, 17, 18, 19, 20], [5, 6, 7, 8, 9, 10, 11, 12, 13, 14, 15, 16, 17, 18, 19, 20, 21], [0, 1, 2, 3, 4, 5, 6, 7, 8, 9, 10, 11, 12, 13, 14, 15, 16, 17, 18, 19, 20, 21, 22]]) [[0, 1, 2, 3, 4, 5, 6, 7, 8, 9, 10, 11, 12, 13, 14, 15, 16, 17, 18, 19, 20, 21, 22, 23]] (by kernel_rfl) (by kernel_rfl) (NoPanic.seq (NoPanic.block (NoPanic.seq (NoPanic.seq (NoPanic.block (NoPanic.seq (NoPanic.body))))))) ?_
            have hS1052 := hS1022.drew
            revert hS1052
            generalize World.drew w1021 = w1051
            intro hS1052
            refine ⟨⟨rowR.cell (hS1052.rd 0).1 z_Tile h1057.1 h1057.2 0 rfl, hS1052.cell 0 rfl 2 rfl, hS1052.cell 0 rfl 1 rfl, hS1052.cell 0 rfl 0 rfl, rowR.cell (hS1052.rd 1).1 0 h1059.1 h1059.2 0 rfl, rowR.cell (hS1052.rd 0).1 z_Tile h1060.1 h1060.2 2 rfl, trivial⟩, forallC ?_ (forallN)⟩
            refine segF 24 [.v (.int .i64 ((rdD p0 (rdD p1.Cells x977 0) z_Tile).N)), .v (.slice A_p1_Cells p1.Cells.length c_p1_Cells), .v (.int .i64 p1.Height), .v (.int .i64 p1.Width), .v (.int .i64 (rdD p1.Cells (w64 ((w64 ((Int.tmod (w64 ((w64 (Int.tdiv x977 p1.Width)) + 1)) p1.Height) * p1.Width)) + (Int.tmod x977 p1.Width))) 0)), .v (.int .i64 ((rdD p0 (rdD p1.Cells (w64 ((w64 ((Int.tmod (w64 ((w64 (Int.tdiv x977 p1.Width)) + 1)) p1.Height) * p1.Width)) + (Int.tmod x977 p1.Width))) 0) z_Tile).S))] [0, 2, 4, 12, 13, 14, 90] [(0, (.slice A_p0 p0.length c_p0)), (2, (.bool p2)), (4, (.pointer (some ⟨g806, 0, none⟩))), (12, (.slice A_p1_Cells p1.Cells.length c_p1_Cells)), (13, (.int .i64 (p1.Cells.length : Int))), (14, (.int .i64 x977)), (90, (.bool (((rdD p0 (rdD p1.Cells x977 0) z_Tile).N) != ((rdD p0 (rdD p1.Cells (w64 ((w64 ((Int.tmod (w64 ((w64 (Int.tdiv x977 p1.Width)) + 1)) p1.Height) * p1.Width)) + (Int.tmod x977 p1.Width))) 0) z_Tile).S))))] [.idx A_p0 (rdD p1.Cells x977 0) p0.length, .ne p1.Height, .idx A_p1_Cells (w64 ((w64 ((Int.tmod (w64 ((w64 (Int.tdiv x977 p1.Width)) + 1)) p1.Height) * p1.Width)) + (Int.tmod x977 p1.Width))) p1.Cells.length, .idx A_p0 (rdD p1.Cells (w64 ((w64 ((Int.tmod (w64 ((w64 (Int.tdiv x977 p1.Width)) + 1)) p1.Height) * p1.Width)) + (Int.tmod x977 p1.Width))) 0) p0.length] [0, 1, 2, 3, 4, 5] [(4, ((adr A_p0).add (((rdD p1.Cells x977 0)).toNat * 4)), (.int .i64 ((rdD p0 (rdD p1.Cells x977 0) z_Tile).N))), (7, ⟨g806, 2, none⟩, (.slice A_p1_Cells p1.Cells.length c_p1_Cells)), (11, ⟨g806, 1, none⟩, (.int .i64 p1.Height)), (14, ⟨g806, 0, none⟩, (.int .i64 p1.Width)), (19, ((adr A_p1_Cells).add ((w64 ((w64 ((Int.tmod (w64 ((w64 (Int.tdiv x977 p1.Width)) + 1)) p1.Height) * p1.Width)) + (Int.tmod x977 p1.Width))).toNat * 1)), (.int .i64 (rdD p1.Cells (w64 ((w64 ((Int.tmod (w64 ((w64 (Int.tdiv x977 p1.Width)) + 1)) p1.Height) * p1.Width)) + (Int.tmod x977 p1.Width))) 0))), (22, (((adr A_p0).add (((rdD p1.Cells (w64 ((w64 ((Int.tmod (w64 ((w64 (Int.tdiv x977 p1.Width)) + 1)) p1.Height) * p1.Width)) + (Int.tmod x977 p1.Width))) 0)).toNat * 4)).add 2), (.int .i64 ((rdD p0 (rdD p1.Cells (w64 ((w64 ((Int.tmod (w64 ((w64 (Int.tdiv x977 p1.Width)) + 1)) p1.Height) * p1.Width)) + (Int.tmod x977 p1.Width))) 0) z_Tile).S)))] (fun fb => by kernel_rfl) rfl ⟨rowR.adr (hS1052.rd 0).1 h1057.1 h1057.2, h1058, rowR.adr (hS1052.rd 1).1 h1059.1 h1059.2, rowR.adr (hS1052.rd 0).1 h1060.1 h1060.2, trivial⟩ rfl ?_
            refine WL.done rfl ?_
            refine WX.next ?_
            rcases br_some hx1045 with ⟨h1061, hx1045⟩ | ⟨h1061, hx1045⟩
            · refine WC.condT2 (fun fb => by kernel_rfl) h1061 ?_
              refine WC.seq ?_
              refine WC.region ?_
              refine seg 1 [] [6] [(6, (.bool false))] [] (fun fb => by kernel_rfl) rfl trivial ?_
              refine WL.done rfl ?_
              refine WX.next ?_
              refine WC.ret ?_
              injection hx1045 with hx1045
              subst hx1045
              injection hl983 with hl983
              subst hl983
              injection hf with hf
              subst hf
              exact WX.blockR (WX.thenR (WX.thenR (WX.blockR (WX.thenR (WX.ret_ [] (.bool false) [] (fun fb => by kernel_rfl) trivial ⟨_, rfl, rfl, hS1052.keep⟩)))))
            refine WC.condF2 (fun fb => by kernel_rfl) h1061 ?_
            refine WC.skip ?_
            injection hx1045 with hx1045
            exact WX.to Kx1044 () [0, 2, 4, 12, 13, 14] rfl ⟨(hS1052.subR [0, 1]).sub [0] (by decide), hx1045.symm⟩
          refine WC.condF2 (fun fb => by kernel_rfl) h1046 ?_
          refine WC.skip ?_
          injection hx1045 with hx1045
          exact WX.to Kx1044 () [0, 2, 4, 12, 13, 14] rfl ⟨(hS1022.subR [0, 1]).sub [0] (by decide), hx1045.symm⟩
        rintro y1065 w1062 ⟨hS1063, hq1064⟩
        subst hq1064
        have hl983 := sum_inr hl983
        refine WX.blockN (WX.next ?_)
        refine WC.region ?_
        refine seg 2 [] [0, 2, 4, 12, 13, 14] [(0, (.slice A_p0 p0.length c_p0)), (2, (.bool p2)), (4, (.pointer (some ⟨g806, 0, none⟩))), (12, (.slice A_p1_Cells p1.Cells.length c_p1_Cells)), (13, (.int .i64 (p1.Cells.length : Int))), (14, (.int .i64 (w64 (x977 + 1))))] [] (fun fb => by kernel_rfl) rfl trivial ?_
        refine WL.done rfl ?_
        exact WX.again k980 (Nat.lt_succ_self _) (w64 (x977 + 1)) [0, 2, 4, 12, 13, 14] rfl ⟨(hS1063.subR [0, 1]).sub [0] (by decide), hl983⟩
      refine WC.condF2 (fun fb => by kernel_rfl) h984 ?_
      refine WC.exit ?_
      injection hl983 with hl983
      exact WX.thenX (WX.thenX (WX.blockHere (WX.to Kx978 () [] rfl ⟨(hS982.subR [0, 1]).sub [] (by decide), hl983.symm⟩)))
  rintro y1070 w1067 ⟨hS1068, hq1069⟩
  subst hq1069
  have hf := sum_inr hf
  refine WX.next ?_
  refine WC.seq ?_
  refine WC.region ?_
  refine seg 1 [] [6] [(6, (.bool true))] [] (fun fb => by kernel_rfl) rfl trivial ?_
  refine WL.done rfl ?_
  refine WX.next ?_
  refine WC.ret ?_
  injection hf with hf
  subst hf
  exact WX.ret_ [] (.bool true) [] (fun fb => by kernel_rfl) trivial ⟨_, rfl, rfl, hS1068.keep⟩
theorem tile_Repeats_calls (k : Nat) (p0 : List Tile) (p1 : Pattern) (A_p0 : Option Addr) (c_p0 : Nat) (A_p1_Cells : Option Addr) (c_p1_Cells : Nat) (r : Bool) (w : World) (hR0 : RO NoS w (rowR enc_Tile A_p0 c_p0 p0)) (hR1 : RO NoS w (rowR encInt A_p1_Cells c_p1_Cells p1.Cells)) (hf : tile_Repeats k p0 p1 = some r) :
    CallsR Try.prog 27 #[(.slice A_p0 p0.length c_p0), (.agg #[(.int .i64 p1.Width), (.int .i64 p1.Height), (.slice A_p1_Cells p1.Cells.length c_p1_Cells)])] w (fun v w' => v = (.bool r) ∧ Keeps NoS w w') := by
  have hS : St NoS w w [rowR enc_Tile A_p0 c_p0 p0, rowR encInt A_p1_Cells c_p1_Cells p1.Cells] [] := St.init (ro_cons hR0 (ro_cons hR1 (ro_nil _ _)))
  refine enter 13 Try.func27 rfl Try.ntmps27 rfl ?_
  unfold tile_Repeats at hf
  refine WC.seq ?_
  refine WC.region ?_
  refine WL.new hS 3 [] (fun g => (.pointer (some ⟨g, 0, none⟩))) (.cells #[(.int .i64 p1.Width), (.int .i64 p1.Height), (.slice A_p1_Cells p1.Cells.length c_p1_Cells)] 38 (0, 0)) [] (fun fb g => by kernel_rfl) trivial (fun g514 w515 hS516 => ?_)
  refine ⟨trivial, ?_⟩
  refine seg 2 [] [0, 3] [(0, (.slice A_p0 p0.length c_p0)), (3, (.pointer (some ⟨g514, 0, none⟩)))] [] (fun fb => by kernel_rfl) rfl trivial ?_
  refine WL.done rfl ?_
  refine WX.next ?_
  refine WC.seq ?_
  refine WC.region ?_
  refine seg 2 [.v (.int .i64 p1.Width), .v (.int .i64 p1.Height), .v (.slice A_p1_Cells p1.Cells.length c_p1_Cells)] [0, 3, 5, 6] [(0, (.slice A_p0 p0.length c_p0)), (3, (.pointer (some ⟨g514, 0, none⟩))), (5, (.slice A_p0 p0.length c_p0)), (6, (.agg #[(.int .i64 p1.Width), (.int .i64 p1.Height), (.slice A_p1_Cells p1.Cells.length c_p1_Cells)]))] [.cell ⟨g514, 0, none⟩ (.int .i64 p1.Width), .cell ⟨g514, 1, none⟩ (.int .i64 p1.Height), .cell ⟨g514, 2, none⟩ (.slice A_p1_Cells p1.Cells.length c_p1_Cells)] (fun fb => by kernel_rfl) rfl ⟨hS516.cell 0 rfl 0 rfl, hS516.cell 0 rfl 1 rfl, hS516.cell 0 rfl 2 rfl, trivial⟩ ?_
  obtain ⟨t801, ht802, hf⟩ := bind_some hf
  refine WL.call (some 7) 48 #[(.slice A_p0 p0.length c_p0), (.agg #[(.int .i64 p1.Width), (.int .i64 p1.Height), (.slice A_p1_Cells p1.Cells.length c_p1_Cells)])] (fun fb => by kernel_rfl) (tile_of_calls _ p0 p1 A_p0 c_p0 A_p1_Cells c_p1_Cells t801 _ (hS516.rd 0) (hS516.rd 1) ht802) (fun v w803 hR804 => ?_)
  obtain ⟨rfl, hk_⟩ := hR804
  have hS805 := hS516.keepN hk_
  refine ⟨trivial, ?_⟩
  refine seg 4 [] [0, 3, 8] [(0, (.slice A_p0 p0.length c_p0)), (3, (.pointer (some ⟨g514, 0, none⟩))), (8, (.bool t801))] [] (fun fb => by kernel_rfl) rfl trivial ?_
  obtain ⟨x1078, hx1079, hf⟩ := bind_some hf
  refine WL.cutW (T := Bool) 8 (fun t => [(12, (.bool t))]) (fun t w1 => (St NoS w w1 [rowR enc_Tile A_p0 c_p0 p0, rowR encInt A_p1_Cells c_p1_Cells p1.Cells] [] ∧ x1078 = t) ∧ CellsOK [] w1) (fun K => ?_) ?_
  ·
    rcases br_some hx1079 with ⟨h1080, hx1079⟩ | ⟨h1080, hx1079⟩
    ·
      refine WL.setB 8 h1080 rfl ?_
      refine seg 6 [.v (.int .i64 p1.Width), .v (.int .i64 p1.Height), .v (.slice A_p1_Cells p1.Cells.length c_p1_Cells)] [8, 9, 10] [(8, (.bool true)), (9, (.slice A_p0 p0.length c_p0)), (10, (.agg #[(.int .i64 p1.Width), (.int .i64 p1.Height), (.slice A_p1_Cells p1.Cells.length c_p1_Cells)]))] [.cell ⟨g514, 0, none⟩ (.int .i64 p1.Width), .cell ⟨g514, 1, none⟩ (.int .i64 p1.Height), .cell ⟨g514, 2, none⟩ (.slice A_p1_Cells p1.Cells.length c_p1_Cells)] (fun fb => by kernel_rfl) rfl ⟨hS805.cell 0 rfl 0 rfl, hS805.cell 0 rfl 1 rfl, hS805.cell 0 rfl 2 rfl, trivial⟩ ?_
      obtain ⟨t1081, ht1082, hx1079⟩ := bind_some hx1079
      refine WL.call (some 11) 49 #[(.slice A_p0 p0.length c_p0), (.agg #[(.int .i64 p1.Width), (.int .i64 p1.Height), (.slice A_p1_Cells p1.Cells.length c_p1_Cells)]), (.bool true)] (fun fb => by kernel_rfl) (tile_joins_calls _ p0 p1 true A_p0 c_p0 A_p1_Cells c_p1_Cells t1081 _ (hS805.rd 0) (hS805.rd 1) ht1082) (fun v w1083 hR1084 => ?_)
      obtain ⟨rfl, hk_⟩ := hR1084
      have hS1085 := hS805.keepN hk_
      refine ⟨trivial, ?_⟩
      refine seg 8 [] [12] [(12, (.bool t1081))] [] (fun fb => by kernel_rfl) rfl trivial ?_
      injection hx1079 with hx1079
      exact WL.to K t1081 [12] rfl ⟨⟨(hS1085.subR [0, 1]).sub [] (by decide), hx1079.symm⟩, trivial⟩
    refine WL.setB 8 h1080 rfl ?_
    refine seg 8 [] [12] [(12, (.bool false))] [] (fun fb => by kernel_rfl) rfl trivial ?_
    injection hx1079 with hx1079
    exact WL.to K false [12] rfl ⟨⟨(hS805.subR [0, 1]).sub [] (by decide), hx1079.symm⟩, trivial⟩
  rintro y1086 w1088 ⟨⟨hS1089, hq1087⟩, hF1090⟩
  subst hq1087
  refine seg 9 [] [4] [(4, (.bool x1078))] [] (fun fb => by kernel_rfl) rfl trivial ?_
  refine WL.done rfl ?_
  refine WX.next ?_
  refine WC.ret ?_
  injection hf with hf
  subst hf
  exact WX.ret_ [] (.bool x1078) [] (fun fb => by kernel_rfl) trivial ⟨_, rfl, rfl, hS1089.keep⟩
theorem top_sameInts_calls (k : Nat) (p0 : List Int) (p1 : List Int) (A_p0 : Option Addr) (c_p0 : Nat) (A_p1 : Option Addr) (c_p1 : Nat) (r : Bool) (w : World) (hR0 : RO NoS w (rowR encInt A_p0 c_p0 p0)) (hR1 : RO NoS w (rowR encInt A_p1 c_p1 p1)) (hf : top_sameInts k p0 p1 = some r) :
    CallsR Try.prog 52 #[(.slice A_p0 p0.length c_p0), (.slice A_p1 p1.length c_p1)] w (fun v w' => v = (.bool r) ∧ Keeps NoS w w') := by
  have hS : St NoS w w [rowR encInt A_p0 c_p0 p0, rowR encInt A_p1 c_p1 p1] [] := St.init (ro_cons hR0 (ro_cons hR1 (ro_nil _ _)))
  refine enter 26 Try.func52 rfl Try.ntmps52 rfl ?_
  unfold top_sameInts at hf
  refine WC.seq ?_
  refine WC.region ?_
  refine seg 1 [] [0, 1] [(0, (.slice A_p0 p0.length c_p0)), (1, (.slice A_p1 p1.length c_p1))] [] (fun fb => by kernel_rfl) rfl trivial ?_
  refine WL.done rfl ?_
  refine WX.next ?_
  refine WC.seq ?_
  refine WC.seq ?_
  refine WC.region ?_
  refine seg 5 [] [0, 1, 10] [(0, (.slice A_p0 p0.length c_p0)), (1, (.slice A_p1 p1.length c_p1)), (10, (.bool ((p0.length : Int) != (p1.length : Int))))] [] (fun fb => by kernel_rfl) rfl trivial ?_
  refine WL.done rfl ?_
  refine WX.next ?_
  rcases br_some hf with ⟨h1146, hf⟩ | ⟨h1146, hf⟩
  · refine WC.condT2 (fun fb => by kernel_rfl) h1146 ?_
    refine WC.seq ?_
    refine WC.region ?_
    refine seg 1 [] [4] [(4, (.bool false))] [] (fun fb => by kernel_rfl) rfl trivial ?_
    refine WL.done rfl ?_
    refine WX.next ?_
    refine WC.ret ?_
    injection hf with hf
    subst hf
    exact WX.thenR (WX.ret_ [] (.bool false) [] (fun fb => by kernel_rfl) trivial ⟨_, rfl, rfl, hS.keep⟩)
  refine WC.condF2 (fun fb => by kernel_rfl) h1146 ?_
  refine WC.skip ?_
  refine WX.next ?_
  refine WC.seq ?_
  refine WC.seq ?_
  refine WC.region ?_
  refine seg 1 [] [0, 1, 5] [(0, (.slice A_p0 p0.length c_p0)), (1, (.slice A_p1 p1.length c_p1)), (5, (.int .i64 0))] [] (fun fb => by kernel_rfl) rfl trivial ?_
  refine WL.done rfl ?_
  refine WX.next ?_
  obtain ⟨x1169, hx1170, hf⟩ := bind_some hf
  refine WC.cutN (T := Unit) (fun t => []) (fun t w1 => St NoS w w1 [rowR encInt A_p0 c_p0 p0, rowR encInt A_p1 c_p1 p1] [] ∧ x1169 = .inr t) (fun Kx1169 => ?_) ?_
  ·
    refine WC.block ?_
    refine WC.loop (T := Int) (fun t => [(0, (.slice A_p0 p0.length c_p0)), (1, (.slice A_p1 p1.length c_p1)), (5, (.int .i64 t))]) (fun n t w1 => St NoS w w1 [rowR encInt A_p0 c_p0 p0, rowR encInt A_p1 c_p1 p1] [] ∧ top_sameInts.l0 n t p0 p1 = some x1169) k 0 [0, 1, 5] rfl ⟨(hS.subR [0, 1]).sub [] (by decide), hx1170⟩ ?_
    rintro k1171 x1168 w1172 ⟨hS1173, hl1174⟩
    cases k1171 with
    | zero => rw [top_sameInts.l0] at hl1174; cases hl1174
    | succ k1171 =>
      rw [top_sameInts.l0] at hl1174
      refine WC.seq ?_
      refine WC.seq ?_
      refine WC.region ?_
      refine seg 4 [] [0, 1, 5, 14] [(0, (.slice A_p0 p0.length c_p0)), (1, (.slice A_p1 p1.length c_p1)), (5, (.int .i64 x1168)), (14, (.bool (decide (x1168 < (p0.length : Int)))))] [] (fun fb => by kernel_rfl) rfl trivial ?_
      refine WL.done rfl ?_
      refine WX.next ?_
      rcases br_some hl1174 with ⟨h1175, hl1174⟩ | ⟨h1175, hl1174⟩
      · refine WC.condT2 (fun fb => by kernel_rfl) h1175 ?_
        refine WC.skip ?_
        refine WX.next ?_
        refine WC.seq ?_
        refine WC.block ?_
        refine WC.seq ?_
        obtain ⟨h1182, hl1174⟩ := as_some hl1174
        obtain ⟨h1183, hl1174⟩ := as_some hl1174
        refine WC.regionD ([(3, ((adr A_p0).add ((x1168).toNat * 1)), (.int .i64 (rdD p0 x1168 0))), (7, ((adr A_p1).add ((x1168).toNat * 1)), (.int .i64 (rdD p1 x1168 0)))], [0, 1, 2, 3, 4, 5, 6, 7, 8], [[], [], [0, 1], [0, 1, 2], [], [], [4, 5], [4, 5, 6], [0, 1, 2, 3, 4, 5, 6, 7]]) [[0, 1, 2, 3, 4, 5, 6, 7, 8]] (by kernel_rfl) (by kernel_rfl) (NoPanic.seq (NoPanic.block (NoPanic.seq (NoPanic.seq (NoPanic.block (NoPanic.seq (NoPanic.body))))))) ?_
        have hS1179 := hS1173.drew
        revert hS1179
        generalize World.drew w1172 = w1178
        intro hS1179
        refine ⟨⟨rowR.cell (hS1179.rd 0).1 0 h1182.1 h1182.2 0 rfl, rowR.cell (hS1179.rd 1).1 0 h1183.1 h1183.2 0 rfl, trivial⟩, forallC ?_ (forallN)⟩
        refine segF 9 [.v (.int .i64 (rdD p0 x1168 0)), .v (.int .i64 (rdD p1 x1168 0))] [0, 1, 5, 25] [(0, (.slice A_p0 p0.length c_p0)), (1, (.slice A_p1 p1.length c_p1)), (5, (.int .i64 x1168)), (25, (.bool ((rdD p0 x1168 0) != (rdD p1 x1168 0))))] [.idx A_p0 x1168 p0.length, .idx A_p1 x1168 p1.length] [0, 1] [(3, ((adr A_p0).add ((x1168).toNat * 1)), (.int .i64 (rdD p0 x1168 0))), (7, ((adr A_p1).add ((x1168).toNat * 1)), (.int .i64 (rdD p1 x1168 0)))] (fun fb => by kernel_rfl) rfl ⟨rowR.adr (hS1179.rd 0).1 h1182.1 h1182.2, rowR.adr (hS1179.rd 1).1 h1183.1 h1183.2, trivial⟩ rfl ?_
        refine WL.done rfl ?_
        refine WX.next ?_
        rcases br_some hl1174 with ⟨h1184, hl1174⟩ | ⟨h1184, hl1174⟩
        · refine WC.condT2 (fun fb => by kernel_rfl) h1184 ?_
          refine WC.seq ?_
          refine WC.region ?_
          refine seg 1 [] [4] [(4, (.bool false))] [] (fun fb => by kernel_rfl) rfl trivial ?_
          refine WL.done rfl ?_
          refine WX.next ?_
          refine WC.ret ?_
          injection hl1174 with hl1174
          subst hl1174
          injection hf with hf
          subst hf
          exact WX.blockR (WX.thenR (WX.thenR (WX.blockR (WX.thenR (WX.ret_ [] (.bool false) [] (fun fb => by kernel_rfl) trivial ⟨_, rfl, rfl, hS1179.keep⟩)))))
        refine WC.condF2 (fun fb => by kernel_rfl) h1184 ?_
        refine WC.skip ?_
        refine WX.blockN (WX.next ?_)
        refine WC.region ?_
        refine seg 3 [] [0, 1, 5] [(0, (.slice A_p0 p0.length c_p0)), (1, (.slice A_p1 p1.length c_p1)), (5, (.int .i64 (w64 (x1168 + 1))))] [] (fun fb => by kernel_rfl) rfl trivial ?_
        refine WL.done rfl ?_
        exact WX.again k1171 (Nat.lt_succ_self _) (w64 (x1168 + 1)) [0, 1, 5] rfl ⟨(hS1179.subR [0, 1]).sub [] (by decide), hl1174⟩
      refine WC.condF2 (fun fb => by kernel_rfl) h1175 ?_
      refine WC.exit ?_
      injection hl1174 with hl1174
      exact WX.thenX (WX.thenX (WX.blockHere (WX.to Kx1169 () [] rfl ⟨(hS1173.subR [0, 1]).sub [] (by decide), hl1174.symm⟩)))
  rintro y1188 w1185 ⟨hS1186, hq1187⟩
  subst hq1187
  have hf := sum_inr hf
  refine WX.next ?_
  refine WC.seq ?_
  refine WC.region ?_
  refine seg 1 [] [4] [(4, (.bool true))] [] (fun fb => by kernel_rfl) rfl trivial ?_
  refine WL.done rfl ?_
  refine WX.next ?_
  refine WC.ret ?_
  injection hf with hf
  subst hf
  exact WX.ret_ [] (.bool true) [] (fun fb => by kernel_rfl) trivial ⟨_, rfl, rfl, hS1186.keep⟩
theorem tile_Fits_calls (k : Nat) (p0 : List Tile) (p1 : Pattern) (A_p0 : Option Addr) (c_p0 : Nat) (A_p1_Cells : Option Addr) (c_p1_Cells : Nat) (r : Bool) (w : World) (hR0 : RO NoS w (rowR enc_Tile A_p0 c_p0 p0)) (hR1 : RO NoS w (rowR encInt A_p1_Cells c_p1_Cells p1.Cells)) (hf : tile_Fits k p0 p1 = some r) :
    CallsR Try.prog 53 #[(.slice A_p0 p0.length c_p0), (.agg #[(.int .i64 p1.Width), (.int .i64 p1.Height), (.slice A_p1_Cells p1.Cells.length c_p1_Cells)])] w (fun v w' => v = (.bool r) ∧ Keeps NoS w w') := by
  have hS : St NoS w w [rowR enc_Tile A_p0 c_p0 p0, rowR encInt A_p1_Cells c_p1_Cells p1.Cells] [] := St.init (ro_cons hR0 (ro_cons hR1 (ro_nil _ _)))
  refine enter 13 Try.func53 rfl Try.ntmps53 rfl ?_
  unfold tile_Fits at hf
  refine WC.seq ?_
  refine WC.region ?_
  refine WL.new hS 3 [] (fun g => (.pointer (some ⟨g, 0, none⟩))) (.cells #[(.int .i64 p1.Width), (.int .i64 p1.Height), (.slice A_p1_Cells p1.Cells.length c_p1_Cells)] 38 (0, 0)) [] (fun fb g => by kernel_rfl) trivial (fun g1221 w1222 hS1223 => ?_)
  refine ⟨trivial, ?_⟩
  refine seg 2 [] [0, 3] [(0, (.slice A_p0 p0.length c_p0)), (3, (.pointer (some ⟨g1221, 0, none⟩)))] [] (fun fb => by kernel_rfl) rfl trivial ?_
  refine WL.done rfl ?_
  refine WX.next ?_
  refine WC.seq ?_
  refine WC.region ?_
  refine seg 2 [.v (.int .i64 p1.Width), .v (.int .i64 p1.Height), .v (.slice A_p1_Cells p1.Cells.length c_p1_Cells)] [0, 3, 5, 6] [(0, (.slice A_p0 p0.length c_p0)), (3, (.pointer (some ⟨g1221, 0, none⟩))), (5, (.slice A_p0 p0.length c_p0)), (6, (.agg #[(.int .i64 p1.Width), (.int .i64 p1.Height), (.slice A_p1_Cells p1.Cells.length c_p1_Cells)]))] [.cell ⟨g1221, 0, none⟩ (.int .i64 p1.Width), .cell ⟨g1221, 1, none⟩ (.int .i64 p1.Height), .cell ⟨g1221, 2, none⟩ (.slice A_p1_Cells p1.Cells.length c_p1_Cells)] (fun fb => by kernel_rfl) rfl ⟨hS1223.cell 0 rfl 0 rfl, hS1223.cell 0 rfl 1 rfl, hS1223.cell 0 rfl 2 rfl, trivial⟩ ?_
  obtain ⟨t1225, ht1226, hf⟩ := bind_some hf
  refine WL.call (some 7) 48 #[(.slice A_p0 p0.length c_p0), (.agg #[(.int .i64 p1.Width), (.int .i64 p1.Height), (.slice A_p1_Cells p1.Cells.length c_p1_Cells)])] (fun fb => by kernel_rfl) (tile_of_calls _ p0 p1 A_p0 c_p0 A_p1_Cells c_p1_Cells t1225 _ (hS1223.rd 0) (hS1223.rd 1) ht1226) (fun v w1227 hR1228 => ?_)
  obtain ⟨rfl, hk_⟩ := hR1228
  have hS1229 := hS1223.keepN hk_
  refine ⟨trivial, ?_⟩
  refine seg 4 [] [0, 3, 8] [(0, (.slice A_p0 p0.length c_p0)), (3, (.pointer (some ⟨g1221, 0, none⟩))), (8, (.bool t1225))] [] (fun fb => by kernel_rfl) rfl trivial ?_
  obtain ⟨x1236, hx1237, hf⟩ := bind_some hf
  refine WL.cutW (T := Bool) 8 (fun t => [(12, (.bool t))]) (fun t w1 => (St NoS w w1 [rowR enc_Tile A_p0 c_p0 p0, rowR encInt A_p1_Cells c_p1_Cells p1.Cells] [] ∧ x1236 = t) ∧ CellsOK [] w1) (fun K => ?_) ?_
  ·
    rcases br_some hx1237 with ⟨h1238, hx1237⟩ | ⟨h1238, hx1237⟩
    ·
      refine WL.setB 8 h1238 rfl ?_
      refine seg 6 [.v (.int .i64 p1.Width), .v (.int .i64 p1.Height), .v (.slice A_p1_Cells p1.Cells.length c_p1_Cells)] [8, 9, 10] [(8, (.bool true)), (9, (.slice A_p0 p0.length c_p0)), (10, (.agg #[(.int .i64 p1.Width), (.int .i64 p1.Height), (.slice A_p1_Cells p1.Cells.length c_p1_Cells)]))] [.cell ⟨g1221, 0, none⟩ (.int .i64 p1.Width), .cell ⟨g1221, 1, none⟩ (.int .i64 p1.Height), .cell ⟨g1221, 2, none⟩ (.slice A_p1_Cells p1.Cells.length c_p1_Cells)] (fun fb => by kernel_rfl) rfl ⟨hS1229.cell 0 rfl 0 rfl, hS1229.cell 0 rfl 1 rfl, hS1229.cell 0 rfl 2 rfl, trivial⟩ ?_
      obtain ⟨t1239, ht1240, hx1237⟩ := bind_some hx1237
      refine WL.call (some 11) 49 #[(.slice A_p0 p0.length c_p0), (.agg #[(.int .i64 p1.Width), (.int .i64 p1.Height), (.slice A_p1_Cells p1.Cells.length c_p1_Cells)]), (.bool false)] (fun fb => by kernel_rfl) (tile_joins_calls _ p0 p1 false A_p0 c_p0 A_p1_Cells c_p1_Cells t1239 _ (hS1229.rd 0) (hS1229.rd 1) ht1240) (fun v w1241 hR1242 => ?_)
      obtain ⟨rfl, hk_⟩ := hR1242
      have hS1243 := hS1229.keepN hk_
      refine ⟨trivial, ?_⟩
      refine seg 8 [] [12] [(12, (.bool t1239))] [] (fun fb => by kernel_rfl) rfl trivial ?_
      injection hx1237 with hx1237
      exact WL.to K t1239 [12] rfl ⟨⟨(hS1243.subR [0, 1]).sub [] (by decide), hx1237.symm⟩, trivial⟩
    refine WL.setB 8 h1238 rfl ?_
    refine seg 8 [] [12] [(12, (.bool false))] [] (fun fb => by kernel_rfl) rfl trivial ?_
    injection hx1237 with hx1237
    exact WL.to K false [12] rfl ⟨⟨(hS1229.subR [0, 1]).sub [] (by decide), hx1237.symm⟩, trivial⟩
  rintro y1244 w1246 ⟨⟨hS1247, hq1245⟩, hF1248⟩
  subst hq1245
  refine seg 9 [] [4] [(4, (.bool x1236))] [] (fun fb => by kernel_rfl) rfl trivial ?_
  refine WL.done rfl ?_
  refine WX.next ?_
  refine WC.ret ?_
  injection hf with hf
  subst hf
  exact WX.ret_ [] (.bool x1236) [] (fun fb => by kernel_rfl) trivial ⟨_, rfl, rfl, hS1247.keep⟩
theorem top_lives_calls (k : Nat)   (r : Bool) (w : World)  (hf : top_lives k = some r) :
    CallsR Try.prog 28 #[] w (fun v w' => v = (.bool r) ∧ Keeps NoS w w') := by
  have hS : St NoS w w [] [] := St.init (ro_nil _ _)
  refine enter 36 Try.func28 rfl Try.ntmps28 rfl ?_
  unfold top_lives at hf
  refine WC.seq ?_
  refine WC.region ?_
  refine seg 1 [] [] [] [] (fun fb => by kernel_rfl) rfl trivial ?_
  refine WL.done rfl ?_
  refine WX.next ?_
  refine WC.seq ?_
  refine WC.region ?_
  refine WL.new hS 4 [] (fun g => (.slice (some ⟨g, 0, none⟩) 4 4)) (.cells #[(.int .i64 0), (.int .i64 1), (.int .i64 1), (.int .i64 0)] 3 (0, 0)) [] (fun fb g => by kernel_rfl) trivial (fun g8 w9 hS10 => ?_)
  refine ⟨trivial, ?_⟩
  have hS12 : St NoS w w9 [] [rowO 3 encInt (some ⟨g8, 0, none⟩) 4 [0, 1, 1, 0]] := hS10.map1 0 _ (fun h => rowO.ofBlk h rfl (Nat.le_of_ble_eq_true (by kernel_rfl))) (fun _ h => by obtain ⟨_, h1, h2⟩ := h; injection h1 with h1; subst h1; exact h2) [] (by decide) (by decide)
  refine seg 2 [] [5] [(5, (.agg #[(.int .i64 2), (.int .i64 2), (.slice (some ⟨g8, 0, none⟩) [0, 1, 1, 0].length 4)]))] [] (fun fb => by kernel_rfl) rfl trivial ?_
  refine WL.new hS12 1 [] (fun g => (.pointer (some ⟨g, 0, none⟩))) (.cells #[(.int .i64 0), (.int .i64 0), (.slice none 0 0)] 38 (0, 0)) [] (fun fb g => by kernel_rfl) trivial (fun g13 w14 hS15 => ?_)
  refine ⟨trivial, ?_⟩
  refine WL.store hS15 0 rfl [(0, (.int .i64 2)), (1, (.int .i64 2)), (2, (.slice (some ⟨g8, 0, none⟩) [0, 1, 1, 0].length 4))] #[(.int .i64 2), (.int .i64 2), (.slice (some ⟨g8, 0, none⟩) [0, 1, 1, 0].length 4)] (fun fb => by kernel_rfl) (by kernel_rfl) rfl [1] (by decide) (by decide) (fun w17 hS18 => ?_)
  refine ⟨trivial, ?_⟩
  refine WL.done rfl ?_
  refine WX.next ?_
  refine WC.seq ?_
  refine WC.region ?_
  refine seg 1 [.v (.int .i64 2), .v (.int .i64 2), .v (.slice (some ⟨g8, 0, none⟩) [0, 1, 1, 0].length 4)] [1, 7] [(1, (.pointer (some ⟨g13, 0, none⟩))), (7, (.agg #[(.int .i64 2), (.int .i64 2), (.slice (some ⟨g8, 0, none⟩) [0, 1, 1, 0].length 4)]))] [.cell ⟨g13, 0, none⟩ (.int .i64 2), .cell ⟨g13, 1, none⟩ (.int .i64 2), .cell ⟨g13, 2, none⟩ (.slice (some ⟨g8, 0, none⟩) [0, 1, 1, 0].length 4)] (fun fb => by kernel_rfl) rfl ⟨hS18.cell 0 rfl 0 rfl, hS18.cell 0 rfl 1 rfl, hS18.cell 0 rfl 2 rfl, trivial⟩ ?_
  obtain ⟨t489, ht490, hf⟩ := bind_some hf
  refine WL.call (some 8) 50 #[(.agg #[(.int .i64 2), (.int .i64 2), (.slice (some ⟨g8, 0, none⟩) [0, 1, 1, 0].length 4)]), (.int .i64 3), (.int .i64 1)] (fun fb => by kernel_rfl) (tile_Repeat_calls _ (Pattern.mk 2 2 [0, 1, 1, 0]) 3 1 (some ⟨g8, 0, none⟩) 4 t489 _ (hS18.ow 1).ofO ht490) (fun v w491 hR492 => ?_)
  obtain ⟨A494, c495, rfl, hk_⟩ := hR492
  have hS493 : St NoS w w491 [] [rowO 3 encInt A494 c495 t489.1.Cells, blk g13 (.cells #[(.int .i64 2), (.int .i64 2), (.slice (some ⟨g8, 0, none⟩) [0, 1, 1, 0].length 4)] 38 (0, 0)), rowO 3 encInt (some ⟨g8, 0, none⟩) 4 [0, 1, 1, 0]] := hS18.call hk_ [] [0, 1] (fun g hg => hg.elim) (by simp) (by decide)
  refine ⟨trivial, ?_⟩
  refine seg 5 [] [1, 9, 10] [(1, (.pointer (some ⟨g13, 0, none⟩))), (9, (.agg #[(.int .i64 t489.1.Width), (.int .i64 t489.1.Height), (.slice A494 t489.1.Cells.length c495)])), (10, (.int .i64 t489.2))] [] (fun fb => by kernel_rfl) rfl trivial ?_
  refine WL.new hS493 2 [] (fun g => (.pointer (some ⟨g, 0, none⟩))) (.cells #[(.int .i64 0), (.int .i64 0), (.slice none 0 0)] 38 (0, 0)) [] (fun fb g => by kernel_rfl) trivial (fun g496 w497 hS498 => ?_)
  refine ⟨trivial, ?_⟩
  refine WL.store hS498 0 rfl [(0, (.int .i64 t489.1.Width)), (1, (.int .i64 t489.1.Height)), (2, (.slice A494 t489.1.Cells.length c495))] #[(.int .i64 t489.1.Width), (.int .i64 t489.1.Height), (.slice A494 t489.1.Cells.length c495)] (fun fb => by kernel_rfl) (by kernel_rfl) rfl [1, 2, 3] (by decide) (by decide) (fun w500 hS501 => ?_)
  refine ⟨trivial, ?_⟩
  refine seg 8 [] [1, 2, 3] [(1, (.pointer (some ⟨g13, 0, none⟩))), (2, (.pointer (some ⟨g496, 0, none⟩))), (3, (.int .i64 t489.2))] [] (fun fb => by kernel_rfl) rfl trivial ?_
  refine WL.done rfl ?_
  refine WX.next ?_
  refine WC.seq ?_
  obtain ⟨x1516, hx1517, hf⟩ := bind_some hf
  refine WC.cutN (T := Bool) (fun t => [(0, (.bool t))]) (fun t w1 => St NoS w w1 [] [] ∧ x1516 = t) (fun Kx1516 => ?_) ?_
  ·
    refine WC.regionD ([(1, ⟨g13, 0, none⟩, (.int .i64 2)), (1, ⟨g13, 1, none⟩, (.int .i64 2)), (1, ⟨g13, 2, none⟩, (.slice (some ⟨g8, 0, none⟩) [0, 1, 1, 0].length 4)), (16, ⟨g496, 2, none⟩, (.slice A494 t489.1.Cells.length c495)), (22, ⟨g496, 0, none⟩, (.int .i64 t489.1.Width)), (22, ⟨g496, 1, none⟩, (.int .i64 t489.1.Height)), (22, ⟨g496, 2, none⟩, (.slice A494 t489.1.Cells.length c495))], [1, 3, 6, 8, 9, 10, 11, 12, 13, 14, 15, 16, 19, 20, 22, 24, 25], [[], [], [0, 1], [0, 1, 2], [0, 1, 2, 3], [0, 1, 2, 3], [0, 1, 2, 3, 5], [0, 1, 2, 3, 4, 5, 6], [0, 1, 2, 3, 4, 5, 6, 7], [0, 1, 2, 3, 4, 5, 6, 7, 8], [0, 1, 2, 3, 4, 5, 6, 7, 8, 9], [0, 1, 2, 3, 4, 5, 6, 7, 8, 9, 10], [0, 1, 2, 3, 4, 5, 6, 7, 8, 9, 10, 11], [0, 1, 2, 3, 4, 5, 6, 7, 8, 9, 10, 11, 12], [0, 1, 2, 3, 4, 5, 6, 7, 8, 9, 10, 11, 12, 13], [0, 1, 2, 3, 4, 5, 6, 7, 8, 9, 10, 11, 12, 13, 14], [0, 1, 2, 3, 4, 5, 6, 7, 8, 9, 10, 11, 12, 13, 14, 15], [0, 1, 2, 3, 4, 5, 6, 7, 8, 9, 10, 11, 12, 13, 14], [0, 1, 2, 3, 4, 5, 6, 7, 8, 9, 10, 11, 12, 13, 14, 15, 16, 17], [0, 1, 2, 3, 4, 5, 6, 7, 8, 9, 10, 11, 12, 13, 14, 15, 16, 17, 18], [0, 1, 2, 3, 4, 5, 6, 7, 8, 9, 10, 11, 12, 13, 14, 15, 16, 17, 18, 19], [0, 1, 2, 3, 4, 5, 6, 7, 8, 9, 10, 11, 12, 13, 14, 15, 16, 17, 18, 19, 20], [0, 1, 2, 3, 4, 5, 6, 7, 8, 9, 10, 11, 12, 13, 14, 15, 16, 17, 18, 19, 20], [0, 1, 2, 3, 4, 5, 6, 7, 8, 9, 10, 11, 12, 13, 14, 15, 16, 17, 18, 19, 20, 21, 22], [0, 1, 2, 3, 4, 5, 6, 7, 8, 9, 10, 11, 12, 13, 14, 15, 16, 17, 18, 19, 20, 21, 22, 23], [0, 1, 2, 3, 4, 5, 6, 7, 8, 9, 10, 11, 12, 13, 14, 15, 16, 17, 18, 19, 20, 21, 22, 23, 24]]) [[1, 0, 2, 3, 4, 5, 6, 7, 8, 9, 10, 11, 12, 13, 14, 15, 16, 17, 18, 19, 20, 22, 21, 23, 24, 25], [1, 0, 2, 3, 5, 6, 4, 7, 8, 9, 10, 11, 12, 13, 14, 15, 16, 17, 18, 19, 20, 22, 21, 23, 24, 25]] (by kernel_rfl) (by kernel_rfl) (NoPanic.seq (NoPanic.body)) ?_
    have hS1519 := hS501.drew
    revert hS1519
    generalize World.drew w500 = w1518
    intro hS1519
    refine ⟨⟨hS1519.cell 2 rfl 0 rfl, hS1519.cell 2 rfl 1 rfl, hS1519.cell 2 rfl 2 rfl, hS1519.cell 0 rfl 2 rfl, hS1519.cell 0 rfl 0 rfl, hS1519.cell 0 rfl 1 rfl, hS1519.cell 0 rfl 2 rfl, trivial⟩, forallC ?_ (forallC ?_ (forallN))⟩
    ·
      refine segF 1 [.v (.int .i64 2), .v (.int .i64 2), .v (.slice (some ⟨g8, 0, none⟩) [0, 1, 1, 0].length 4)] [2, 3, 12] [(2, (.pointer (some ⟨g496, 0, none⟩))), (3, (.int .i64 t489.2)), (12, (.agg #[(.int .i64 2), (.int .i64 2), (.slice (some ⟨g8, 0, none⟩) [0, 1, 1, 0].length 4)]))] [] [0, 1, 2] [(1, ⟨g13, 0, none⟩, (.int .i64 2)), (1, ⟨g13, 1, none⟩, (.int .i64 2)), (1, ⟨g13, 2, none⟩, (.slice (some ⟨g8, 0, none⟩) [0, 1, 1, 0].length 4))] (fun fb => by kernel_rfl) rfl trivial rfl ?_
      obtain ⟨t1520, ht1521, hx1517⟩ := bind_some hx1517
      refine WL.call (some 11) 51 #[] (fun fb => by kernel_rfl) (top_chess_calls t1520 _ ht1521) (fun v w1522 hR1523 => ?_)
      obtain ⟨A1525, c1526, rfl, hk_⟩ := hR1523
      have hS1524 : St NoS w w1522 [] [rowO 24 enc_Tile A1525 c1526 t1520, blk g496 (.cells #[(.int .i64 t489.1.Width), (.int .i64 t489.1.Height), (.slice A494 t489.1.Cells.length c495)] 38 (0, 0)), rowO 3 encInt A494 c495 t489.1.Cells, blk g13 (.cells #[(.int .i64 2), (.int .i64 2), (.slice (some ⟨g8, 0, none⟩) [0, 1, 1, 0].length 4)] 38 (0, 0)), rowO 3 encInt (some ⟨g8, 0, none⟩) 4 [0, 1, 1, 0]] := hS1519.call hk_ [] [0, 1, 2, 3] (fun g hg => hg.elim) (by simp) (by decide)
      refine ⟨⟨hS1524.cell 3 rfl 0 rfl, hS1524.cell 3 rfl 1 rfl, hS1524.cell 3 rfl 2 rfl, hS1524.cell 1 rfl 2 rfl, hS1524.cell 1 rfl 0 rfl, hS1524.cell 1 rfl 1 rfl, hS1524.cell 1 rfl 2 rfl, trivial⟩, ?_⟩
      obtain ⟨t1527, ht1528, hx1517⟩ := bind_some hx1517
      refine WL.call (some 13) 27 #[(.slice A1525 t1520.length c1526), (.agg #[(.int .i64 2), (.int .i64 2), (.slice (some ⟨g8, 0, none⟩) [0, 1, 1, 0].length 4)])] (fun fb => by kernel_rfl) (tile_Repeats_calls _ t1520 (Pattern.mk 2 2 [0, 1, 1, 0]) A1525 c1526 (some ⟨g8, 0, none⟩) 4 t1527 _ (hS1524.ow 0).ofO (hS1524.ow 4).ofO ht1528) (fun v w1529 hR1530 => ?_)
      obtain ⟨rfl, hk_⟩ := hR1530
      have hS1531 := hS1524.keepN hk_
      refine ⟨⟨hS1531.cell 1 rfl 2 rfl, hS1531.cell 1 rfl 0 rfl, hS1531.cell 1 rfl 1 rfl, hS1531.cell 1 rfl 2 rfl, trivial⟩, ?_⟩
      refine seg 4 [] [2, 3, 14] [(2, (.pointer (some ⟨g496, 0, none⟩))), (3, (.int .i64 t489.2)), (14, (.bool t1527))] [] (fun fb => by kernel_rfl) rfl trivial ?_
      obtain ⟨x1550, hx1551, hx1517⟩ := bind_some hx1517
      refine WL.cutW (T := Bool) 10 (fun t => [(2, (.pointer (some ⟨g496, 0, none⟩))), (3, (.int .i64 t489.2)), (20, (.bool t))]) (fun t w1 => (St NoS w w1 [] [blk g496 (.cells #[(.int .i64 t489.1.Width), (.int .i64 t489.1.Height), (.slice A494 t489.1.Cells.length c495)] 38 (0, 0)), rowO 3 encInt A494 c495 t489.1.Cells] ∧ x1550 = t) ∧ CellsOK [] w1) (fun K => ?_) ?_
      ·
        rcases br_some hx1551 with ⟨h1552, hx1551⟩ | ⟨h1552, hx1551⟩
        ·
          refine WL.setB 14 h1552 rfl ?_
          obtain ⟨t1553, ht1554, hx1551⟩ := bind_some hx1551
          refine WL.call (some 15) 51 #[] (fun fb => by kernel_rfl) (top_chess_calls t1553 _ ht1554) (fun v w1555 hR1556 => ?_)
          obtain ⟨A1558, c1559, rfl, hk_⟩ := hR1556
          have hS1557 : St NoS w w1555 [] [rowO 24 enc_Tile A1558 c1559 t1553, rowO 24 enc_Tile A1525 c1526 t1520, blk g496 (.cells #[(.int .i64 t489.1.Width), (.int .i64 t489.1.Height), (.slice A494 t489.1.Cells.length c495)] 38 (0, 0)), rowO 3 encInt A494 c495 t489.1.Cells, blk g13 (.cells #[(.int .i64 2), (.int .i64 2), (.slice (some ⟨g8, 0, none⟩) [0, 1, 1, 0].length 4)] 38 (0, 0)), rowO 3 encInt (some ⟨g8, 0, none⟩) 4 [0, 1, 1, 0]] := hS1531.call hk_ [] [0, 1, 2, 3, 4] (fun g hg => hg.elim) (by simp) (by decide)
          refine ⟨⟨hS1557.cell 2 rfl 2 rfl, hS1557.cell 2 rfl 0 rfl, hS1557.cell 2 rfl 1 rfl, hS1557.cell 2 rfl 2 rfl, trivial⟩, ?_⟩
          refine WL.new hS1557 16 [] (fun g => (.slice (some ⟨g, 0, none⟩) 1 1)) (.cells #[(.int .i64 0)] 3 (0, 0)) [] (fun fb g => by kernel_rfl) trivial (fun g1560 w1561 hS1562 => ?_)
          refine ⟨⟨hS1562.cell 3 rfl 2 rfl, hS1562.cell 3 rfl 0 rfl, hS1562.cell 3 rfl 1 rfl, hS1562.cell 3 rfl 2 rfl, trivial⟩, ?_⟩
          have hS1564 : St NoS w w1561 [] [rowO 3 encInt (some ⟨g1560, 0, none⟩) 1 [0], rowO 24 enc_Tile A1558 c1559 t1553, rowO 24 enc_Tile A1525 c1526 t1520, blk g496 (.cells #[(.int .i64 t489.1.Width), (.int .i64 t489.1.Height), (.slice A494 t489.1.Cells.length c495)] 38 (0, 0)), rowO 3 encInt A494 c495 t489.1.Cells, blk g13 (.cells #[(.int .i64 2), (.int .i64 2), (.slice (some ⟨g8, 0, none⟩) [0, 1, 1, 0].length 4)] 38 (0, 0)), rowO 3 encInt (some ⟨g8, 0, none⟩) 4 [0, 1, 1, 0]] := hS1562.map1 0 _ (fun h => rowO.ofBlk h rfl (Nat.le_of_ble_eq_true (by kernel_rfl))) (fun _ h => by obtain ⟨_, h1, h2⟩ := h; injection h1 with h1; subst h1; exact h2) [1, 2, 3, 4, 5, 6] (by decide) (by decide)
          refine seg 7 [] [2, 3, 14, 15, 17] [(2, (.pointer (some ⟨g496, 0, none⟩))), (3, (.int .i64 t489.2)), (14, (.bool true)), (15, (.slice A1558 t1553.length c1559)), (17, (.agg #[(.int .i64 1), (.int .i64 1), (.slice (some ⟨g1560, 0, none⟩) [0].length 1)]))] [] (fun fb => by kernel_rfl) rfl trivial ?_
          obtain ⟨t1565, ht1566, hx1551⟩ := bind_some hx1551
          refine WL.call (some 18) 27 #[(.slice A1558 t1553.length c1559), (.agg #[(.int .i64 1), (.int .i64 1), (.slice (some ⟨g1560, 0, none⟩) [0].length 1)])] (fun fb => by kernel_rfl) (tile_Repeats_calls _ t1553 (Pattern.mk 1 1 [0]) A1558 c1559 (some ⟨g1560, 0, none⟩) 1 t1565 _ (hS1564.ow 1).ofO (hS1564.ow 0).ofO ht1566) (fun v w1567 hR1568 => ?_)
          obtain ⟨rfl, hk_⟩ := hR1568
          have hS1569 := hS1564.keepN hk_
          refine ⟨⟨hS1569.cell 3 rfl 2 rfl, hS1569.cell 3 rfl 0 rfl, hS1569.cell 3 rfl 1 rfl, hS1569.cell 3 rfl 2 rfl, trivial⟩, ?_⟩
          refine seg 10 [] [2, 3, 20] [(2, (.pointer (some ⟨g496, 0, none⟩))), (3, (.int .i64 t489.2)), (20, (.bool (!t1565)))] [] (fun fb => by kernel_rfl) rfl trivial ?_
          injection hx1551 with hx1551
          exact WL.to K (!t1565) [2, 3, 20] rfl ⟨⟨(hS1569.subR []).sub [3, 4] (by decide), hx1551.symm⟩, trivial⟩
        refine WL.setB 14 h1552 rfl ?_
        refine seg 10 [] [2, 3, 20] [(2, (.pointer (some ⟨g496, 0, none⟩))), (3, (.int .i64 t489.2)), (20, (.bool false))] [] (fun fb => by kernel_rfl) rfl trivial ?_
        injection hx1551 with hx1551
        exact WL.to K false [2, 3, 20] rfl ⟨⟨(hS1531.subR []).sub [1, 2] (by decide), hx1551.symm⟩, trivial⟩
      rintro y1570 w1572 ⟨⟨hS1573, hq1571⟩, hF1574⟩
      subst hq1571
      refine seg 11 [] [2, 3, 21] [(2, (.pointer (some ⟨g496, 0, none⟩))), (3, (.int .i64 t489.2)), (21, (.bool x1550))] [] (fun fb => by kernel_rfl) rfl trivial ?_
      refine WL.cutV (T := Bool) 14 (fun t => [(24, (.bool t)), (2, (.pointer (some ⟨g496, 0, none⟩)))]) (fun t => (x1550 && (t489.2 == 0)) = t) (fun K => ?_) ?_
      ·
        rcases Bool.eq_false_or_eq_true x1550 with h1575 | h1575
        ·
          refine WL.setB 21 h1575 rfl ?_
          refine seg 14 [] [2, 24] [(2, (.pointer (some ⟨g496, 0, none⟩))), (24, (.bool (t489.2 == 0)))] [] (fun fb => by kernel_rfl) rfl trivial ?_
          exact WL.toV K (t489.2 == 0) [24, 2] rfl (by first | (rw [h1575]; done) | (rw [h1575]; rfl))
        refine WL.setB 21 h1575 rfl ?_
        refine seg 14 [] [2, 24] [(2, (.pointer (some ⟨g496, 0, none⟩))), (24, (.bool false))] [] (fun fb => by kernel_rfl) rfl trivial ?_
        exact WL.toV K false [24, 2] rfl (by first | (rw [h1575]; done) | (rw [h1575]; rfl))
      rintro b1576 rfl
      refine seg 15 [] [2, 25] [(2, (.pointer (some ⟨g496, 0, none⟩))), (25, (.bool (x1550 && (t489.2 == 0))))] [] (fun fb => by kernel_rfl) rfl trivial ?_
      obtain ⟨x1588, hx1589, hx1517⟩ := bind_some hx1517
      refine WL.cutW (T := Bool) 20 (fun t => [(2, (.pointer (some ⟨g496, 0, none⟩))), (30, (.bool t))]) (fun t w1 => (St NoS w w1 [] [blk g496 (.cells #[(.int .i64 t489.1.Width), (.int .i64 t489.1.Height), (.slice A494 t489.1.Cells.length c495)] 38 (0, 0)), rowO 3 encInt A494 c495 t489.1.Cells] ∧ x1588 = t) ∧ CellsOK [] w1) (fun K => ?_) ?_
      ·
        rcases br_some hx1589 with ⟨h1590, hx1589⟩ | ⟨h1590, hx1589⟩
        ·
          refine WL.setB 25 h1590 rfl ?_
          refine segF 17 [.v (.slice A494 t489.1.Cells.length c495)] [2, 25, 27] [(2, (.pointer (some ⟨g496, 0, none⟩))), (25, (.bool true)), (27, (.slice A494 t489.1.Cells.length c495))] [] [3] [(16, ⟨g496, 2, none⟩, (.slice A494 t489.1.Cells.length c495))] (fun fb => by kernel_rfl) rfl trivial rfl ?_
          refine WL.new hS1573 28 [] (fun g => (.slice (some ⟨g, 0, none⟩) 3 3)) (.cells #[(.int .i64 0), (.int .i64 1), (.int .i64 0)] 3 (0, 0)) [] (fun fb g => by kernel_rfl) trivial (fun g1591 w1592 hS1593 => ?_)
          refine ⟨⟨hS1593.cell 1 rfl 2 rfl, hS1593.cell 1 rfl 0 rfl, hS1593.cell 1 rfl 1 rfl, hS1593.cell 1 rfl 2 rfl, trivial⟩, ?_⟩
          have hS1595 : St NoS w w1592 [] [rowO 3 encInt (some ⟨g1591, 0, none⟩) 3 [0, 1, 0], blk g496 (.cells #[(.int .i64 t489.1.Width), (.int .i64 t489.1.Height), (.slice A494 t489.1.Cells.length c495)] 38 (0, 0)), rowO 3 encInt A494 c495 t489.1.Cells] := hS1593.map1 0 _ (fun h => rowO.ofBlk h rfl (Nat.le_of_ble_eq_true (by kernel_rfl))) (fun _ h => by obtain ⟨_, h1, h2⟩ := h; injection h1 with h1; subst h1; exact h2) [1, 2] (by decide) (by decide)
          obtain ⟨t1596, ht1597, hx1589⟩ := bind_some hx1589
          refine WL.call (some 29) 52 #[(.slice A494 t489.1.Cells.length c495), (.slice (some ⟨g1591, 0, none⟩) [0, 1, 0].length 3)] (fun fb => by kernel_rfl) (top_sameInts_calls _ t489.1.Cells [0, 1, 0] A494 c495 (some ⟨g1591, 0, none⟩) 3 t1596 _ (hS1595.ow 2).ofO (hS1595.ow 0).ofO ht1597) (fun v w1598 hR1599 => ?_)
          obtain ⟨rfl, hk_⟩ := hR1599
          have hS1600 := hS1595.keepN hk_
          refine ⟨⟨hS1600.cell 1 rfl 0 rfl, hS1600.cell 1 rfl 1 rfl, hS1600.cell 1 rfl 2 rfl, trivial⟩, ?_⟩
          refine seg 20 [] [2, 30] [(2, (.pointer (some ⟨g496, 0, none⟩))), (30, (.bool t1596))] [] (fun fb => by kernel_rfl) rfl trivial ?_
          injection hx1589 with hx1589
          exact WL.to K t1596 [2, 30] rfl ⟨⟨(hS1600.subR []).sub [1, 2] (by decide), hx1589.symm⟩, trivial⟩
        refine WL.setB 25 h1590 rfl ?_
        refine seg 20 [] [2, 30] [(2, (.pointer (some ⟨g496, 0, none⟩))), (30, (.bool false))] [] (fun fb => by kernel_rfl) rfl trivial ?_
        injection hx1589 with hx1589
        exact WL.to K false [2, 30] rfl ⟨⟨(hS1573.subR []).sub [0, 1] (by decide), hx1589.symm⟩, trivial⟩
      rintro y1601 w1603 ⟨⟨hS1604, hq1602⟩, hF1605⟩
      subst hq1602
      refine seg 21 [] [2, 31] [(2, (.pointer (some ⟨g496, 0, none⟩))), (31, (.bool x1588))] [] (fun fb => by kernel_rfl) rfl trivial ?_
      obtain ⟨x1619, hx1620, hx1517⟩ := bind_some hx1517
      refine WL.cutW (T := Bool) 25 (fun t => [(35, (.bool t))]) (fun t w1 => (St NoS w w1 [] [] ∧ x1619 = t) ∧ CellsOK [] w1) (fun K => ?_) ?_
      ·
        rcases br_some hx1620 with ⟨h1621, hx1620⟩ | ⟨h1621, hx1620⟩
        ·
          refine WL.setB 31 h1621 rfl ?_
          refine segF 22 [.v (.int .i64 t489.1.Width), .v (.int .i64 t489.1.Height), .v (.slice A494 t489.1.Cells.length c495)] [31, 33] [(31, (.bool true)), (33, (.agg #[(.int .i64 t489.1.Width), (.int .i64 t489.1.Height), (.slice A494 t489.1.Cells.length c495)]))] [] [4, 5, 6] [(22, ⟨g496, 0, none⟩, (.int .i64 t489.1.Width)), (22, ⟨g496, 1, none⟩, (.int .i64 t489.1.Height)), (22, ⟨g496, 2, none⟩, (.slice A494 t489.1.Cells.length c495))] (fun fb => by kernel_rfl) rfl trivial rfl ?_
          obtain ⟨t1622, ht1623, hx1620⟩ := bind_some hx1620
          refine WL.call (some 32) 51 #[] (fun fb => by kernel_rfl) (top_chess_calls t1622 _ ht1623) (fun v w1624 hR1625 => ?_)
          obtain ⟨A1627, c1628, rfl, hk_⟩ := hR1625
          have hS1626 : St NoS w w1624 [] [rowO 24 enc_Tile A1627 c1628 t1622, blk g496 (.cells #[(.int .i64 t489.1.Width), (.int .i64 t489.1.Height), (.slice A494 t489.1.Cells.length c495)] 38 (0, 0)), rowO 3 encInt A494 c495 t489.1.Cells] := hS1604.call hk_ [] [0, 1] (fun g hg => hg.elim) (by simp) (by decide)
          refine ⟨⟨hS1626.cell 1 rfl 0 rfl, hS1626.cell 1 rfl 1 rfl, hS1626.cell 1 rfl 2 rfl, trivial⟩, ?_⟩
          obtain ⟨t1629, ht1630, hx1620⟩ := bind_some hx1620
          refine WL.call (some 34) 53 #[(.slice A1627 t1622.length c1628), (.agg #[(.int .i64 t489.1.Width), (.int .i64 t489.1.Height), (.slice A494 t489.1.Cells.length c495)])] (fun fb => by kernel_rfl) (tile_Fits_calls _ t1622 t489.1 A1627 c1628 A494 c495 t1629 _ (hS1626.ow 0).ofO (hS1626.ow 2).ofO ht1630) (fun v w1631 hR1632 => ?_)
          obtain ⟨rfl, hk_⟩ := hR1632
          have hS1633 := hS1626.keepN hk_
          refine ⟨trivial, ?_⟩
          refine seg 25 [] [35] [(35, (.bool t1629))] [] (fun fb => by kernel_rfl) rfl trivial ?_
          injection hx1620 with hx1620
          exact WL.to K t1629 [35] rfl ⟨⟨(hS1633.subR []).sub [] (by decide), hx1620.symm⟩, trivial⟩
        refine WL.setB 31 h1621 rfl ?_
        refine seg 25 [] [35] [(35, (.bool false))] [] (fun fb => by kernel_rfl) rfl trivial ?_
        injection hx1620 with hx1620
        exact WL.to K false [35] rfl ⟨⟨(hS1604.subR []).sub [] (by decide), hx1620.symm⟩, trivial⟩
      rintro y1634 w1636 ⟨⟨hS1637, hq1635⟩, hF1638⟩
      subst hq1635
      refine seg 26 [] [0] [(0, (.bool x1619))] [] (fun fb => by kernel_rfl) rfl trivial ?_
      refine WL.done rfl ?_
      injection hx1517 with hx1517
      exact WX.to Kx1516 x1619 [0] rfl ⟨(hS1637.subR []).sub [] (by decide), hx1517.symm⟩
    refine segF 1 [.v (.int .i64 2), .v (.int .i64 2), .v (.slice (some ⟨g8, 0, none⟩) [0, 1, 1, 0].length 4)] [2, 3, 12] [(2, (.pointer (some ⟨g496, 0, none⟩))), (3, (.int .i64 t489.2)), (12, (.agg #[(.int .i64 2), (.int .i64 2), (.slice (some ⟨g8, 0, none⟩) [0, 1, 1, 0].length 4)]))] [] [0, 1, 2] [(1, ⟨g13, 0, none⟩, (.int .i64 2)), (1, ⟨g13, 1, none⟩, (.int .i64 2)), (1, ⟨g13, 2, none⟩, (.slice (some ⟨g8, 0, none⟩) [0, 1, 1, 0].length 4))] (fun fb => by kernel_rfl) rfl trivial rfl ?_
    obtain ⟨t1639, ht1640, hx1517⟩ := bind_some hx1517
    refine WL.call (some 11) 51 #[] (fun fb => by kernel_rfl) (top_chess_calls t1639 _ ht1640) (fun v w1641 hR1642 => ?_)
    obtain ⟨A1644, c1645, rfl, hk_⟩ := hR1642
    have hS1643 : St NoS w w1641 [] [rowO 24 enc_Tile A1644 c1645 t1639, blk g496 (.cells #[(.int .i64 t489.1.Width), (.int .i64 t489.1.Height), (.slice A494 t489.1.Cells.length c495)] 38 (0, 0)), rowO 3 encInt A494 c495 t489.1.Cells, blk g13 (.cells #[(.int .i64 2), (.int .i64 2), (.slice (some ⟨g8, 0, none⟩) [0, 1, 1, 0].length 4)] 38 (0, 0)), rowO 3 encInt (some ⟨g8, 0, none⟩) 4 [0, 1, 1, 0]] := hS1519.call hk_ [] [0, 1, 2, 3] (fun g hg => hg.elim) (by simp) (by decide)
    refine ⟨⟨hS1643.cell 3 rfl 0 rfl, hS1643.cell 3 rfl 1 rfl, hS1643.cell 3 rfl 2 rfl, hS1643.cell 1 rfl 2 rfl, hS1643.cell 1 rfl 0 rfl, hS1643.cell 1 rfl 1 rfl, hS1643.cell 1 rfl 2 rfl, trivial⟩, ?_⟩
    obtain ⟨t1646, ht1647, hx1517⟩ := bind_some hx1517
    refine WL.call (some 13) 27 #[(.slice A1644 t1639.length c1645), (.agg #[(.int .i64 2), (.int .i64 2), (.slice (some ⟨g8, 0, none⟩) [0, 1, 1, 0].length 4)])] (fun fb => by kernel_rfl) (tile_Repeats_calls _ t1639 (Pattern.mk 2 2 [0, 1, 1, 0]) A1644 c1645 (some ⟨g8, 0, none⟩) 4 t1646 _ (hS1643.ow 0).ofO (hS1643.ow 4).ofO ht1647) (fun v w1648 hR1649 => ?_)
    obtain ⟨rfl, hk_⟩ := hR1649
    have hS1650 := hS1643.keepN hk_
    refine ⟨⟨hS1650.cell 1 rfl 2 rfl, hS1650.cell 1 rfl 0 rfl, hS1650.cell 1 rfl 1 rfl, hS1650.cell 1 rfl 2 rfl, trivial⟩, ?_⟩
    refine seg 4 [] [2, 3, 14] [(2, (.pointer (some ⟨g496, 0, none⟩))), (3, (.int .i64 t489.2)), (14, (.bool t1646))] [] (fun fb => by kernel_rfl) rfl trivial ?_
    obtain ⟨x1669, hx1670, hx1517⟩ := bind_some hx1517
    refine WL.cutW (T := Bool) 10 (fun t => [(2, (.pointer (some ⟨g496, 0, none⟩))), (3, (.int .i64 t489.2)), (20, (.bool t))]) (fun t w1 => (St NoS w w1 [] [blk g496 (.cells #[(.int .i64 t489.1.Width), (.int .i64 t489.1.Height), (.slice A494 t489.1.Cells.length c495)] 38 (0, 0)), rowO 3 encInt A494 c495 t489.1.Cells] ∧ x1669 = t) ∧ CellsOK [] w1) (fun K => ?_) ?_
    ·
      rcases br_some hx1670 with ⟨h1671, hx1670⟩ | ⟨h1671, hx1670⟩
      ·
        refine WL.setB 14 h1671 rfl ?_
        refine WL.new hS1650 16 [] (fun g => (.slice (some ⟨g, 0, none⟩) 1 1)) (.cells #[(.int .i64 0)] 3 (0, 0)) [] (fun fb g => by kernel_rfl) trivial (fun g1672 w1673 hS1674 => ?_)
        refine ⟨⟨hS1674.cell 2 rfl 2 rfl, hS1674.cell 2 rfl 0 rfl, hS1674.cell 2 rfl 1 rfl, hS1674.cell 2 rfl 2 rfl, trivial⟩, ?_⟩
        have hS1676 : St NoS w w1673 [] [rowO 3 encInt (some ⟨g1672, 0, none⟩) 1 [0], rowO 24 enc_Tile A1644 c1645 t1639, blk g496 (.cells #[(.int .i64 t489.1.Width), (.int .i64 t489.1.Height), (.slice A494 t489.1.Cells.length c495)] 38 (0, 0)), rowO 3 encInt A494 c495 t489.1.Cells, blk g13 (.cells #[(.int .i64 2), (.int .i64 2), (.slice (some ⟨g8, 0, none⟩) [0, 1, 1, 0].length 4)] 38 (0, 0)), rowO 3 encInt (some ⟨g8, 0, none⟩) 4 [0, 1, 1, 0]] := hS1674.map1 0 _ (fun h => rowO.ofBlk h rfl (Nat.le_of_ble_eq_true (by kernel_rfl))) (fun _ h => by obtain ⟨_, h1, h2⟩ := h; injection h1 with h1; subst h1; exact h2) [1, 2, 3, 4, 5] (by decide) (by decide)
        refine seg 6 [] [2, 3, 14, 17] [(2, (.pointer (some ⟨g496, 0, none⟩))), (3, (.int .i64 t489.2)), (14, (.bool true)), (17, (.agg #[(.int .i64 1), (.int .i64 1), (.slice (some ⟨g1672, 0, none⟩) [0].length 1)]))] [] (fun fb => by kernel_rfl) rfl trivial ?_
        obtain ⟨t1677, ht1678, hx1670⟩ := bind_some hx1670
        refine WL.call (some 15) 51 #[] (fun fb => by kernel_rfl) (top_chess_calls t1677 _ ht1678) (fun v w1679 hR1680 => ?_)
        obtain ⟨A1682, c1683, rfl, hk_⟩ := hR1680
        have hS1681 : St NoS w w1679 [] [rowO 24 enc_Tile A1682 c1683 t1677, rowO 3 encInt (some ⟨g1672, 0, none⟩) 1 [0], rowO 24 enc_Tile A1644 c1645 t1639, blk g496 (.cells #[(.int .i64 t489.1.Width), (.int .i64 t489.1.Height), (.slice A494 t489.1.Cells.length c495)] 38 (0, 0)), rowO 3 encInt A494 c495 t489.1.Cells, blk g13 (.cells #[(.int .i64 2), (.int .i64 2), (.slice (some ⟨g8, 0, none⟩) [0, 1, 1, 0].length 4)] 38 (0, 0)), rowO 3 encInt (some ⟨g8, 0, none⟩) 4 [0, 1, 1, 0]] := hS1676.call hk_ [] [0, 1, 2, 3, 4, 5] (fun g hg => hg.elim) (by simp) (by decide)
        refine ⟨⟨hS1681.cell 3 rfl 2 rfl, hS1681.cell 3 rfl 0 rfl, hS1681.cell 3 rfl 1 rfl, hS1681.cell 3 rfl 2 rfl, trivial⟩, ?_⟩
        obtain ⟨t1684, ht1685, hx1670⟩ := bind_some hx1670
        refine WL.call (some 18) 27 #[(.slice A1682 t1677.length c1683), (.agg #[(.int .i64 1), (.int .i64 1), (.slice (some ⟨g1672, 0, none⟩) [0].length 1)])] (fun fb => by kernel_rfl) (tile_Repeats_calls _ t1677 (Pattern.mk 1 1 [0]) A1682 c1683 (some ⟨g1672, 0, none⟩) 1 t1684 _ (hS1681.ow 0).ofO (hS1681.ow 1).ofO ht1685) (fun v w1686 hR1687 => ?_)
        obtain ⟨rfl, hk_⟩ := hR1687
        have hS1688 := hS1681.keepN hk_
        refine ⟨⟨hS1688.cell 3 rfl 2 rfl, hS1688.cell 3 rfl 0 rfl, hS1688.cell 3 rfl 1 rfl, hS1688.cell 3 rfl 2 rfl, trivial⟩, ?_⟩
        refine seg 10 [] [2, 3, 20] [(2, (.pointer (some ⟨g496, 0, none⟩))), (3, (.int .i64 t489.2)), (20, (.bool (!t1684)))] [] (fun fb => by kernel_rfl) rfl trivial ?_
        injection hx1670 with hx1670
        exact WL.to K (!t1684) [2, 3, 20] rfl ⟨⟨(hS1688.subR []).sub [3, 4] (by decide), hx1670.symm⟩, trivial⟩
      refine WL.setB 14 h1671 rfl ?_
      refine seg 10 [] [2, 3, 20] [(2, (.pointer (some ⟨g496, 0, none⟩))), (3, (.int .i64 t489.2)), (20, (.bool false))] [] (fun fb => by kernel_rfl) rfl trivial ?_
      injection hx1670 with hx1670
      exact WL.to K false [2, 3, 20] rfl ⟨⟨(hS1650.subR []).sub [1, 2] (by decide), hx1670.symm⟩, trivial⟩
    rintro y1689 w1691 ⟨⟨hS1692, hq1690⟩, hF1693⟩
    subst hq1690
    refine seg 11 [] [2, 3, 21] [(2, (.pointer (some ⟨g496, 0, none⟩))), (3, (.int .i64 t489.2)), (21, (.bool x1669))] [] (fun fb => by kernel_rfl) rfl trivial ?_
    refine WL.cutV (T := Bool) 14 (fun t => [(24, (.bool t)), (2, (.pointer (some ⟨g496, 0, none⟩)))]) (fun t => (x1669 && (t489.2 == 0)) = t) (fun K => ?_) ?_
    ·
      rcases Bool.eq_false_or_eq_true x1669 with h1694 | h1694
      ·
        refine WL.setB 21 h1694 rfl ?_
        refine seg 14 [] [2, 24] [(2, (.pointer (some ⟨g496, 0, none⟩))), (24, (.bool (t489.2 == 0)))] [] (fun fb => by kernel_rfl) rfl trivial ?_
        exact WL.toV K (t489.2 == 0) [24, 2] rfl (by first | (rw [h1694]; done) | (rw [h1694]; rfl))
      refine WL.setB 21 h1694 rfl ?_
      refine seg 14 [] [2, 24] [(2, (.pointer (some ⟨g496, 0, none⟩))), (24, (.bool false))] [] (fun fb => by kernel_rfl) rfl trivial ?_
      exact WL.toV K false [24, 2] rfl (by first | (rw [h1694]; done) | (rw [h1694]; rfl))
    rintro b1695 rfl
    refine seg 15 [] [2, 25] [(2, (.pointer (some ⟨g496, 0, none⟩))), (25, (.bool (x1669 && (t489.2 == 0))))] [] (fun fb => by kernel_rfl) rfl trivial ?_
    obtain ⟨x1707, hx1708, hx1517⟩ := bind_some hx1517
    refine WL.cutW (T := Bool) 20 (fun t => [(2, (.pointer (some ⟨g496, 0, none⟩))), (30, (.bool t))]) (fun t w1 => (St NoS w w1 [] [blk g496 (.cells #[(.int .i64 t489.1.Width), (.int .i64 t489.1.Height), (.slice A494 t489.1.Cells.length c495)] 38 (0, 0)), rowO 3 encInt A494 c495 t489.1.Cells] ∧ x1707 = t) ∧ CellsOK [] w1) (fun K => ?_) ?_
    ·
      rcases br_some hx1708 with ⟨h1709, hx1708⟩ | ⟨h1709, hx1708⟩
      ·
        refine WL.setB 25 h1709 rfl ?_
        refine segF 17 [.v (.slice A494 t489.1.Cells.length c495)] [2, 25, 27] [(2, (.pointer (some ⟨g496, 0, none⟩))), (25, (.bool true)), (27, (.slice A494 t489.1.Cells.length c495))] [] [3] [(16, ⟨g496, 2, none⟩, (.slice A494 t489.1.Cells.length c495))] (fun fb => by kernel_rfl) rfl trivial rfl ?_
        refine WL.new hS1692 28 [] (fun g => (.slice (some ⟨g, 0, none⟩) 3 3)) (.cells #[(.int .i64 0), (.int .i64 1), (.int .i64 0)] 3 (0, 0)) [] (fun fb g => by kernel_rfl) trivial (fun g1710 w1711 hS1712 => ?_)
        refine ⟨⟨hS1712.cell 1 rfl 2 rfl, hS1712.cell 1 rfl 0 rfl, hS1712.cell 1 rfl 1 rfl, hS1712.cell 1 rfl 2 rfl, trivial⟩, ?_⟩
        have hS1714 : St NoS w w1711 [] [rowO 3 encInt (some ⟨g1710, 0, none⟩) 3 [0, 1, 0], blk g496 (.cells #[(.int .i64 t489.1.Width), (.int .i64 t489.1.Height), (.slice A494 t489.1.Cells.length c495)] 38 (0, 0)), rowO 3 encInt A494 c495 t489.1.Cells] := hS1712.map1 0 _ (fun h => rowO.ofBlk h rfl (Nat.le_of_ble_eq_true (by kernel_rfl))) (fun _ h => by obtain ⟨_, h1, h2⟩ := h; injection h1 with h1; subst h1; exact h2) [1, 2] (by decide) (by decide)
        obtain ⟨t1715, ht1716, hx1708⟩ := bind_some hx1708
        refine WL.call (some 29) 52 #[(.slice A494 t489.1.Cells.length c495), (.slice (some ⟨g1710, 0, none⟩) [0, 1, 0].length 3)] (fun fb => by kernel_rfl) (top_sameInts_calls _ t489.1.Cells [0, 1, 0] A494 c495 (some ⟨g1710, 0, none⟩) 3 t1715 _ (hS1714.ow 2).ofO (hS1714.ow 0).ofO ht1716) (fun v w1717 hR1718 => ?_)
        obtain ⟨rfl, hk_⟩ := hR1718
        have hS1719 := hS1714.keepN hk_
        refine ⟨⟨hS1719.cell 1 rfl 0 rfl, hS1719.cell 1 rfl 1 rfl, hS1719.cell 1 rfl 2 rfl, trivial⟩, ?_⟩
        refine seg 20 [] [2, 30] [(2, (.pointer (some ⟨g496, 0, none⟩))), (30, (.bool t1715))] [] (fun fb => by kernel_rfl) rfl trivial ?_
        injection hx1708 with hx1708
        exact WL.to K t1715 [2, 30] rfl ⟨⟨(hS1719.subR []).sub [1, 2] (by decide), hx1708.symm⟩, trivial⟩
      refine WL.setB 25 h1709 rfl ?_
      refine seg 20 [] [2, 30] [(2, (.pointer (some ⟨g496, 0, none⟩))), (30, (.bool false))] [] (fun fb => by kernel_rfl) rfl trivial ?_
      injection hx1708 with hx1708
      exact WL.to K false [2, 30] rfl ⟨⟨(hS1692.subR []).sub [0, 1] (by decide), hx1708.symm⟩, trivial⟩
    rintro y1720 w1722 ⟨⟨hS1723, hq1721⟩, hF1724⟩
    subst hq1721
    refine seg 21 [] [2, 31] [(2, (.pointer (some ⟨g496, 0, none⟩))), (31, (.bool x1707))] [] (fun fb => by kernel_rfl) rfl trivial ?_
    obtain ⟨x1738, hx1739, hx1517⟩ := bind_some hx1517
    refine WL.cutW (T := Bool) 25 (fun t => [(35, (.bool t))]) (fun t w1 => (St NoS w w1 [] [] ∧ x1738 = t) ∧ CellsOK [] w1) (fun K => ?_) ?_
    ·
      rcases br_some hx1739 with ⟨h1740, hx1739⟩ | ⟨h1740, hx1739⟩
      ·
        refine WL.setB 31 h1740 rfl ?_
        refine segF 22 [.v (.int .i64 t489.1.Width), .v (.int .i64 t489.1.Height), .v (.slice A494 t489.1.Cells.length c495)] [31, 33] [(31, (.bool true)), (33, (.agg #[(.int .i64 t489.1.Width), (.int .i64 t489.1.Height), (.slice A494 t489.1.Cells.length c495)]))] [] [4, 5, 6] [(22, ⟨g496, 0, none⟩, (.int .i64 t489.1.Width)), (22, ⟨g496, 1, none⟩, (.int .i64 t489.1.Height)), (22, ⟨g496, 2, none⟩, (.slice A494 t489.1.Cells.length c495))] (fun fb => by kernel_rfl) rfl trivial rfl ?_
        obtain ⟨t1741, ht1742, hx1739⟩ := bind_some hx1739
        refine WL.call (some 32) 51 #[] (fun fb => by kernel_rfl) (top_chess_calls t1741 _ ht1742) (fun v w1743 hR1744 => ?_)
        obtain ⟨A1746, c1747, rfl, hk_⟩ := hR1744
        have hS1745 : St NoS w w1743 [] [rowO 24 enc_Tile A1746 c1747 t1741, blk g496 (.cells #[(.int .i64 t489.1.Width), (.int .i64 t489.1.Height), (.slice A494 t489.1.Cells.length c495)] 38 (0, 0)), rowO 3 encInt A494 c495 t489.1.Cells] := hS1723.call hk_ [] [0, 1] (fun g hg => hg.elim) (by simp) (by decide)
        refine ⟨⟨hS1745.cell 1 rfl 0 rfl, hS1745.cell 1 rfl 1 rfl, hS1745.cell 1 rfl 2 rfl, trivial⟩, ?_⟩
        obtain ⟨t1748, ht1749, hx1739⟩ := bind_some hx1739
        refine WL.call (some 34) 53 #[(.slice A1746 t1741.length c1747), (.agg #[(.int .i64 t489.1.Width), (.int .i64 t489.1.Height), (.slice A494 t489.1.Cells.length c495)])] (fun fb => by kernel_rfl) (tile_Fits_calls _ t1741 t489.1 A1746 c1747 A494 c495 t1748 _ (hS1745.ow 0).ofO (hS1745.ow 2).ofO ht1749) (fun v w1750 hR1751 => ?_)
        obtain ⟨rfl, hk_⟩ := hR1751
        have hS1752 := hS1745.keepN hk_
        refine ⟨trivial, ?_⟩
        refine seg 25 [] [35] [(35, (.bool t1748))] [] (fun fb => by kernel_rfl) rfl trivial ?_
        injection hx1739 with hx1739
        exact WL.to K t1748 [35] rfl ⟨⟨(hS1752.subR []).sub [] (by decide), hx1739.symm⟩, trivial⟩
      refine WL.setB 31 h1740 rfl ?_
      refine seg 25 [] [35] [(35, (.bool false))] [] (fun fb => by kernel_rfl) rfl trivial ?_
      injection hx1739 with hx1739
      exact WL.to K false [35] rfl ⟨⟨(hS1723.subR []).sub [] (by decide), hx1739.symm⟩, trivial⟩
    rintro y1753 w1755 ⟨⟨hS1756, hq1754⟩, hF1757⟩
    subst hq1754
    refine seg 26 [] [0] [(0, (.bool x1738))] [] (fun fb => by kernel_rfl) rfl trivial ?_
    refine WL.done rfl ?_
    injection hx1517 with hx1517
    exact WX.to Kx1516 x1738 [0] rfl ⟨(hS1756.subR []).sub [] (by decide), hx1517.symm⟩
  rintro y1761 w1758 ⟨hS1759, hq1760⟩
  subst hq1760
  refine WX.next ?_
  refine WC.ret ?_
  injection hf with hf
  subst hf
  exact WX.ret_ [] (.bool x1516) [] (fun fb => by kernel_rfl) trivial ⟨_, rfl, rfl, hS1759.keep⟩
theorem rows_Few_calls (k : Nat) (p0 : List Tile) (p1 : Int) (A_p0 : Option Addr) (c_p0 : Nat) (r : Bool) (w : World) (hR0 : RO NoS w (rowR enc_Tile A_p0 c_p0 p0)) (hf : rows_Few k p0 p1 = some r) :
    CallsR Try.prog 45 #[(.slice A_p0 p0.length c_p0), (.int .i64 p1)] w (fun v w' => v = (.bool r) ∧ Keeps NoS w w') := by
  have hS : St NoS w w [rowR enc_Tile A_p0 c_p0 p0] [] := St.init (ro_cons hR0 (ro_nil _ _))
  refine enter 17 Try.func45 rfl Try.ntmps45 rfl ?_
  unfold rows_Few at hf
  refine WC.seq ?_
  refine WC.region ?_
  refine seg 1 [] [0, 1] [(0, (.slice A_p0 p0.length c_p0)), (1, (.int .i64 p1))] [] (fun fb => by kernel_rfl) rfl trivial ?_
  refine WL.done rfl ?_
  refine WX.next ?_
  refine WC.seq ?_
  refine WC.region ?_
  refine seg 1 [] [0, 1, 5] [(0, (.slice A_p0 p0.length c_p0)), (1, (.int .i64 p1)), (5, (.int .i64 1))] [] (fun fb => by kernel_rfl) rfl trivial ?_
  refine WL.done rfl ?_
  refine WX.next ?_
  refine WC.seq ?_
  refine WC.seq ?_
  refine WC.region ?_
  refine seg 2 [] [0, 5, 6, 7] [(0, (.slice A_p0 p0.length c_p0)), (5, (.int .i64 1)), (6, (.int .i64 p1)), (7, (.int .i64 0))] [] (fun fb => by kernel_rfl) rfl trivial ?_
  refine WL.done rfl ?_
  refine WX.next ?_
  obtain ⟨x1784, hx1785, hf⟩ := bind_some hf
  refine WC.cutN (T := Unit) (fun t => []) (fun t w1 => St NoS w w1 [rowR enc_Tile A_p0 c_p0 p0] [] ∧ x1784 = .inr t) (fun Kx1784 => ?_) ?_
  ·
    refine WC.block ?_
    refine WC.loop (T := Int × Int) (fun t => [(0, (.slice A_p0 p0.length c_p0)), (5, (.int .i64 t.1)), (6, (.int .i64 p1)), (7, (.int .i64 t.2))]) (fun n t w1 => St NoS w w1 [rowR enc_Tile A_p0 c_p0 p0] [] ∧ rows_Few.l0 n t.1 t.2 p0 p1 = some x1784) k (1, 0) [0, 5, 6, 7] rfl ⟨(hS.subR [0]).sub [] (by decide), hx1785⟩ ?_
    rintro k1786 ⟨x1782, x1783⟩ w1787 ⟨hS1788, hl1789⟩
    cases k1786 with
    | zero => rw [rows_Few.l0] at hl1789; cases hl1789
    | succ k1786 =>
      rw [rows_Few.l0] at hl1789
      refine WC.seq ?_
      refine WC.region ?_
      refine seg 1 [] [0, 5, 6, 7, 8] [(0, (.slice A_p0 p0.length c_p0)), (5, (.int .i64 x1782)), (6, (.int .i64 p1)), (7, (.int .i64 x1783)), (8, (.bool (decide (x1783 < p1))))] [] (fun fb => by kernel_rfl) rfl trivial ?_
      refine WL.done rfl ?_
      refine WX.next ?_
      refine WC.seq ?_
      rcases br_some hl1789 with ⟨h1790, hl1789⟩ | ⟨h1790, hl1789⟩
      · refine WC.condT2 (fun fb => by kernel_rfl) h1790 ?_
        refine WC.skip ?_
        refine WX.next ?_
        refine WC.seq ?_
        refine WC.block ?_
        refine WC.seq ?_
        refine WC.region ?_
        refine seg 6 [] [0, 5, 6, 7] [(0, (.slice A_p0 p0.length c_p0)), (5, (.int .i64 (w64 (x1782 * (maxI (p0.length : Int) 1))))), (6, (.int .i64 p1)), (7, (.int .i64 x1783))] [] (fun fb => by kernel_rfl) rfl trivial ?_
        refine WL.done rfl ?_
        refine WX.next ?_
        refine WC.seq ?_
        refine WC.region ?_
        refine seg 2 [] [0, 5, 6, 7, 15] [(0, (.slice A_p0 p0.length c_p0)), (5, (.int .i64 (w64 (x1782 * (maxI (p0.length : Int) 1))))), (6, (.int .i64 p1)), (7, (.int .i64 x1783)), (15, (.bool (decide (w64 (x1782 * (maxI (p0.length : Int) 1)) > 5000))))] [] (fun fb => by kernel_rfl) rfl trivial ?_
        refine WL.done rfl ?_
        refine WX.next ?_
        rcases br_some hl1789 with ⟨h1791, hl1789⟩ | ⟨h1791, hl1789⟩
        · refine WC.condT2 (fun fb => by kernel_rfl) h1791 ?_
          refine WC.seq ?_
          refine WC.region ?_
          refine seg 1 [] [4] [(4, (.bool false))] [] (fun fb => by kernel_rfl) rfl trivial ?_
          refine WL.done rfl ?_
          refine WX.next ?_
          refine WC.ret ?_
          injection hl1789 with hl1789
          subst hl1789
          injection hf with hf
          subst hf
          exact WX.blockR (WX.thenR (WX.thenR (WX.blockR (WX.thenR (WX.ret_ [] (.bool false) [] (fun fb => by kernel_rfl) trivial ⟨_, rfl, rfl, hS1788.keep⟩)))))
        refine WC.condF2 (fun fb => by kernel_rfl) h1791 ?_
        refine WC.skip ?_
        refine WX.blockN (WX.next ?_)
        refine WC.region ?_
        refine seg 2 [] [0, 5, 6, 7] [(0, (.slice A_p0 p0.length c_p0)), (5, (.int .i64 (w64 (x1782 * (maxI (p0.length : Int) 1))))), (6, (.int .i64 p1)), (7, (.int .i64 (w64 (x1783 + 1))))] [] (fun fb => by kernel_rfl) rfl trivial ?_
        refine WL.done rfl ?_
        exact WX.again k1786 (Nat.lt_succ_self _) (w64 (x1782 * (maxI (p0.length : Int) 1)), w64 (x1783 + 1)) [0, 5, 6, 7] rfl ⟨(hS1788.subR [0]).sub [] (by decide), hl1789⟩
      refine WC.condF2 (fun fb => by kernel_rfl) h1790 ?_
      refine WC.exit ?_
      injection hl1789 with hl1789
      exact WX.thenX (WX.thenX (WX.blockHere (WX.to Kx1784 () [] rfl ⟨(hS1788.subR [0]).sub [] (by decide), hl1789.symm⟩)))
  rintro y1795 w1792 ⟨hS1793, hq1794⟩
  subst hq1794
  have hf := sum_inr hf
  refine WX.next ?_
  refine WC.seq ?_
  refine WC.region ?_
  refine seg 1 [] [4] [(4, (.bool true))] [] (fun fb => by kernel_rfl) rfl trivial ?_
  refine WL.done rfl ?_
  refine WX.next ?_
  refine WC.ret ?_
  injection hf with hf
  subst hf
  exact WX.ret_ [] (.bool true) [] (fun fb => by kernel_rfl) trivial ⟨_, rfl, rfl, hS1793.keep⟩
theorem square_check_calls (k : Nat) (p0 : List Tile) (p1 : Int) (A_p0 : Option Addr) (c_p0 : Nat) (r : Int) (w : World) (hR0 : RO NoS w (rowR enc_Tile A_p0 c_p0 p0)) (hf : square_check k p0 p1 = some r) :
    CallsR Try.prog 41 #[(.slice A_p0 p0.length c_p0), (.int .i64 p1)] w (fun v w' => v = (.int .i64 r) ∧ Keeps NoS w w') := by
  have hS : St NoS w w [rowR enc_Tile A_p0 c_p0 p0] [] := St.init (ro_cons hR0 (ro_nil _ _))
  refine enter 21 Try.func41 rfl Try.ntmps41 rfl ?_
  unfold square_check at hf
  refine WC.seq ?_
  refine WC.region ?_
  refine seg 1 [] [0, 1] [(0, (.slice A_p0 p0.length c_p0)), (1, (.int .i64 p1))] [] (fun fb => by kernel_rfl) rfl trivial ?_
  refine WL.done rfl ?_
  refine WX.next ?_
  refine WC.seq ?_
  refine WC.block ?_
  refine WC.seq ?_
  refine WC.region ?_
  refine seg 1 [] [0, 1, 6] [(0, (.slice A_p0 p0.length c_p0)), (1, (.int .i64 p1)), (6, (.slice A_p0 p0.length c_p0))] [] (fun fb => by kernel_rfl) rfl trivial ?_
  obtain ⟨t1767, ht1768, hf⟩ := bind_some hf
  refine WL.call (some 7) 38 #[(.slice A_p0 p0.length c_p0)] (fun fb => by kernel_rfl) (tile_Valid_calls _ p0 A_p0 c_p0 t1767 _ (hS.rd 0) ht1768) (fun v w1769 hR1770 => ?_)
  obtain ⟨rfl, hk_⟩ := hR1770
  have hS1771 := hS.keepN hk_
  refine ⟨trivial, ?_⟩
  refine seg 4 [] [0, 1, 5] [(0, (.slice A_p0 p0.length c_p0)), (1, (.int .i64 p1)), (5, (.bool (!t1767)))] [] (fun fb => by kernel_rfl) rfl trivial ?_
  refine WL.done rfl ?_
  refine WX.next ?_
  rcases br_some hf with ⟨h1772, hf⟩ | ⟨h1772, hf⟩
  · refine WC.condT2 (fun fb => by kernel_rfl) h1772 ?_
    refine WC.seq ?_
    refine WC.region ?_
    refine seg 1 [] [4] [(4, (.int .i64 1))] [] (fun fb => by kernel_rfl) rfl trivial ?_
    refine WL.done rfl ?_
    refine WX.next ?_
    refine WC.ret ?_
    injection hf with hf
    subst hf
    exact WX.blockR (WX.thenR (WX.ret_ [] (.int .i64 1) [] (fun fb => by kernel_rfl) trivial ⟨_, rfl, rfl, hS1771.keep⟩))
  refine WC.condF2 (fun fb => by kernel_rfl) h1772 ?_
  refine WC.seq ?_
  refine WC.region ?_
  refine seg 3 [] [0, 1, 12] [(0, (.slice A_p0 p0.length c_p0)), (1, (.int .i64 p1)), (12, (.bool (decide (p1 < 1))))] [] (fun fb => by kernel_rfl) rfl trivial ?_
  refine WL.cutV (T := Bool) 6 (fun t => [(15, (.bool t)), (0, (.slice A_p0 p0.length c_p0)), (1, (.int .i64 p1))]) (fun t => ((decide (p1 < 1)) || (decide (p1 > 8))) = t) (fun K => ?_) ?_
  ·
    rcases Bool.eq_false_or_eq_true (decide (p1 < 1)) with h1773 | h1773
    ·
      refine WL.setB 12 h1773 rfl ?_
      refine seg 6 [] [0, 1, 15] [(0, (.slice A_p0 p0.length c_p0)), (1, (.int .i64 p1)), (15, (.bool true))] [] (fun fb => by kernel_rfl) rfl trivial ?_
      exact WL.toV K true [15, 0, 1] rfl (by first | (rw [h1773]; done) | (rw [h1773]; rfl))
    refine WL.setB 12 h1773 rfl ?_
    refine seg 6 [] [0, 1, 15] [(0, (.slice A_p0 p0.length c_p0)), (1, (.int .i64 p1)), (15, (.bool (decide (p1 > 8))))] [] (fun fb => by kernel_rfl) rfl trivial ?_
    exact WL.toV K (decide (p1 > 8)) [15, 0, 1] rfl (by first | (rw [h1773]; done) | (rw [h1773]; rfl))
  rintro b1774 rfl
  refine seg 7 [] [0, 1, 9] [(0, (.slice A_p0 p0.length c_p0)), (1, (.int .i64 p1)), (9, (.bool ((decide (p1 < 1)) || (decide (p1 > 8)))))] [] (fun fb => by kernel_rfl) rfl trivial ?_
  refine WL.done rfl ?_
  refine WX.next ?_
  rcases br_some hf with ⟨h1775, hf⟩ | ⟨h1775, hf⟩
  · refine WC.condT2 (fun fb => by kernel_rfl) h1775 ?_
    refine WC.seq ?_
    refine WC.region ?_
    refine seg 1 [] [4] [(4, (.int .i64 2))] [] (fun fb => by kernel_rfl) rfl trivial ?_
    refine WL.done rfl ?_
    refine WX.next ?_
    refine WC.ret ?_
    injection hf with hf
    subst hf
    exact WX.blockR (WX.thenR (WX.ret_ [] (.int .i64 2) [] (fun fb => by kernel_rfl) trivial ⟨_, rfl, rfl, hS1771.keep⟩))
  refine WC.condF2 (fun fb => by kernel_rfl) h1775 ?_
  refine WC.seq ?_
  refine WC.region ?_
  refine seg 2 [] [17, 18] [(17, (.slice A_p0 p0.length c_p0)), (18, (.int .i64 p1))] [] (fun fb => by kernel_rfl) rfl trivial ?_
  obtain ⟨t1797, ht1798, hf⟩ := bind_some hf
  refine WL.call (some 19) 45 #[(.slice A_p0 p0.length c_p0), (.int .i64 p1)] (fun fb => by kernel_rfl) (rows_Few_calls _ p0 p1 A_p0 c_p0 t1797 _ (hS1771.rd 0) ht1798) (fun v w1799 hR1800 => ?_)
  obtain ⟨rfl, hk_⟩ := hR1800
  have hS1801 := hS1771.keepN hk_
  refine ⟨trivial, ?_⟩
  refine seg 5 [] [16] [(16, (.bool (!t1797)))] [] (fun fb => by kernel_rfl) rfl trivial ?_
  refine WL.done rfl ?_
  refine WX.next ?_
  rcases br_some hf with ⟨h1802, hf⟩ | ⟨h1802, hf⟩
  · refine WC.condT2 (fun fb => by kernel_rfl) h1802 ?_
    refine WC.seq ?_
    refine WC.region ?_
    refine seg 1 [] [4] [(4, (.int .i64 4))] [] (fun fb => by kernel_rfl) rfl trivial ?_
    refine WL.done rfl ?_
    refine WX.next ?_
    refine WC.ret ?_
    injection hf with hf
    subst hf
    exact WX.blockR (WX.thenR (WX.ret_ [] (.int .i64 4) [] (fun fb => by kernel_rfl) trivial ⟨_, rfl, rfl, hS1801.keep⟩))
  refine WC.condF2 (fun fb => by kernel_rfl) h1802 ?_
  refine WC.skip ?_
  refine WX.blockN (WX.next ?_)
  refine WC.seq ?_
  refine WC.region ?_
  refine seg 1 [] [4] [(4, (.int .i64 0))] [] (fun fb => by kernel_rfl) rfl trivial ?_
  refine WL.done rfl ?_
  refine WX.next ?_
  refine WC.ret ?_
  injection hf with hf
  subst hf
  exact WX.ret_ [] (.int .i64 0) [] (fun fb => by kernel_rfl) trivial ⟨_, rfl, rfl, hS1801.keep⟩
theorem rows_rowOf_calls (k : Nat) (p0 : List Tile) (p1 : List Int) (A_p0 : Option Addr) (c_p0 : Nat) (A_p1 : Option Addr) (c_p1 : Nat) (r : Row) (w : World) (hR0 : RO NoS w (rowR enc_Tile A_p0 c_p0 p0)) (hR1 : RO NoS w (rowR encInt A_p1 c_p1 p1)) (hf : rows_rowOf k p0 p1 = some r) :
    CallsR Try.prog 83 #[(.slice A_p0 p0.length c_p0), (.slice A_p1 p1.length c_p1)] w (fun v w' => ∃ (A1_ : Option Addr), ∃ (c1_ : Nat), v = (.agg #[(.slice A1_ r.Cells.length c1_), (.int .i64 r.South.e0), (.int .i64 r.South.e1), (.int .i64 r.South.e2), (.int .i64 r.South.e3), (.int .i64 r.South.e4), (.int .i64 r.South.e5), (.int .i64 r.South.e6), (.int .i64 r.South.e7), (.int .i64 r.North.e0), (.int .i64 r.North.e1), (.int .i64 r.North.e2), (.int .i64 r.North.e3), (.int .i64 r.North.e4), (.int .i64 r.North.e5), (.int .i64 r.North.e6), (.int .i64 r.North.e7), (.int .i64 r.West), (.int .i64 r.East)]) ∧ St NoS w w' [] [rowO 3 encInt A1_ c1_ r.Cells]) := by
  have hS : St NoS w w [rowR enc_Tile A_p0 c_p0 p0, rowR encInt A_p1 c_p1 p1] [] := St.init (ro_cons hR0 (ro_cons hR1 (ro_nil _ _)))
  refine enter 55 Try.func83 rfl Try.ntmps83 rfl ?_
  unfold rows_rowOf at hf
  refine WC.seq ?_
  refine WC.region ?_
  refine WL.new hS 4 [] (fun g => (.pointer (some ⟨g, 0, none⟩))) (.cells #[(.slice none 0 0), (.int .i64 0), (.int .i64 0), (.int .i64 0), (.int .i64 0), (.int .i64 0), (.int .i64 0), (.int .i64 0), (.int .i64 0), (.int .i64 0), (.int .i64 0), (.int .i64 0), (.int .i64 0), (.int .i64 0), (.int .i64 0), (.int .i64 0), (.int .i64 0), (.int .i64 0), (.int .i64 0)] 88 (0, 0)) [] (fun fb g => by kernel_rfl) trivial (fun g1921 w1922 hS1923 => ?_)
  refine ⟨trivial, ?_⟩
  refine WL.done rfl ?_
  refine WX.next ?_
  refine WC.seq ?_
  refine WC.region ?_
  refine seg 1 [] [0, 1, 4, 8] [(0, (.slice A_p0 p0.length c_p0)), (1, (.slice A_p1 p1.length c_p1)), (4, (.pointer (some ⟨g1921, 0, none⟩))), (8, (.slice A_p1 p1.length c_p1))] [] (fun fb => by kernel_rfl) rfl trivial ?_
  have hS1925 := hS1923.nilrow 3 encInt
  obtain ⟨h1926, hf⟩ := as_some hf
  refine WL.append hS1925 0 (d := 9) (tS := 36) (z := (.int .i64 0)) (bytes := 8) (c2 := c_p1) rfl (fun fb => by kernel_rfl) (hS1925.rd 1).1 (by kernel_rfl) (by kernel_rfl) rfl (by decide) h1926 (by decide) [1] (by decide) (by decide) (fun A1927 c1928 w1929 hS1930 => ?_)
  refine ⟨trivial, ?_⟩
  refine seg 3 [] [0, 1, 4, 10] [(0, (.slice A_p0 p0.length c_p0)), (1, (.slice A_p1 p1.length c_p1)), (4, (.pointer (some ⟨g1921, 0, none⟩))), (10, (.agg #[(.slice A1927 (([] : List Int) ++ p1).length c1928), (.int .i64 0), (.int .i64 0), (.int .i64 0), (.int .i64 0), (.int .i64 0), (.int .i64 0), (.int .i64 0), (.int .i64 0), (.int .i64 0), (.int .i64 0), (.int .i64 0), (.int .i64 0), (.int .i64 0), (.int .i64 0), (.int .i64 0), (.int .i64 0), (.int .i64 0), (.int .i64 0)]))] [] (fun fb => by kernel_rfl) rfl trivial ?_
  refine WL.new hS1930 5 [] (fun g => (.pointer (some ⟨g, 0, none⟩))) (.cells #[(.slice none 0 0), (.int .i64 0), (.int .i64 0), (.int .i64 0), (.int .i64 0), (.int .i64 0), (.int .i64 0), (.int .i64 0), (.int .i64 0), (.int .i64 0), (.int .i64 0), (.int .i64 0), (.int .i64 0), (.int .i64 0), (.int .i64 0), (.int .i64 0), (.int .i64 0), (.int .i64 0), (.int .i64 0)] 88 (0, 0)) [] (fun fb g => by kernel_rfl) trivial (fun g1931 w1932 hS1933 => ?_)
  refine ⟨trivial, ?_⟩
  refine WL.store hS1933 0 rfl [(0, (.slice A1927 (([] : List Int) ++ p1).length c1928)), (1, (.int .i64 0)), (2, (.int .i64 0)), (3, (.int .i64 0)), (4, (.int .i64 0)), (5, (.int .i64 0)), (6, (.int .i64 0)), (7, (.int .i64 0)), (8, (.int .i64 0)), (9, (.int .i64 0)), (10, (.int .i64 0)), (11, (.int .i64 0)), (12, (.int .i64 0)), (13, (.int .i64 0)), (14, (.int .i64 0)), (15, (.int .i64 0)), (16, (.int .i64 0)), (17, (.int .i64 0)), (18, (.int .i64 0))] #[(.slice A1927 (([] : List Int) ++ p1).length c1928), (.int .i64 0), (.int .i64 0), (.int .i64 0), (.int .i64 0), (.int .i64 0), (.int .i64 0), (.int .i64 0), (.int .i64 0), (.int .i64 0), (.int .i64 0), (.int .i64 0), (.int .i64 0), (.int .i64 0), (.int .i64 0), (.int .i64 0), (.int .i64 0), (.int .i64 0), (.int .i64 0)] (fun fb => by kernel_rfl) (by kernel_rfl) (by kernel_rfl) [1, 2] (by decide) (by decide) (fun w1935 hS1936 => ?_)
  refine ⟨trivial, ?_⟩
  refine WL.done rfl ?_
  refine WX.next ?_
  refine WC.seq ?_
  refine WC.seq ?_
  refine WC.region ?_
  refine seg 3 [] [0, 1, 4, 5, 11, 12, 13] [(0, (.slice A_p0 p0.length c_p0)), (1, (.slice A_p1 p1.length c_p1)), (4, (.pointer (some ⟨g1921, 0, none⟩))), (5, (.pointer (some ⟨g1931, 0, none⟩))), (11, (.slice A_p1 p1.length c_p1)), (12, (.int .i64 (p1.length : Int))), (13, (.int .i64 0))] [] (fun fb => by kernel_rfl) rfl trivial ?_
  refine WL.done rfl ?_
  refine WX.next ?_
  obtain ⟨x2015, hx2016, hf⟩ := bind_some hf
  refine WC.cutN (T := A8_Int × A8_Int) (fun t => [(0, (.slice A_p0 p0.length c_p0)), (1, (.slice A_p1 p1.length c_p1)), (4, (.pointer (some ⟨g1921, 0, none⟩))), (5, (.pointer (some ⟨g1931, 0, none⟩)))]) (fun t w1 => St NoS w w1 [rowR enc_Tile A_p0 c_p0 p0, rowR encInt A_p1 c_p1 p1] [blk g1921 (.cells #[(.slice none 0 0), (.int .i64 0), (.int .i64 0), (.int .i64 0), (.int .i64 0), (.int .i64 0), (.int .i64 0), (.int .i64 0), (.int .i64 0), (.int .i64 0), (.int .i64 0), (.int .i64 0), (.int .i64 0), (.int .i64 0), (.int .i64 0), (.int .i64 0), (.int .i64 0), (.int .i64 0), (.int .i64 0)] 88 (0, 0)), blk g1931 (.cells #[(.slice A1927 (([] : List Int) ++ p1).length c1928), (.int .i64 t.1.e0), (.int .i64 t.1.e1), (.int .i64 t.1.e2), (.int .i64 t.1.e3), (.int .i64 t.1.e4), (.int .i64 t.1.e5), (.int .i64 t.1.e6), (.int .i64 t.1.e7), (.int .i64 t.2.e0), (.int .i64 t.2.e1), (.int .i64 t.2.e2), (.int .i64 t.2.e3), (.int .i64 t.2.e4), (.int .i64 t.2.e5), (.int .i64 t.2.e6), (.int .i64 t.2.e7), (.int .i64 0), (.int .i64 0)] 88 (0, 0)), rowO 3 encInt A1927 c1928 (([] : List Int) ++ p1)] ∧ x2015 = t) (fun Kx2015 => ?_) ?_
  ·
    refine WC.block ?_
    refine WC.loop (T := A8_Int × A8_Int × Int) (fun t => [(0, (.slice A_p0 p0.length c_p0)), (1, (.slice A_p1 p1.length c_p1)), (4, (.pointer (some ⟨g1921, 0, none⟩))), (5, (.pointer (some ⟨g1931, 0, none⟩))), (11, (.slice A_p1 p1.length c_p1)), (12, (.int .i64 (p1.length : Int))), (13, (.int .i64 t.2.2))]) (fun n t w1 => St NoS w w1 [rowR enc_Tile A_p0 c_p0 p0, rowR encInt A_p1 c_p1 p1] [blk g1921 (.cells #[(.slice none 0 0), (.int .i64 0), (.int .i64 0), (.int .i64 0), (.int .i64 0), (.int .i64 0), (.int .i64 0), (.int .i64 0), (.int .i64 0), (.int .i64 0), (.int .i64 0), (.int .i64 0), (.int .i64 0), (.int .i64 0), (.int .i64 0), (.int .i64 0), (.int .i64 0), (.int .i64 0), (.int .i64 0)] 88 (0, 0)), blk g1931 (.cells #[(.slice A1927 (([] : List Int) ++ p1).length c1928), (.int .i64 t.1.e0), (.int .i64 t.1.e1), (.int .i64 t.1.e2), (.int .i64 t.1.e3), (.int .i64 t.1.e4), (.int .i64 t.1.e5), (.int .i64 t.1.e6), (.int .i64 t.1.e7), (.int .i64 t.2.1.e0), (.int .i64 t.2.1.e1), (.int .i64 t.2.1.e2), (.int .i64 t.2.1.e3), (.int .i64 t.2.1.e4), (.int .i64 t.2.1.e5), (.int .i64 t.2.1.e6), (.int .i64 t.2.1.e7), (.int .i64 0), (.int .i64 0)] 88 (0, 0)), rowO 3 encInt A1927 c1928 (([] : List Int) ++ p1)] ∧ rows_rowOf.l0 n t.1 t.2.1 t.2.2 p0 p1 = some x2015) k ((A8_Int.mk 0 0 0 0 0 0 0 0), (A8_Int.mk 0 0 0 0 0 0 0 0), 0) [0, 1, 4, 5, 11, 12, 13] rfl ⟨(hS1936.subR [0, 1]).sub [2, 0, 1] (by decide), hx2016⟩ ?_
    rintro k2017 ⟨a2010, a2011, x2012⟩ w2018 ⟨hS2019, hl2020⟩
    cases k2017 with
    | zero => rw [rows_rowOf.l0] at hl2020; cases hl2020
    | succ k2017 =>
      rw [rows_rowOf.l0] at hl2020
      refine WC.seq ?_
      refine WC.region ?_
      refine seg 1 [] [0, 1, 4, 5, 11, 12, 13, 14] [(0, (.slice A_p0 p0.length c_p0)), (1, (.slice A_p1 p1.length c_p1)), (4, (.pointer (some ⟨g1921, 0, none⟩))), (5, (.pointer (some ⟨g1931, 0, none⟩))), (11, (.slice A_p1 p1.length c_p1)), (12, (.int .i64 (p1.length : Int))), (13, (.int .i64 x2012)), (14, (.bool (decide (x2012 < (p1.length : Int)))))] [] (fun fb => by kernel_rfl) rfl trivial ?_
      refine WL.done rfl ?_
      refine WX.next ?_
      refine WC.seq ?_
      rcases br_some hl2020 with ⟨h2021, hl2020⟩ | ⟨h2021, hl2020⟩
      · refine WC.condT2 (fun fb => by kernel_rfl) h2021 ?_
        refine WC.skip ?_
        refine WX.next ?_
        refine WC.seq ?_
        refine WC.block ?_
        refine WC.seq ?_
        refine WC.region ?_
        refine seg 1 [] [0, 1, 4, 5, 11, 12, 13, 15] [(0, (.slice A_p0 p0.length c_p0)), (1, (.slice A_p1 p1.length c_p1)), (4, (.pointer (some ⟨g1921, 0, none⟩))), (5, (.pointer (some ⟨g1931, 0, none⟩))), (11, (.slice A_p1 p1.length c_p1)), (12, (.int .i64 (p1.length : Int))), (13, (.int .i64 x2012)), (15, (.int .i64 x2012))] [] (fun fb => by kernel_rfl) rfl trivial ?_
        obtain ⟨h2022, hl2020⟩ := as_some hl2020
        refine seg 5 [.v (.int .i64 (rdD p1 x2012 0))] [0, 1, 4, 5, 6, 7, 11, 12, 13] [(0, (.slice A_p0 p0.length c_p0)), (1, (.slice A_p1 p1.length c_p1)), (4, (.pointer (some ⟨g1921, 0, none⟩))), (5, (.pointer (some ⟨g1931, 0, none⟩))), (6, (.int .i64 x2012)), (7, (.int .i64 (rdD p1 x2012 0))), (11, (.slice A_p1 p1.length c_p1)), (12, (.int .i64 (p1.length : Int))), (13, (.int .i64 x2012))] [.idx A_p1 x2012 p1.length, .cell ((adr A_p1).add ((x2012).toNat * 1)) (.int .i64 (rdD p1 x2012 0))] (fun fb => by kernel_rfl) rfl ⟨rowR.adr (hS2019.rd 1).1 h2022.1 h2022.2, rowR.cell (hS2019.rd 1).1 0 h2022.1 h2022.2 0 rfl, trivial⟩ ?_
        refine WL.done rfl ?_
        refine WX.next ?_
        obtain ⟨h2037, hl2020⟩ := as_some hl2020
        obtain ⟨h2038, hl2020⟩ := as_some hl2020
        refine WC.regionD ([(6, (((adr A_p0).add (((rdD p1 x2012 0)).toNat * 4)).add 2), (.int .i64 ((rdD p0 (rdD p1 x2012 0) z_Tile).S))), (11, ((adr A_p0).add (((rdD p1 x2012 0)).toNat * 4)), (.int .i64 ((rdD p0 (rdD p1 x2012 0) z_Tile).N)))], [0, 1, 2, 3, 4, 5, 6, 7, 8, 9, 10, 11, 12, 13, 15, 16], [[], [], [], [], [2, 3], [2, 3, 4], [2, 3, 4, 5], [], [], [7, 8], [7, 8, 9], [7, 8, 9, 10], [], [0, 2, 3, 4, 5, 6, 12], [0, 2, 3, 4, 5, 6, 12, 13], [], [0, 1, 2, 3, 4, 5, 6, 7, 8, 9, 10, 11, 12, 13, 14, 15], [0, 1, 2, 3, 4, 5, 6, 7, 8, 9, 10, 11, 12, 13, 14, 15, 16]]) [[0, 1, 2, 3, 4, 5, 6, 7, 8, 9, 10, 11, 12, 13, 15, 14, 16, 17]] (by kernel_rfl) (by kernel_rfl) (NoPanic.block (NoPanic.seq (NoPanic.seq (NoPanic.block (NoPanic.seq (NoPanic.body)))))) ?_
        have hS2034 := hS2019.drew
        revert hS2034
        generalize World.drew w2018 = w2033
        intro hS2034
        refine ⟨⟨rowR.cell (hS2034.rd 0).1 z_Tile h2037.1 h2037.2 2 rfl, rowR.cell (hS2034.rd 0).1 z_Tile h2037.1 h2037.2 0 rfl, trivial⟩, forallC ?_ (forallN)⟩
        refine segF 15 [.v (.int .i64 ((rdD p0 (rdD p1 x2012 0) z_Tile).S)), .v (.int .i64 ((rdD p0 (rdD p1 x2012 0) z_Tile).N))] [0, 1, 4, 5, 11, 12, 13, 19, 24, 29, 31, 32] [(0, (.slice A_p0 p0.length c_p0)), (1, (.slice A_p1 p1.length c_p1)), (4, (.pointer (some ⟨g1921, 0, none⟩))), (5, (.pointer (some ⟨g1931, 0, none⟩))), (11, (.slice A_p1 p1.length c_p1)), (12, (.int .i64 (p1.length : Int))), (13, (.int .i64 x2012)), (19, (.int .i64 x2012)), (24, (.int .i64 ((rdD p0 (rdD p1 x2012 0) z_Tile).S))), (29, (.int .i64 ((rdD p0 (rdD p1 x2012 0) z_Tile).N))), (31, (.pointer (some (flatA ⟨g1931, 1, none⟩ (x2012.toNat * 1))))), (32, (.pointer (some ⟨g1931, 9, none⟩)))] [.idx A_p0 (rdD p1 x2012 0) p0.length, .idx A_p0 (rdD p1 x2012 0) p0.length, .idx (some ⟨0, 0, none⟩) x2012 8] [0, 1] [(6, (((adr A_p0).add (((rdD p1 x2012 0)).toNat * 4)).add 2), (.int .i64 ((rdD p0 (rdD p1 x2012 0) z_Tile).S))), (11, ((adr A_p0).add (((rdD p1 x2012 0)).toNat * 4)), (.int .i64 ((rdD p0 (rdD p1 x2012 0) z_Tile).N)))] (fun fb => by kernel_rfl) rfl ⟨rowR.adr (hS2034.rd 0).1 h2037.1 h2037.2, rowR.adr (hS2034.rd 0).1 h2037.1 h2037.2, ⟨h2038.1, h2038.2, rfl⟩, trivial⟩ rfl ?_
        have h2041 := (cases8 (Q := fun z_ => (([(1 + z_.toNat * 1, (.int .i64 ((rdD p0 (rdD p1 x2012 0) z_Tile).S)))] : List (Nat × Value)).all fun p_ => Nat.blt p_.1 (#[(.slice A1927 (([] : List Int) ++ p1).length c1928), (.int .i64 a2010.e0), (.int .i64 a2010.e1), (.int .i64 a2010.e2), (.int .i64 a2010.e3), (.int .i64 a2010.e4), (.int .i64 a2010.e5), (.int .i64 a2010.e6), (.int .i64 a2010.e7), (.int .i64 a2011.e0), (.int .i64 a2011.e1), (.int .i64 a2011.e2), (.int .i64 a2011.e3), (.int .i64 a2011.e4), (.int .i64 a2011.e5), (.int .i64 a2011.e6), (.int .i64 a2011.e7), (.int .i64 0), (.int .i64 0)] : Array Value).size) = true) h2038 (by kernel_rfl) (by kernel_rfl) (by kernel_rfl) (by kernel_rfl) (by kernel_rfl) (by kernel_rfl) (by kernel_rfl) (by kernel_rfl))
        have h2042 := (cases8 (Q := fun z_ => wrc (#[(.slice A1927 (([] : List Int) ++ p1).length c1928), (.int .i64 a2010.e0), (.int .i64 a2010.e1), (.int .i64 a2010.e2), (.int .i64 a2010.e3), (.int .i64 a2010.e4), (.int .i64 a2010.e5), (.int .i64 a2010.e6), (.int .i64 a2010.e7), (.int .i64 a2011.e0), (.int .i64 a2011.e1), (.int .i64 a2011.e2), (.int .i64 a2011.e3), (.int .i64 a2011.e4), (.int .i64 a2011.e5), (.int .i64 a2011.e6), (.int .i64 a2011.e7), (.int .i64 0), (.int .i64 0)] : Array Value) [(1 + z_.toNat * 1, (.int .i64 ((rdD p0 (rdD p1 x2012 0) z_Tile).S)))] = (#[(.slice A1927 (([] : List Int) ++ p1).length c1928), (.int .i64 ((A8_Int.set a2010 z_ ((rdD p0 (rdD p1 x2012 0) z_Tile).S)).e0)), (.int .i64 ((A8_Int.set a2010 z_ ((rdD p0 (rdD p1 x2012 0) z_Tile).S)).e1)), (.int .i64 ((A8_Int.set a2010 z_ ((rdD p0 (rdD p1 x2012 0) z_Tile).S)).e2)), (.int .i64 ((A8_Int.set a2010 z_ ((rdD p0 (rdD p1 x2012 0) z_Tile).S)).e3)), (.int .i64 ((A8_Int.set a2010 z_ ((rdD p0 (rdD p1 x2012 0) z_Tile).S)).e4)), (.int .i64 ((A8_Int.set a2010 z_ ((rdD p0 (rdD p1 x2012 0) z_Tile).S)).e5)), (.int .i64 ((A8_Int.set a2010 z_ ((rdD p0 (rdD p1 x2012 0) z_Tile).S)).e6)), (.int .i64 ((A8_Int.set a2010 z_ ((rdD p0 (rdD p1 x2012 0) z_Tile).S)).e7)), (.int .i64 a2011.e0), (.int .i64 a2011.e1), (.int .i64 a2011.e2), (.int .i64 a2011.e3), (.int .i64 a2011.e4), (.int .i64 a2011.e5), (.int .i64 a2011.e6), (.int .i64 a2011.e7), (.int .i64 0), (.int .i64 0)] : Array Value)) h2038 (by kernel_rfl) (by kernel_rfl) (by kernel_rfl) (by kernel_rfl) (by kernel_rfl) (by kernel_rfl) (by kernel_rfl) (by kernel_rfl))
        refine WL.store hS2034 1 rfl [(1 + x2012.toNat * 1, (.int .i64 ((rdD p0 (rdD p1 x2012 0) z_Tile).S)))] #[(.slice A1927 (([] : List Int) ++ p1).length c1928), (.int .i64 ((A8_Int.set a2010 x2012 ((rdD p0 (rdD p1 x2012 0) z_Tile).S)).e0)), (.int .i64 ((A8_Int.set a2010 x2012 ((rdD p0 (rdD p1 x2012 0) z_Tile).S)).e1)), (.int .i64 ((A8_Int.set a2010 x2012 ((rdD p0 (rdD p1 x2012 0) z_Tile).S)).e2)), (.int .i64 ((A8_Int.set a2010 x2012 ((rdD p0 (rdD p1 x2012 0) z_Tile).S)).e3)), (.int .i64 ((A8_Int.set a2010 x2012 ((rdD p0 (rdD p1 x2012 0) z_Tile).S)).e4)), (.int .i64 ((A8_Int.set a2010 x2012 ((rdD p0 (rdD p1 x2012 0) z_Tile).S)).e5)), (.int .i64 ((A8_Int.set a2010 x2012 ((rdD p0 (rdD p1 x2012 0) z_Tile).S)).e6)), (.int .i64 ((A8_Int.set a2010 x2012 ((rdD p0 (rdD p1 x2012 0) z_Tile).S)).e7)), (.int .i64 a2011.e0), (.int .i64 a2011.e1), (.int .i64 a2011.e2), (.int .i64 a2011.e3), (.int .i64 a2011.e4), (.int .i64 a2011.e5), (.int .i64 a2011.e6), (.int .i64 a2011.e7), (.int .i64 0), (.int .i64 0)] (fun fb => by kernel_rfl) h2041 h2042 [0, 2] (by decide) (by decide) (fun w2039 hS2040 => ?_)
        refine ⟨⟨rowR.cell (hS2040.rd 0).1 z_Tile h2037.1 h2037.2 0 rfl, trivial⟩, ?_⟩
        refine seg 17 [] [0, 1, 4, 5, 11, 12, 13, 29, 33] [(0, (.slice A_p0 p0.length c_p0)), (1, (.slice A_p1 p1.length c_p1)), (4, (.pointer (some ⟨g1921, 0, none⟩))), (5, (.pointer (some ⟨g1931, 0, none⟩))), (11, (.slice A_p1 p1.length c_p1)), (12, (.int .i64 (p1.length : Int))), (13, (.int .i64 x2012)), (29, (.int .i64 ((rdD p0 (rdD p1 x2012 0) z_Tile).N))), (33, (.pointer (some (flatA ⟨g1931, 9, none⟩ (x2012.toNat * 1)))))] [.idx (some ⟨0, 0, none⟩) x2012 8] (fun fb => by kernel_rfl) rfl ⟨⟨h2038.1, h2038.2, rfl⟩, trivial⟩ ?_
        have h2045 := (cases8 (Q := fun z_ => (([(9 + z_.toNat * 1, (.int .i64 ((rdD p0 (rdD p1 x2012 0) z_Tile).N)))] : List (Nat × Value)).all fun p_ => Nat.blt p_.1 (#[(.slice A1927 (([] : List Int) ++ p1).length c1928), (.int .i64 ((A8_Int.set a2010 x2012 ((rdD p0 (rdD p1 x2012 0) z_Tile).S)).e0)), (.int .i64 ((A8_Int.set a2010 x2012 ((rdD p0 (rdD p1 x2012 0) z_Tile).S)).e1)), (.int .i64 ((A8_Int.set a2010 x2012 ((rdD p0 (rdD p1 x2012 0) z_Tile).S)).e2)), (.int .i64 ((A8_Int.set a2010 x2012 ((rdD p0 (rdD p1 x2012 0) z_Tile).S)).e3)), (.int .i64 ((A8_Int.set a2010 x2012 ((rdD p0 (rdD p1 x2012 0) z_Tile).S)).e4)), (.int .i64 ((A8_Int.set a2010 x2012 ((rdD p0 (rdD p1 x2012 0) z_Tile).S)).e5)), (.int .i64 ((A8_Int.set a2010 x2012 ((rdD p0 (rdD p1 x2012 0) z_Tile).S)).e6)), (.int .i64 ((A8_Int.set a2010 x2012 ((rdD p0 (rdD p1 x2012 0) z_Tile).S)).e7)), (.int .i64 a2011.e0), (.int .i64 a2011.e1), (.int .i64 a2011.e2), (.int .i64 a2011.e3), (.int .i64 a2011.e4), (.int .i64 a2011.e5), (.int .i64 a2011.e6), (.int .i64 a2011.e7), (.int .i64 0), (.int .i64 0)] : Array Value).size) = true) h2038 (by kernel_rfl) (by kernel_rfl) (by kernel_rfl) (by kernel_rfl) (by kernel_rfl) (by kernel_rfl) (by kernel_rfl) (by kernel_rfl))
        have h2046 := (cases8 (Q := fun z_ => wrc (#[(.slice A1927 (([] : List Int) ++ p1).length c1928), (.int .i64 ((A8_Int.set a2010 x2012 ((rdD p0 (rdD p1 x2012 0) z_Tile).S)).e0)), (.int .i64 ((A8_Int.set a2010 x2012 ((rdD p0 (rdD p1 x2012 0) z_Tile).S)).e1)), (.int .i64 ((A8_Int.set a2010 x2012 ((rdD p0 (rdD p1 x2012 0) z_Tile).S)).e2)), (.int .i64 ((A8_Int.set a2010 x2012 ((rdD p0 (rdD p1 x2012 0) z_Tile).S)).e3)), (.int .i64 ((A8_Int.set a2010 x2012 ((rdD p0 (rdD p1 x2012 0) z_Tile).S)).e4)), (.int .i64 ((A8_Int.set a2010 x2012 ((rdD p0 (rdD p1 x2012 0) z_Tile).S)).e5)), (.int .i64 ((A8_Int.set a2010 x2012 ((rdD p0 (rdD p1 x2012 0) z_Tile).S)).e6)), (.int .i64 ((A8_Int.set a2010 x2012 ((rdD p0 (rdD p1 x2012 0) z_Tile).S)).e7)), (.int .i64 a2011.e0), (.int .i64 a2011.e1), (.int .i64 a2011.e2), (.int .i64 a2011.e3), (.int .i64 a2011.e4), (.int .i64 a2011.e5), (.int .i64 a2011.e6), (.int .i64 a2011.e7), (.int .i64 0), (.int .i64 0)] : Array Value) [(9 + z_.toNat * 1, (.int .i64 ((rdD p0 (rdD p1 x2012 0) z_Tile).N)))] = (#[(.slice A1927 (([] : List Int) ++ p1).length c1928), (.int .i64 ((A8_Int.set a2010 x2012 ((rdD p0 (rdD p1 x2012 0) z_Tile).S)).e0)), (.int .i64 ((A8_Int.set a2010 x2012 ((rdD p0 (rdD p1 x2012 0) z_Tile).S)).e1)), (.int .i64 ((A8_Int.set a2010 x2012 ((rdD p0 (rdD p1 x2012 0) z_Tile).S)).e2)), (.int .i64 ((A8_Int.set a2010 x2012 ((rdD p0 (rdD p1 x2012 0) z_Tile).S)).e3)), (.int .i64 ((A8_Int.set a2010 x2012 ((rdD p0 (rdD p1 x2012 0) z_Tile).S)).e4)), (.int .i64 ((A8_Int.set a2010 x2012 ((rdD p0 (rdD p1 x2012 0) z_Tile).S)).e5)), (.int .i64 ((A8_Int.set a2010 x2012 ((rdD p0 (rdD p1 x2012 0) z_Tile).S)).e6)), (.int .i64 ((A8_Int.set a2010 x2012 ((rdD p0 (rdD p1 x2012 0) z_Tile).S)).e7)), (.int .i64 ((A8_Int.set a2011 z_ ((rdD p0 (rdD p1 x2012 0) z_Tile).N)).e0)), (.int .i64 ((A8_Int.set a2011 z_ ((rdD p0 (rdD p1 x2012 0) z_Tile).N)).e1)), (.int .i64 ((A8_Int.set a2011 z_ ((rdD p0 (rdD p1 x2012 0) z_Tile).N)).e2)), (.int .i64 ((A8_Int.set a2011 z_ ((rdD p0 (rdD p1 x2012 0) z_Tile).N)).e3)), (.int .i64 ((A8_Int.set a2011 z_ ((rdD p0 (rdD p1 x2012 0) z_Tile).N)).e4)), (.int .i64 ((A8_Int.set a2011 z_ ((rdD p0 (rdD p1 x2012 0) z_Tile).N)).e5)), (.int .i64 ((A8_Int.set a2011 z_ ((rdD p0 (rdD p1 x2012 0) z_Tile).N)).e6)), (.int .i64 ((A8_Int.set a2011 z_ ((rdD p0 (rdD p1 x2012 0) z_Tile).N)).e7)), (.int .i64 0), (.int .i64 0)] : Array Value)) h2038 (by kernel_rfl) (by kernel_rfl) (by kernel_rfl) (by kernel_rfl) (by kernel_rfl) (by kernel_rfl) (by kernel_rfl) (by kernel_rfl))
        refine WL.store hS2040 0 rfl [(9 + x2012.toNat * 1, (.int .i64 ((rdD p0 (rdD p1 x2012 0) z_Tile).N)))] #[(.slice A1927 (([] : List Int) ++ p1).length c1928), (.int .i64 ((A8_Int.set a2010 x2012 ((rdD p0 (rdD p1 x2012 0) z_Tile).S)).e0)), (.int .i64 ((A8_Int.set a2010 x2012 ((rdD p0 (rdD p1 x2012 0) z_Tile).S)).e1)), (.int .i64 ((A8_Int.set a2010 x2012 ((rdD p0 (rdD p1 x2012 0) z_Tile).S)).e2)), (.int .i64 ((A8_Int.set a2010 x2012 ((rdD p0 (rdD p1 x2012 0) z_Tile).S)).e3)), (.int .i64 ((A8_Int.set a2010 x2012 ((rdD p0 (rdD p1 x2012 0) z_Tile).S)).e4)), (.int .i64 ((A8_Int.set a2010 x2012 ((rdD p0 (rdD p1 x2012 0) z_Tile).S)).e5)), (.int .i64 ((A8_Int.set a2010 x2012 ((rdD p0 (rdD p1 x2012 0) z_Tile).S)).e6)), (.int .i64 ((A8_Int.set a2010 x2012 ((rdD p0 (rdD p1 x2012 0) z_Tile).S)).e7)), (.int .i64 ((A8_Int.set a2011 x2012 ((rdD p0 (rdD p1 x2012 0) z_Tile).N)).e0)), (.int .i64 ((A8_Int.set a2011 x2012 ((rdD p0 (rdD p1 x2012 0) z_Tile).N)).e1)), (.int .i64 ((A8_Int.set a2011 x2012 ((rdD p0 (rdD p1 x2012 0) z_Tile).N)).e2)), (.int .i64 ((A8_Int.set a2011 x2012 ((rdD p0 (rdD p1 x2012 0) z_Tile).N)).e3)), (.int .i64 ((A8_Int.set a2011 x2012 ((rdD p0 (rdD p1 x2012 0) z_Tile).N)).e4)), (.int .i64 ((A8_Int.set a2011 x2012 ((rdD p0 (rdD p1 x2012 0) z_Tile).N)).e5)), (.int .i64 ((A8_Int.set a2011 x2012 ((rdD p0 (rdD p1 x2012 0) z_Tile).N)).e6)), (.int .i64 ((A8_Int.set a2011 x2012 ((rdD p0 (rdD p1 x2012 0) z_Tile).N)).e7)), (.int .i64 0), (.int .i64 0)] (fun fb => by kernel_rfl) h2045 h2046 [1, 2] (by decide) (by decide) (fun w2043 hS2044 => ?_)
        refine ⟨trivial, ?_⟩
        refine WL.done rfl ?_
        refine WX.blockN (WX.next ?_)
        refine WC.region ?_
        refine seg 2 [] [0, 1, 4, 5, 11, 12, 13] [(0, (.slice A_p0 p0.length c_p0)), (1, (.slice A_p1 p1.length c_p1)), (4, (.pointer (some ⟨g1921, 0, none⟩))), (5, (.pointer (some ⟨g1931, 0, none⟩))), (11, (.slice A_p1 p1.length c_p1)), (12, (.int .i64 (p1.length : Int))), (13, (.int .i64 (w64 (x2012 + 1))))] [] (fun fb => by kernel_rfl) rfl trivial ?_
        refine WL.done rfl ?_
        exact WX.again k2017 (Nat.lt_succ_self _) ((A8_Int.set a2010 x2012 ((rdD p0 (rdD p1 x2012 0) z_Tile).S)), (A8_Int.set a2011 x2012 ((rdD p0 (rdD p1 x2012 0) z_Tile).N)), w64 (x2012 + 1)) [0, 1, 4, 5, 11, 12, 13] rfl ⟨(hS2044.subR [0, 1]).sub [1, 0, 2] (by decide), hl2020⟩
      refine WC.condF2 (fun fb => by kernel_rfl) h2021 ?_
      refine WC.exit ?_
      injection hl2020 with hl2020
      exact WX.thenX (WX.thenX (WX.blockHere (WX.to Kx2015 (a2010, a2011) [0, 1, 4, 5] rfl ⟨(hS2019.subR [0, 1]).sub [0, 1, 2] (by decide), hl2020.symm⟩)))
  rintro y2050 w2047 ⟨hS2048, hq2049⟩
  subst hq2049
  refine WX.next ?_
  refine WC.seq ?_
  obtain ⟨h2065, hf⟩ := as_some hf
  obtain ⟨h2066, hf⟩ := as_some hf
  obtain ⟨h2067, hf⟩ := as_some hf
  obtain ⟨h2068, hf⟩ := as_some hf
  refine WC.regionD ([(3, ((adr A_p1).add (((0 : Int)).toNat * 1)), (.int .i64 (rdD p1 (0 : Int) 0))), (6, (((adr A_p0).add (((rdD p1 (0 : Int) 0)).toNat * 4)).add 3), (.int .i64 ((rdD p0 (rdD p1 (0 : Int) 0) z_Tile).W))), (13, ((adr A_p1).add ((w64 ((p1.length : Int) - 1)).toNat * 1)), (.int .i64 (rdD p1 (w64 ((p1.length : Int) - 1)) 0))), (16, (((adr A_p0).add (((rdD p1 (w64 ((p1.length : Int) - 1)) 0)).toNat * 4)).add 1), (.int .i64 ((rdD p0 (rdD p1 (w64 ((p1.length : Int) - 1)) 0) z_Tile).E)))], [0, 1, 2, 3, 4, 5, 6, 7, 8, 9, 10, 11, 12, 13, 14, 15, 16, 17, 19], [[], [], [1], [1, 2], [0, 1, 2, 3], [0, 1, 2, 3, 4], [0, 1, 2, 3, 4, 5], [], [], [], [9], [9, 10], [8, 9, 10, 11], [8, 9, 10, 11, 12], [7, 8, 9, 10, 11, 12, 13], [7, 8, 9, 10, 11, 12, 13, 14], [7, 8, 9, 10, 11, 12, 13, 14, 15], [0, 1, 2, 3, 4, 5, 6], [0, 1, 2, 3, 4, 5, 6, 17], [0, 1, 2, 3, 4, 5, 6, 7, 8, 9, 10, 11, 12, 13, 14, 15, 16, 17, 18], [0, 1, 2, 3, 4, 5, 6, 7, 8, 9, 10, 11, 12, 13, 14, 15, 16, 17, 18, 19]]) [[0, 1, 2, 3, 4, 5, 6, 7, 8, 9, 10, 11, 12, 13, 14, 15, 16, 17, 18, 19, 20]] (by kernel_rfl) (by kernel_rfl) (NoPanic.seq (NoPanic.body)) ?_
  have hS2060 := hS2048.drew
  revert hS2060
  generalize World.drew w2047 = w2059
  intro hS2060
  refine ⟨⟨rowR.cell (hS2060.rd 1).1 0 h2065.1 h2065.2 0 rfl, rowR.cell (hS2060.rd 0).1 z_Tile h2066.1 h2066.2 3 rfl, rowR.cell (hS2060.rd 1).1 0 h2067.1 h2067.2 0 rfl, rowR.cell (hS2060.rd 0).1 z_Tile h2068.1 h2068.2 1 rfl, trivial⟩, forallC ?_ (forallN)⟩
  refine segF 18 [.v (.int .i64 (rdD p1 (0 : Int) 0)), .v (.int .i64 ((rdD p0 (rdD p1 (0 : Int) 0) z_Tile).W)), .v (.int .i64 (rdD p1 (w64 ((p1.length : Int) - 1)) 0)), .v (.int .i64 ((rdD p0 (rdD p1 (w64 ((p1.length : Int) - 1)) 0) z_Tile).E))] [4, 5, 41, 51, 52] [(4, (.pointer (some ⟨g1921, 0, none⟩))), (5, (.pointer (some ⟨g1931, 0, none⟩))), (41, (.int .i64 ((rdD p0 (rdD p1 (0 : Int) 0) z_Tile).W))), (51, (.int .i64 ((rdD p0 (rdD p1 (w64 ((p1.length : Int) - 1)) 0) z_Tile).E))), (52, (.pointer (some ⟨g1931, 17, none⟩)))] [.idx A_p1 (0 : Int) p1.length, .idx A_p0 (rdD p1 (0 : Int) 0) p0.length, .idx A_p1 (w64 ((p1.length : Int) - 1)) p1.length, .idx A_p0 (rdD p1 (w64 ((p1.length : Int) - 1)) 0) p0.length] [0, 1, 2, 3] [(3, ((adr A_p1).add (((0 : Int)).toNat * 1)), (.int .i64 (rdD p1 (0 : Int) 0))), (6, (((adr A_p0).add (((rdD p1 (0 : Int) 0)).toNat * 4)).add 3), (.int .i64 ((rdD p0 (rdD p1 (0 : Int) 0) z_Tile).W))), (13, ((adr A_p1).add ((w64 ((p1.length : Int) - 1)).toNat * 1)), (.int .i64 (rdD p1 (w64 ((p1.length : Int) - 1)) 0))), (16, (((adr A_p0).add (((rdD p1 (w64 ((p1.length : Int) - 1)) 0)).toNat * 4)).add 1), (.int .i64 ((rdD p0 (rdD p1 (w64 ((p1.length : Int) - 1)) 0) z_Tile).E)))] (fun fb => by kernel_rfl) rfl ⟨rowR.adr (hS2060.rd 1).1 h2065.1 h2065.2, rowR.adr (hS2060.rd 0).1 h2066.1 h2066.2, rowR.adr (hS2060.rd 1).1 h2067.1 h2067.2, rowR.adr (hS2060.rd 0).1 h2068.1 h2068.2, trivial⟩ rfl ?_
  refine WL.store hS2060 1 rfl [(17, (.int .i64 ((rdD p0 (rdD p1 (0 : Int) 0) z_Tile).W)))] #[(.slice A1927 (([] : List Int) ++ p1).length c1928), (.int .i64 x2015.1.e0), (.int .i64 x2015.1.e1), (.int .i64 x2015.1.e2), (.int .i64 x2015.1.e3), (.int .i64 x2015.1.e4), (.int .i64 x2015.1.e5), (.int .i64 x2015.1.e6), (.int .i64 x2015.1.e7), (.int .i64 x2015.2.e0), (.int .i64 x2015.2.e1), (.int .i64 x2015.2.e2), (.int .i64 x2015.2.e3), (.int .i64 x2015.2.e4), (.int .i64 x2015.2.e5), (.int .i64 x2015.2.e6), (.int .i64 x2015.2.e7), (.int .i64 ((rdD p0 (rdD p1 (0 : Int) 0) z_Tile).W)), (.int .i64 0)] (fun fb => by kernel_rfl) (by kernel_rfl) (by kernel_rfl) [0, 2] (by decide) (by decide) (fun w2069 hS2070 => ?_)
  refine ⟨⟨rowR.cell (hS2070.rd 1).1 0 h2067.1 h2067.2 0 rfl, rowR.cell (hS2070.rd 0).1 z_Tile h2068.1 h2068.2 1 rfl, trivial⟩, ?_⟩
  refine seg 20 [] [4, 5, 51, 53] [(4, (.pointer (some ⟨g1921, 0, none⟩))), (5, (.pointer (some ⟨g1931, 0, none⟩))), (51, (.int .i64 ((rdD p0 (rdD p1 (w64 ((p1.length : Int) - 1)) 0) z_Tile).E))), (53, (.pointer (some ⟨g1931, 18, none⟩)))] [] (fun fb => by kernel_rfl) rfl trivial ?_
  refine WL.store hS2070 0 rfl [(18, (.int .i64 ((rdD p0 (rdD p1 (w64 ((p1.length : Int) - 1)) 0) z_Tile).E)))] #[(.slice A1927 (([] : List Int) ++ p1).length c1928), (.int .i64 x2015.1.e0), (.int .i64 x2015.1.e1), (.int .i64 x2015.1.e2), (.int .i64 x2015.1.e3), (.int .i64 x2015.1.e4), (.int .i64 x2015.1.e5), (.int .i64 x2015.1.e6), (.int .i64 x2015.1.e7), (.int .i64 x2015.2.e0), (.int .i64 x2015.2.e1), (.int .i64 x2015.2.e2), (.int .i64 x2015.2.e3), (.int .i64 x2015.2.e4), (.int .i64 x2015.2.e5), (.int .i64 x2015.2.e6), (.int .i64 x2015.2.e7), (.int .i64 ((rdD p0 (rdD p1 (0 : Int) 0) z_Tile).W)), (.int .i64 ((rdD p0 (rdD p1 (w64 ((p1.length : Int) - 1)) 0) z_Tile).E))] (fun fb => by kernel_rfl) (by kernel_rfl) (by kernel_rfl) [1, 2] (by decide) (by decide) (fun w2071 hS2072 => ?_)
  refine ⟨trivial, ?_⟩
  refine WL.done rfl ?_
  refine WX.next ?_
  refine WC.seq ?_
  refine WC.region ?_
  refine seg 1 [.v (.slice A1927 (([] : List Int) ++ p1).length c1928), .v (.int .i64 x2015.1.e0), .v (.int .i64 x2015.1.e1), .v (.int .i64 x2015.1.e2), .v (.int .i64 x2015.1.e3), .v (.int .i64 x2015.1.e4), .v (.int .i64 x2015.1.e5), .v (.int .i64 x2015.1.e6), .v (.int .i64 x2015.1.e7), .v (.int .i64 x2015.2.e0), .v (.int .i64 x2015.2.e1), .v (.int .i64 x2015.2.e2), .v (.int .i64 x2015.2.e3), .v (.int .i64 x2015.2.e4), .v (.int .i64 x2015.2.e5), .v (.int .i64 x2015.2.e6), .v (.int .i64 x2015.2.e7), .v (.int .i64 ((rdD p0 (rdD p1 (0 : Int) 0) z_Tile).W)), .v (.int .i64 ((rdD p0 (rdD p1 (w64 ((p1.length : Int) - 1)) 0) z_Tile).E))] [4, 54] [(4, (.pointer (some ⟨g1921, 0, none⟩))), (54, (.agg #[(.slice A1927 (([] : List Int) ++ p1).length c1928), (.int .i64 x2015.1.e0), (.int .i64 x2015.1.e1), (.int .i64 x2015.1.e2), (.int .i64 x2015.1.e3), (.int .i64 x2015.1.e4), (.int .i64 x2015.1.e5), (.int .i64 x2015.1.e6), (.int .i64 x2015.1.e7), (.int .i64 x2015.2.e0), (.int .i64 x2015.2.e1), (.int .i64 x2015.2.e2), (.int .i64 x2015.2.e3), (.int .i64 x2015.2.e4), (.int .i64 x2015.2.e5), (.int .i64 x2015.2.e6), (.int .i64 x2015.2.e7), (.int .i64 ((rdD p0 (rdD p1 (0 : Int) 0) z_Tile).W)), (.int .i64 ((rdD p0 (rdD p1 (w64 ((p1.length : Int) - 1)) 0) z_Tile).E))]))] [.cell ⟨g1931, 0, none⟩ (.slice A1927 (([] : List Int) ++ p1).length c1928), .cell ⟨g1931, 1, none⟩ (.int .i64 x2015.1.e0), .cell ⟨g1931, 2, none⟩ (.int .i64 x2015.1.e1), .cell ⟨g1931, 3, none⟩ (.int .i64 x2015.1.e2), .cell ⟨g1931, 4, none⟩ (.int .i64 x2015.1.e3), .cell ⟨g1931, 5, none⟩ (.int .i64 x2015.1.e4), .cell ⟨g1931, 6, none⟩ (.int .i64 x2015.1.e5), .cell ⟨g1931, 7, none⟩ (.int .i64 x2015.1.e6), .cell ⟨g1931, 8, none⟩ (.int .i64 x2015.1.e7), .cell ⟨g1931, 9, none⟩ (.int .i64 x2015.2.e0), .cell ⟨g1931, 10, none⟩ (.int .i64 x2015.2.e1), .cell ⟨g1931, 11, none⟩ (.int .i64 x2015.2.e2), .cell ⟨g1931, 12, none⟩ (.int .i64 x2015.2.e3), .cell ⟨g1931, 13, none⟩ (.int .i64 x2015.2.e4), .cell ⟨g1931, 14, none⟩ (.int .i64 x2015.2.e5), .cell ⟨g1931, 15, none⟩ (.int .i64 x2015.2.e6), .cell ⟨g1931, 16, none⟩ (.int .i64 x2015.2.e7), .cell ⟨g1931, 17, none⟩ (.int .i64 ((rdD p0 (rdD p1 (0 : Int) 0) z_Tile).W)), .cell ⟨g1931, 18, none⟩ (.int .i64 ((rdD p0 (rdD p1 (w64 ((p1.length : Int) - 1)) 0) z_Tile).E))] (fun fb => by kernel_rfl) rfl ⟨hS2072.cell 0 rfl 0 rfl, hS2072.cell 0 rfl 1 rfl, hS2072.cell 0 rfl 2 rfl, hS2072.cell 0 rfl 3 rfl, hS2072.cell 0 rfl 4 rfl, hS2072.cell 0 rfl 5 rfl, hS2072.cell 0 rfl 6 rfl, hS2072.cell 0 rfl 7 rfl, hS2072.cell 0 rfl 8 rfl, hS2072.cell 0 rfl 9 rfl, hS2072.cell 0 rfl 10 rfl, hS2072.cell 0 rfl 11 rfl, hS2072.cell 0 rfl 12 rfl, hS2072.cell 0 rfl 13 rfl, hS2072.cell 0 rfl 14 rfl, hS2072.cell 0 rfl 15 rfl, hS2072.cell 0 rfl 16 rfl, hS2072.cell 0 rfl 17 rfl, hS2072.cell 0 rfl 18 rfl, trivial⟩ ?_
  refine WL.store hS2072 1 rfl [(0, (.slice A1927 (([] : List Int) ++ p1).length c1928)), (1, (.int .i64 x2015.1.e0)), (2, (.int .i64 x2015.1.e1)), (3, (.int .i64 x2015.1.e2)), (4, (.int .i64 x2015.1.e3)), (5, (.int .i64 x2015.1.e4)), (6, (.int .i64 x2015.1.e5)), (7, (.int .i64 x2015.1.e6)), (8, (.int .i64 x2015.1.e7)), (9, (.int .i64 x2015.2.e0)), (10, (.int .i64 x2015.2.e1)), (11, (.int .i64 x2015.2.e2)), (12, (.int .i64 x2015.2.e3)), (13, (.int .i64 x2015.2.e4)), (14, (.int .i64 x2015.2.e5)), (15, (.int .i64 x2015.2.e6)), (16, (.int .i64 x2015.2.e7)), (17, (.int .i64 ((rdD p0 (rdD p1 (0 : Int) 0) z_Tile).W))), (18, (.int .i64 ((rdD p0 (rdD p1 (w64 ((p1.length : Int) - 1)) 0) z_Tile).E)))] #[(.slice A1927 (([] : List Int) ++ p1).length c1928), (.int .i64 x2015.1.e0), (.int .i64 x2015.1.e1), (.int .i64 x2015.1.e2), (.int .i64 x2015.1.e3), (.int .i64 x2015.1.e4), (.int .i64 x2015.1.e5), (.int .i64 x2015.1.e6), (.int .i64 x2015.1.e7), (.int .i64 x2015.2.e0), (.int .i64 x2015.2.e1), (.int .i64 x2015.2.e2), (.int .i64 x2015.2.e3), (.int .i64 x2015.2.e4), (.int .i64 x2015.2.e5), (.int .i64 x2015.2.e6), (.int .i64 x2015.2.e7), (.int .i64 ((rdD p0 (rdD p1 (0 : Int) 0) z_Tile).W)), (.int .i64 ((rdD p0 (rdD p1 (w64 ((p1.length : Int) - 1)) 0) z_Tile).E))] (fun fb => by kernel_rfl) (by kernel_rfl) (by kernel_rfl) [0, 2] (by decide) (by decide) (fun w2073 hS2074 => ?_)
  refine ⟨trivial, ?_⟩
  refine WL.done rfl ?_
  refine WX.next ?_
  refine WC.ret ?_
  injection hf with hf
  subst hf
  exact WX.ret_ [.v (.slice A1927 (([] : List Int) ++ p1).length c1928), .v (.int .i64 x2015.1.e0), .v (.int .i64 x2015.1.e1), .v (.int .i64 x2015.1.e2), .v (.int .i64 x2015.1.e3), .v (.int .i64 x2015.1.e4), .v (.int .i64 x2015.1.e5), .v (.int .i64 x2015.1.e6), .v (.int .i64 x2015.1.e7), .v (.int .i64 x2015.2.e0), .v (.int .i64 x2015.2.e1), .v (.int .i64 x2015.2.e2), .v (.int .i64 x2015.2.e3), .v (.int .i64 x2015.2.e4), .v (.int .i64 x2015.2.e5), .v (.int .i64 x2015.2.e6), .v (.int .i64 x2015.2.e7), .v (.int .i64 ((rdD p0 (rdD p1 (0 : Int) 0) z_Tile).W)), .v (.int .i64 ((rdD p0 (rdD p1 (w64 ((p1.length : Int) - 1)) 0) z_Tile).E))] (.agg #[(.slice A1927 (([] : List Int) ++ p1).length c1928), (.int .i64 x2015.1.e0), (.int .i64 x2015.1.e1), (.int .i64 x2015.1.e2), (.int .i64 x2015.1.e3), (.int .i64 x2015.1.e4), (.int .i64 x2015.1.e5), (.int .i64 x2015.1.e6), (.int .i64 x2015.1.e7), (.int .i64 x2015.2.e0), (.int .i64 x2015.2.e1), (.int .i64 x2015.2.e2), (.int .i64 x2015.2.e3), (.int .i64 x2015.2.e4), (.int .i64 x2015.2.e5), (.int .i64 x2015.2.e6), (.int .i64 x2015.2.e7), (.int .i64 ((rdD p0 (rdD p1 (0 : Int) 0) z_Tile).W)), (.int .i64 ((rdD p0 (rdD p1 (w64 ((p1.length : Int) - 1)) 0) z_Tile).E))]) [.cell ⟨g1921, 0, none⟩ (.slice A1927 (([] : List Int) ++ p1).length c1928), .cell ⟨g1921, 1, none⟩ (.int .i64 x2015.1.e0), .cell ⟨g1921, 2, none⟩ (.int .i64 x2015.1.e1), .cell ⟨g1921, 3, none⟩ (.int .i64 x2015.1.e2), .cell ⟨g1921, 4, none⟩ (.int .i64 x2015.1.e3), .cell ⟨g1921, 5, none⟩ (.int .i64 x2015.1.e4), .cell ⟨g1921, 6, none⟩ (.int .i64 x2015.1.e5), .cell ⟨g1921, 7, none⟩ (.int .i64 x2015.1.e6), .cell ⟨g1921, 8, none⟩ (.int .i64 x2015.1.e7), .cell ⟨g1921, 9, none⟩ (.int .i64 x2015.2.e0), .cell ⟨g1921, 10, none⟩ (.int .i64 x2015.2.e1), .cell ⟨g1921, 11, none⟩ (.int .i64 x2015.2.e2), .cell ⟨g1921, 12, none⟩ (.int .i64 x2015.2.e3), .cell ⟨g1921, 13, none⟩ (.int .i64 x2015.2.e4), .cell ⟨g1921, 14, none⟩ (.int .i64 x2015.2.e5), .cell ⟨g1921, 15, none⟩ (.int .i64 x2015.2.e6), .cell ⟨g1921, 16, none⟩ (.int .i64 x2015.2.e7), .cell ⟨g1921, 17, none⟩ (.int .i64 ((rdD p0 (rdD p1 (0 : Int) 0) z_Tile).W)), .cell ⟨g1921, 18, none⟩ (.int .i64 ((rdD p0 (rdD p1 (w64 ((p1.length : Int) - 1)) 0) z_Tile).E))] (fun fb => by kernel_rfl) ⟨hS2074.cell 0 rfl 0 rfl, hS2074.cell 0 rfl 1 rfl, hS2074.cell 0 rfl 2 rfl, hS2074.cell 0 rfl 3 rfl, hS2074.cell 0 rfl 4 rfl, hS2074.cell 0 rfl 5 rfl, hS2074.cell 0 rfl 6 rfl, hS2074.cell 0 rfl 7 rfl, hS2074.cell 0 rfl 8 rfl, hS2074.cell 0 rfl 9 rfl, hS2074.cell 0 rfl 10 rfl, hS2074.cell 0 rfl 11 rfl, hS2074.cell 0 rfl 12 rfl, hS2074.cell 0 rfl 13 rfl, hS2074.cell 0 rfl 14 rfl, hS2074.cell 0 rfl 15 rfl, hS2074.cell 0 rfl 16 rfl, hS2074.cell 0 rfl 17 rfl, hS2074.cell 0 rfl 18 rfl, trivial⟩ ⟨_, rfl, A1927, c1928, rfl, (hS2074.sub [2] (by decide)).noR⟩
theorem rows_All_1_calls : ∀ (k : Nat) (p0 : Int) (f0 : Int) (f1 : List Row) (f2 : List Tile) (f3 : List Int) (g_f0 : Nat) (g_f1 : Nat) (A_f1 : Option Addr) (c_f1 : Nat) (H_f1 : Nat → HF) (g_f2 : Nat) (A_f2 : Option Addr) (c_f2 : Nat) (g_f3 : Nat) (A_f3 : Option Addr) (c_f3 : Nat) (g_f4 : Nat) (r : (List Row) × (List Int)) (w : World) (hR0 : RO (fpL [blk g_f1 (.cells #[(.slice A_f1 f1.length c_f1)] 82 (0, 0)), rowO 88 encN_Row A_f1 c_f1 (tag H_f1 f1), poolO [nestO subN_Row H_f1 f1], blk g_f3 (.cells #[(.slice A_f3 f3.length c_f3)] 36 (0, 0)), rowO 3 encInt A_f3 c_f3 f3]) w (blk g_f0 (.cells #[(.int .i64 f0)] 3 (0, 0)))) (hR1 : RO (fpL [blk g_f1 (.cells #[(.slice A_f1 f1.length c_f1)] 82 (0, 0)), rowO 88 encN_Row A_f1 c_f1 (tag H_f1 f1), poolO [nestO subN_Row H_f1 f1], blk g_f3 (.cells #[(.slice A_f3 f3.length c_f3)] 36 (0, 0)), rowO 3 encInt A_f3 c_f3 f3]) w (blk g_f2 (.cells #[(.slice A_f2 f2.length c_f2)] 22 (0, 0)))) (hR2 : RO (fpL [blk g_f1 (.cells #[(.slice A_f1 f1.length c_f1)] 82 (0, 0)), rowO 88 encN_Row A_f1 c_f1 (tag H_f1 f1), poolO [nestO subN_Row H_f1 f1], blk g_f3 (.cells #[(.slice A_f3 f3.length c_f3)] 36 (0, 0)), rowO 3 encInt A_f3 c_f3 f3]) w (rowR enc_Tile A_f2 c_f2 f2)) (hR3 : RO (fpL [blk g_f1 (.cells #[(.slice A_f1 f1.length c_f1)] 82 (0, 0)), rowO 88 encN_Row A_f1 c_f1 (tag H_f1 f1), poolO [nestO subN_Row H_f1 f1], blk g_f3 (.cells #[(.slice A_f3 f3.length c_f3)] 36 (0, 0)), rowO 3 encInt A_f3 c_f3 f3]) w (blk g_f4 (.cells #[(.func (.func 82) #[] #[(.pointer (some ⟨g_f0, 0, none⟩)), (.pointer (some ⟨g_f1, 0, none⟩)), (.pointer (some ⟨g_f2, 0, none⟩)), (.pointer (some ⟨g_f3, 0, none⟩)), (.pointer (some ⟨g_f4, 0, none⟩))])] 115 (0, 0)))) (hI : IoOK w [blk g_f1 (.cells #[(.slice A_f1 f1.length c_f1)] 82 (0, 0)), rowO 88 encN_Row A_f1 c_f1 (tag H_f1 f1), poolO [nestO subN_Row H_f1 f1], blk g_f3 (.cells #[(.slice A_f3 f3.length c_f3)] 36 (0, 0)), rowO 3 encInt A_f3 c_f3 f3]) (hf : rows_All_1 k p0 f0 f1 f2 f3 = some r),
    CallsR Try.prog 82 #[(.int .i64 p0), (.pointer (some ⟨g_f0, 0, none⟩)), (.pointer (some ⟨g_f1, 0, none⟩)), (.pointer (some ⟨g_f2, 0, none⟩)), (.pointer (some ⟨g_f3, 0, none⟩)), (.pointer (some ⟨g_f4, 0, none⟩))] w (fun v w' => ∃ (A1_ : Option Addr), ∃ (c1_ : Nat), ∃ (h1_ : Nat → HF), ∃ (A2_ : Option Addr), ∃ (c2_ : Nat), v = (.tuple #[]) ∧ St (fpL [blk g_f1 (.cells #[(.slice A_f1 f1.length c_f1)] 82 (0, 0)), rowO 88 encN_Row A_f1 c_f1 (tag H_f1 f1), poolO [nestO subN_Row H_f1 f1], blk g_f3 (.cells #[(.slice A_f3 f3.length c_f3)] 36 (0, 0)), rowO 3 encInt A_f3 c_f3 f3]) w w' [] [blk g_f1 (.cells #[(.slice A1_ r.1.length c1_)] 82 (0, 0)), rowO 88 encN_Row A1_ c1_ (tag h1_ r.1), poolO [nestO subN_Row h1_ r.1], blk g_f3 (.cells #[(.slice A2_ r.2.length c2_)] 36 (0, 0)), rowO 3 encInt A2_ c2_ r.2]) := by
  intro k
  induction k with
  | zero => intro p0 f0 f1 f2 f3 g_f0 g_f1 A_f1 c_f1 H_f1 g_f2 A_f2 c_f2 g_f3 A_f3 c_f3 g_f4 r w hR0 hR1 hR2 hR3 hI hf; rw [rows_All_1] at hf; cases hf
  | succ k ih_ =>
  intro p0 f0 f1 f2 f3 g_f0 g_f1 A_f1 c_f1 H_f1 g_f2 A_f2 c_f2 g_f3 A_f3 c_f3 g_f4 r w hR0 hR1 hR2 hR3 hI hf
  have hS : St (fpL [blk g_f1 (.cells #[(.slice A_f1 f1.length c_f1)] 82 (0, 0)), rowO 88 encN_Row A_f1 c_f1 (tag H_f1 f1), poolO [nestO subN_Row H_f1 f1], blk g_f3 (.cells #[(.slice A_f3 f3.length c_f3)] 36 (0, 0)), rowO 3 encInt A_f3 c_f3 f3]) w w [blk g_f0 (.cells #[(.int .i64 f0)] 3 (0, 0)), blk g_f2 (.cells #[(.slice A_f2 f2.length c_f2)] 22 (0, 0)), rowR enc_Tile A_f2 c_f2 f2, blk g_f4 (.cells #[(.func (.func 82) #[] #[(.pointer (some ⟨g_f0, 0, none⟩)), (.pointer (some ⟨g_f1, 0, none⟩)), (.pointer (some ⟨g_f2, 0, none⟩)), (.pointer (some ⟨g_f3, 0, none⟩)), (.pointer (some ⟨g_f4, 0, none⟩))])] 115 (0, 0))] [blk g_f1 (.cells #[(.slice A_f1 f1.length c_f1)] 82 (0, 0)), rowO 88 encN_Row A_f1 c_f1 (tag H_f1 f1), poolO [nestO subN_Row H_f1 f1], blk g_f3 (.cells #[(.slice A_f3 f3.length c_f3)] 36 (0, 0)), rowO 3 encInt A_f3 c_f3 f3] := St.initIO (ro_cons hR0 (ro_cons hR1 (ro_cons hR2 (ro_cons hR3 (ro_nil _ _))))) hI
  rw [rows_All_1] at hf
  generalize rows_All_1 k = rc_ at hf ih_
  refine enter 50 Try.func82 rfl Try.ntmps82 rfl ?_
  refine WC.seq ?_
  refine WC.seq ?_
  refine WC.region ?_
  refine seg 3 [.v (.int .i64 f0)] [0, 2, 3, 4, 5, 11] [(0, (.int .i64 p0)), (2, (.pointer (some ⟨g_f1, 0, none⟩))), (3, (.pointer (some ⟨g_f2, 0, none⟩))), (4, (.pointer (some ⟨g_f3, 0, none⟩))), (5, (.pointer (some ⟨g_f4, 0, none⟩))), (11, (.bool (p0 == f0)))] [.cell ⟨g_f0, 0, none⟩ (.int .i64 f0)] (fun fb => by kernel_rfl) rfl ⟨blk_cell (hS.rd 0).1 0 rfl, trivial⟩ ?_
  refine WL.done rfl ?_
  refine WX.next ?_
  rcases br_some hf with ⟨h2254, hf⟩ | ⟨h2254, hf⟩
  · refine WC.condT2 (fun fb => by kernel_rfl) h2254 ?_
    refine WC.seq ?_
    refine WC.regionD ([(0, ⟨g_f1, 0, none⟩, (.slice A_f1 f1.length c_f1)), (1, ⟨g_f2, 0, none⟩, (.slice A_f2 f2.length c_f2)), (2, ⟨g_f3, 0, none⟩, (.slice A_f3 f3.length c_f3))], [0, 1, 2], [[], [], [], [1, 2], [1, 2, 3], [0, 1, 2, 3, 4], [0, 1, 2, 3, 4, 5]]) [[0, 1, 2, 3, 4, 5, 6]] (by kernel_rfl) (by kernel_rfl) (NoPanic.seq (NoPanic.seq (NoPanic.body))) ?_
    have hS2276 := hS.drew
    revert hS2276
    generalize World.drew w = w2275
    intro hS2276
    refine ⟨⟨hS2276.cell 0 rfl 0 rfl, blk_cell (hS2276.rd 1).1 0 rfl, hS2276.cell 3 rfl 0 rfl, trivial⟩, forallC ?_ (forallN)⟩
    refine segF 3 [.v (.slice A_f1 f1.length c_f1), .v (.slice A_f2 f2.length c_f2), .v (.slice A_f3 f3.length c_f3)] [2, 4, 12, 13, 14] [(2, (.pointer (some ⟨g_f1, 0, none⟩))), (4, (.pointer (some ⟨g_f3, 0, none⟩))), (12, (.slice A_f1 f1.length c_f1)), (13, (.slice A_f2 f2.length c_f2)), (14, (.slice A_f3 f3.length c_f3))] [] [0, 1, 2] [(0, ⟨g_f1, 0, none⟩, (.slice A_f1 f1.length c_f1)), (1, ⟨g_f2, 0, none⟩, (.slice A_f2 f2.length c_f2)), (2, ⟨g_f3, 0, none⟩, (.slice A_f3 f3.length c_f3))] (fun fb => by kernel_rfl) rfl trivial rfl ?_
    obtain ⟨t2277, ht2278, hf⟩ := bind_some hf
    refine WL.call (some 15) 83 #[(.slice A_f2 f2.length c_f2), (.slice A_f3 f3.length c_f3)] (fun fb => by kernel_rfl) (rows_rowOf_calls _ f2 f3 A_f2 c_f2 A_f3 c_f3 t2277 _ (hS2276.rd 2) (hS2276.ow 4).ofO ht2278) (fun v w2279 hR2280 => ?_)
    obtain ⟨A2282, c2283, rfl, hk_⟩ := hR2280
    have hS2281 : St (fpL [blk g_f1 (.cells #[(.slice A_f1 f1.length c_f1)] 82 (0, 0)), rowO 88 encN_Row A_f1 c_f1 (tag H_f1 f1), poolO [nestO subN_Row H_f1 f1], blk g_f3 (.cells #[(.slice A_f3 f3.length c_f3)] 36 (0, 0)), rowO 3 encInt A_f3 c_f3 f3]) w w2279 [blk g_f0 (.cells #[(.int .i64 f0)] 3 (0, 0)), blk g_f2 (.cells #[(.slice A_f2 f2.length c_f2)] 22 (0, 0)), rowR enc_Tile A_f2 c_f2 f2, blk g_f4 (.cells #[(.func (.func 82) #[] #[(.pointer (some ⟨g_f0, 0, none⟩)), (.pointer (some ⟨g_f1, 0, none⟩)), (.pointer (some ⟨g_f2, 0, none⟩)), (.pointer (some ⟨g_f3, 0, none⟩)), (.pointer (some ⟨g_f4, 0, none⟩))])] 115 (0, 0))] [rowO 3 encInt A2282 c2283 t2277.Cells, blk g_f1 (.cells #[(.slice A_f1 f1.length c_f1)] 82 (0, 0)), rowO 88 encN_Row A_f1 c_f1 (tag H_f1 f1), poolO [nestO subN_Row H_f1 f1], blk g_f3 (.cells #[(.slice A_f3 f3.length c_f3)] 36 (0, 0)), rowO 3 encInt A_f3 c_f3 f3] := hS2276.call hk_ [] [0, 1, 2, 3, 4] (fun g hg => hg.elim) (by simp) (by decide)
    refine ⟨⟨hS2281.cell 1 rfl 0 rfl, trivial⟩, ?_⟩
    refine WL.new hS2281 16 [] (fun g => (.slice (some ⟨g, 0, none⟩) 1 1)) (.cells #[(.slice A2282 t2277.Cells.length c2283), (.int .i64 t2277.South.e0), (.int .i64 t2277.South.e1), (.int .i64 t2277.South.e2), (.int .i64 t2277.South.e3), (.int .i64 t2277.South.e4), (.int .i64 t2277.South.e5), (.int .i64 t2277.South.e6), (.int .i64 t2277.South.e7), (.int .i64 t2277.North.e0), (.int .i64 t2277.North.e1), (.int .i64 t2277.North.e2), (.int .i64 t2277.North.e3), (.int .i64 t2277.North.e4), (.int .i64 t2277.North.e5), (.int .i64 t2277.North.e6), (.int .i64 t2277.North.e7), (.int .i64 t2277.West), (.int .i64 t2277.East)] 88 (0, 0)) [] (fun fb g => by kernel_rfl) trivial (fun g2284 w2285 hS2286 => ?_)
    refine ⟨⟨hS2286.cell 2 rfl 0 rfl, trivial⟩, ?_⟩
    have hS2288 : St (fpL [blk g_f1 (.cells #[(.slice A_f1 f1.length c_f1)] 82 (0, 0)), rowO 88 encN_Row A_f1 c_f1 (tag H_f1 f1), poolO [nestO subN_Row H_f1 f1], blk g_f3 (.cells #[(.slice A_f3 f3.length c_f3)] 36 (0, 0)), rowO 3 encInt A_f3 c_f3 f3]) w w2285 [blk g_f0 (.cells #[(.int .i64 f0)] 3 (0, 0)), blk g_f2 (.cells #[(.slice A_f2 f2.length c_f2)] 22 (0, 0)), rowR enc_Tile A_f2 c_f2 f2, blk g_f4 (.cells #[(.func (.func 82) #[] #[(.pointer (some ⟨g_f0, 0, none⟩)), (.pointer (some ⟨g_f1, 0, none⟩)), (.pointer (some ⟨g_f2, 0, none⟩)), (.pointer (some ⟨g_f3, 0, none⟩)), (.pointer (some ⟨g_f4, 0, none⟩))])] 115 (0, 0))] [rowO 88 encN_Row (some ⟨g2284, 0, none⟩) 1 [((hd1 A2282 c2283), t2277)], rowO 3 encInt A2282 c2283 t2277.Cells, blk g_f1 (.cells #[(.slice A_f1 f1.length c_f1)] 82 (0, 0)), rowO 88 encN_Row A_f1 c_f1 (tag H_f1 f1), poolO [nestO subN_Row H_f1 f1], blk g_f3 (.cells #[(.slice A_f3 f3.length c_f3)] 36 (0, 0)), rowO 3 encInt A_f3 c_f3 f3] := hS2286.map1 0 _ (fun h => rowO.ofBlk h rfl (Nat.le_of_ble_eq_true (by kernel_rfl))) (fun _ h => by obtain ⟨_, h1, h2⟩ := h; injection h1 with h1; subst h1; exact h2) [1, 2, 3, 4, 5, 6] (by decide) (by decide)
    obtain ⟨h2289, hf⟩ := as_some hf
    refine WL.appendN hS2288 3 (d := 17) (tS := 82) (z := (.agg #[(.slice none 0 0), (.int .i64 0), (.int .i64 0), (.int .i64 0), (.int .i64 0), (.int .i64 0), (.int .i64 0), (.int .i64 0), (.int .i64 0), (.int .i64 0), (.int .i64 0), (.int .i64 0), (.int .i64 0), (.int .i64 0), (.int .i64 0), (.int .i64 0), (.int .i64 0), (.int .i64 0), (.int .i64 0)])) (bytes := 168) (c2 := 1) (hx := (hd1 A2282 c2283)) (x := t2277) rfl (fun fb => by kernel_rfl) (rowO.rd (hS2288.own 0).1) (by kernel_rfl) (by kernel_rfl) rfl (by decide) h2289 (by decide) [0, 1, 2, 4, 5, 6] (by decide) (by decide) (fun A2290 c2291 w2292 hS2293 => ?_)
    have hS2294 : St (fpL [blk g_f1 (.cells #[(.slice A_f1 f1.length c_f1)] 82 (0, 0)), rowO 88 encN_Row A_f1 c_f1 (tag H_f1 f1), poolO [nestO subN_Row H_f1 f1], blk g_f3 (.cells #[(.slice A_f3 f3.length c_f3)] 36 (0, 0)), rowO 3 encInt A_f3 c_f3 f3]) w w2292 [blk g_f0 (.cells #[(.int .i64 f0)] 3 (0, 0)), blk g_f2 (.cells #[(.slice A_f2 f2.length c_f2)] 22 (0, 0)), rowR enc_Tile A_f2 c_f2 f2, blk g_f4 (.cells #[(.func (.func 82) #[] #[(.pointer (some ⟨g_f0, 0, none⟩)), (.pointer (some ⟨g_f1, 0, none⟩)), (.pointer (some ⟨g_f2, 0, none⟩)), (.pointer (some ⟨g_f3, 0, none⟩)), (.pointer (some ⟨g_f4, 0, none⟩))])] 115 (0, 0))] [poolO [nestO subN_Row (updH H_f1 f1.length (hd1 A2282 c2283)) (f1 ++ [t2277])], rowO 88 encN_Row A2290 c2291 (tag (updH H_f1 f1.length (hd1 A2282 c2283)) (f1 ++ [t2277])), rowO 88 encN_Row (some ⟨g2284, 0, none⟩) 1 [((hd1 A2282 c2283), t2277)], blk g_f1 (.cells #[(.slice A_f1 f1.length c_f1)] 82 (0, 0)), blk g_f3 (.cells #[(.slice A_f3 f3.length c_f3)] 36 (0, 0)), rowO 3 encInt A_f3 c_f3 f3] := hS2293.poolPush 4 rfl 0 (by simp) rfl (hd1 A2282 c2283) t2277 (hS2293.ow 2).ofO [2] (fun g hg => ⟨2, by simp, rowO.fpR (hS2293.own 2).1 g hg⟩) _ rfl [0, 1, 3, 5, 6] (by decide) (by decide)
    refine ⟨trivial, ?_⟩
    refine WL.store hS2294 3 rfl [(0, (.slice A2290 (f1 ++ [t2277]).length c2291))] #[(.slice A2290 (f1 ++ [t2277]).length c2291)] (fun fb => by kernel_rfl) (by kernel_rfl) rfl [0, 1, 2, 4, 5] (by decide) (by decide) (fun w2295 hS2296 => ?_)
    refine ⟨trivial, ?_⟩
    refine WL.done rfl ?_
    refine WX.next ?_
    refine WC.ret ?_
    injection hf with hf
    subst hf
    exact WX.thenR (WX.ret_ [] (.tuple #[]) [] (fun fb => by kernel_rfl) trivial ⟨_, rfl, A2290, c2291, (updH H_f1 f1.length (hd1 A2282 c2283)), A_f3, c_f3, rfl, (hS2296.sub [0, 2, 1, 4, 5] (by decide)).noR⟩)
  refine WC.condF2 (fun fb => by kernel_rfl) h2254 ?_
  refine WC.skip ?_
  refine WX.next ?_
  refine WC.seq ?_
  refine WC.region ?_
  refine seg 3 [.v (.slice A_f2 f2.length c_f2)] [0, 2, 3, 4, 5, 18, 19, 20] [(0, (.int .i64 p0)), (2, (.pointer (some ⟨g_f1, 0, none⟩))), (3, (.pointer (some ⟨g_f2, 0, none⟩))), (4, (.pointer (some ⟨g_f3, 0, none⟩))), (5, (.pointer (some ⟨g_f4, 0, none⟩))), (18, (.slice A_f2 f2.length c_f2)), (19, (.int .i64 (f2.length : Int))), (20, (.int .i64 0))] [.cell ⟨g_f2, 0, none⟩ (.slice A_f2 f2.length c_f2)] (fun fb => by kernel_rfl) rfl ⟨blk_cell (hS.rd 1).1 0 rfl, trivial⟩ ?_
  refine WL.done rfl ?_
  refine WX.next ?_
  obtain ⟨x2480, hx2481, hf⟩ := bind_some hf
  refine WC.cutN (T := ((List Row) × (List Int)) × (Option Addr) × Nat × (Nat → HF) × (Option Addr) × Nat) (fun t => [(2, (.pointer (some ⟨g_f1, 0, none⟩))), (4, (.pointer (some ⟨g_f3, 0, none⟩)))]) (fun t w1 => St (fpL [blk g_f1 (.cells #[(.slice A_f1 f1.length c_f1)] 82 (0, 0)), rowO 88 encN_Row A_f1 c_f1 (tag H_f1 f1), poolO [nestO subN_Row H_f1 f1], blk g_f3 (.cells #[(.slice A_f3 f3.length c_f3)] 36 (0, 0)), rowO 3 encInt A_f3 c_f3 f3]) w w1 [blk g_f0 (.cells #[(.int .i64 f0)] 3 (0, 0)), blk g_f2 (.cells #[(.slice A_f2 f2.length c_f2)] 22 (0, 0)), rowR enc_Tile A_f2 c_f2 f2, blk g_f4 (.cells #[(.func (.func 82) #[] #[(.pointer (some ⟨g_f0, 0, none⟩)), (.pointer (some ⟨g_f1, 0, none⟩)), (.pointer (some ⟨g_f2, 0, none⟩)), (.pointer (some ⟨g_f3, 0, none⟩)), (.pointer (some ⟨g_f4, 0, none⟩))])] 115 (0, 0))] [blk g_f1 (.cells #[(.slice t.2.1 t.1.1.length t.2.2.1)] 82 (0, 0)), rowO 88 encN_Row t.2.1 t.2.2.1 (tag t.2.2.2.1 t.1.1), poolO [nestO subN_Row t.2.2.2.1 t.1.1], blk g_f3 (.cells #[(.slice t.2.2.2.2.1 t.1.2.length t.2.2.2.2.2)] 36 (0, 0)), rowO 3 encInt t.2.2.2.2.1 t.2.2.2.2.2 t.1.2] ∧ x2480 = t.1) (fun Kx2480 => ?_) ?_
  ·
    refine WC.block ?_
    refine WC.loop (T := ((List Row) × (List Int) × Int) × (Option Addr) × Nat × (Nat → HF) × (Option Addr) × Nat) (fun t => [(0, (.int .i64 p0)), (2, (.pointer (some ⟨g_f1, 0, none⟩))), (3, (.pointer (some ⟨g_f2, 0, none⟩))), (4, (.pointer (some ⟨g_f3, 0, none⟩))), (5, (.pointer (some ⟨g_f4, 0, none⟩))), (18, (.slice A_f2 f2.length c_f2)), (19, (.int .i64 (f2.length : Int))), (20, (.int .i64 t.1.2.2))]) (fun n t w1 => St (fpL [blk g_f1 (.cells #[(.slice A_f1 f1.length c_f1)] 82 (0, 0)), rowO 88 encN_Row A_f1 c_f1 (tag H_f1 f1), poolO [nestO subN_Row H_f1 f1], blk g_f3 (.cells #[(.slice A_f3 f3.length c_f3)] 36 (0, 0)), rowO 3 encInt A_f3 c_f3 f3]) w w1 [blk g_f0 (.cells #[(.int .i64 f0)] 3 (0, 0)), blk g_f2 (.cells #[(.slice A_f2 f2.length c_f2)] 22 (0, 0)), rowR enc_Tile A_f2 c_f2 f2, blk g_f4 (.cells #[(.func (.func 82) #[] #[(.pointer (some ⟨g_f0, 0, none⟩)), (.pointer (some ⟨g_f1, 0, none⟩)), (.pointer (some ⟨g_f2, 0, none⟩)), (.pointer (some ⟨g_f3, 0, none⟩)), (.pointer (some ⟨g_f4, 0, none⟩))])] 115 (0, 0))] [blk g_f1 (.cells #[(.slice t.2.1 t.1.1.length t.2.2.1)] 82 (0, 0)), rowO 88 encN_Row t.2.1 t.2.2.1 (tag t.2.2.2.1 t.1.1), poolO [nestO subN_Row t.2.2.2.1 t.1.1], blk g_f3 (.cells #[(.slice t.2.2.2.2.1 t.1.2.1.length t.2.2.2.2.2)] 36 (0, 0)), rowO 3 encInt t.2.2.2.2.1 t.2.2.2.2.2 t.1.2.1] ∧ rows_All_1.l0 n t.1.1 t.1.2.1 t.1.2.2 p0 f0 f2 rc_ = some x2480) k ((f1, f3, 0), A_f1, c_f1, H_f1, A_f3, c_f3) [0, 2, 3, 4, 5, 18, 19, 20] rfl ⟨(hS.subR [0, 1, 2, 3]).sub [0, 1, 2, 3, 4] (by decide), hx2481⟩ ?_
    rintro k2482 ⟨⟨l2467, l2471, x2472⟩, A2465, c2466, H2468, A2469, c2470⟩ w2483 ⟨hS2484, hl2485⟩
    cases k2482 with
    | zero => rw [rows_All_1.l0] at hl2485; cases hl2485
    | succ k2482 =>
      rw [rows_All_1.l0] at hl2485
      refine WC.seq ?_
      refine WC.region ?_
      refine seg 1 [] [0, 2, 3, 4, 5, 18, 19, 20, 21] [(0, (.int .i64 p0)), (2, (.pointer (some ⟨g_f1, 0, none⟩))), (3, (.pointer (some ⟨g_f2, 0, none⟩))), (4, (.pointer (some ⟨g_f3, 0, none⟩))), (5, (.pointer (some ⟨g_f4, 0, none⟩))), (18, (.slice A_f2 f2.length c_f2)), (19, (.int .i64 (f2.length : Int))), (20, (.int .i64 x2472)), (21, (.bool (decide (x2472 < (f2.length : Int)))))] [] (fun fb => by kernel_rfl) rfl trivial ?_
      refine WL.done rfl ?_
      refine WX.next ?_
      refine WC.seq ?_
      rcases br_some hl2485 with ⟨h2486, hl2485⟩ | ⟨h2486, hl2485⟩
      · refine WC.condT2 (fun fb => by kernel_rfl) h2486 ?_
        refine WC.skip ?_
        refine WX.next ?_
        refine WC.seq ?_
        refine WC.block ?_
        refine WC.seq ?_
        refine WC.region ?_
        refine seg 1 [] [0, 2, 3, 4, 5, 18, 19, 20, 22] [(0, (.int .i64 p0)), (2, (.pointer (some ⟨g_f1, 0, none⟩))), (3, (.pointer (some ⟨g_f2, 0, none⟩))), (4, (.pointer (some ⟨g_f3, 0, none⟩))), (5, (.pointer (some ⟨g_f4, 0, none⟩))), (18, (.slice A_f2 f2.length c_f2)), (19, (.int .i64 (f2.length : Int))), (20, (.int .i64 x2472)), (22, (.int .i64 x2472))] [] (fun fb => by kernel_rfl) rfl trivial ?_
        obtain ⟨h2487, hl2485⟩ := as_some hl2485
        refine seg 3 [.v (.int .i64 ((rdD f2 x2472 z_Tile).N)), .v (.int .i64 ((rdD f2 x2472 z_Tile).E)), .v (.int .i64 ((rdD f2 x2472 z_Tile).S)), .v (.int .i64 ((rdD f2 x2472 z_Tile).W))] [0, 2, 3, 4, 5, 18, 19, 20, 22, 24] [(0, (.int .i64 p0)), (2, (.pointer (some ⟨g_f1, 0, none⟩))), (3, (.pointer (some ⟨g_f2, 0, none⟩))), (4, (.pointer (some ⟨g_f3, 0, none⟩))), (5, (.pointer (some ⟨g_f4, 0, none⟩))), (18, (.slice A_f2 f2.length c_f2)), (19, (.int .i64 (f2.length : Int))), (20, (.int .i64 x2472)), (22, (.int .i64 x2472)), (24, (.agg #[(.int .i64 ((rdD f2 x2472 z_Tile).N)), (.int .i64 ((rdD f2 x2472 z_Tile).E)), (.int .i64 ((rdD f2 x2472 z_Tile).S)), (.int .i64 ((rdD f2 x2472 z_Tile).W))]))] [.idx A_f2 x2472 f2.length, .cell ((adr A_f2).add ((x2472).toNat * 4)) (.int .i64 ((rdD f2 x2472 z_Tile).N)), .cell (((adr A_f2).add ((x2472).toNat * 4)).add 1) (.int .i64 ((rdD f2 x2472 z_Tile).E)), .cell (((adr A_f2).add ((x2472).toNat * 4)).add 2) (.int .i64 ((rdD f2 x2472 z_Tile).S)), .cell (((adr A_f2).add ((x2472).toNat * 4)).add 3) (.int .i64 ((rdD f2 x2472 z_Tile).W))] (fun fb => by kernel_rfl) rfl ⟨rowR.adr (hS2484.rd 2).1 h2487.1 h2487.2, rowR.cell (hS2484.rd 2).1 z_Tile h2487.1 h2487.2 0 rfl, rowR.cell (hS2484.rd 2).1 z_Tile h2487.1 h2487.2 1 rfl, rowR.cell (hS2484.rd 2).1 z_Tile h2487.1 h2487.2 2 rfl, rowR.cell (hS2484.rd 2).1 z_Tile h2487.1 h2487.2 3 rfl, trivial⟩ ?_
        refine WL.new hS2484 8 [] (fun g => (.pointer (some ⟨g, 0, none⟩))) (.cells #[(.int .i64 0), (.int .i64 0), (.int .i64 0), (.int .i64 0)] 24 (0, 0)) [] (fun fb g => by kernel_rfl) trivial (fun g2488 w2489 hS2490 => ?_)
        refine ⟨trivial, ?_⟩
        refine seg 5 [] [0, 2, 3, 4, 5, 7, 8, 18, 19, 20, 24] [(0, (.int .i64 p0)), (2, (.pointer (some ⟨g_f1, 0, none⟩))), (3, (.pointer (some ⟨g_f2, 0, none⟩))), (4, (.pointer (some ⟨g_f3, 0, none⟩))), (5, (.pointer (some ⟨g_f4, 0, none⟩))), (7, (.int .i64 x2472)), (8, (.pointer (some ⟨g2488, 0, none⟩))), (18, (.slice A_f2 f2.length c_f2)), (19, (.int .i64 (f2.length : Int))), (20, (.int .i64 x2472)), (24, (.agg #[(.int .i64 ((rdD f2 x2472 z_Tile).N)), (.int .i64 ((rdD f2 x2472 z_Tile).E)), (.int .i64 ((rdD f2 x2472 z_Tile).S)), (.int .i64 ((rdD f2 x2472 z_Tile).W))]))] [] (fun fb => by kernel_rfl) rfl trivial ?_
        refine WL.store hS2490 0 rfl [(0, (.int .i64 ((rdD f2 x2472 z_Tile).N))), (1, (.int .i64 ((rdD f2 x2472 z_Tile).E))), (2, (.int .i64 ((rdD f2 x2472 z_Tile).S))), (3, (.int .i64 ((rdD f2 x2472 z_Tile).W)))] #[(.int .i64 ((rdD f2 x2472 z_Tile).N)), (.int .i64 ((rdD f2 x2472 z_Tile).E)), (.int .i64 ((rdD f2 x2472 z_Tile).S)), (.int .i64 ((rdD f2 x2472 z_Tile).W))] (fun fb => by kernel_rfl) (by kernel_rfl) rfl [1, 2, 3, 4, 5] (by decide) (by decide) (fun w2492 hS2493 => ?_)
        refine ⟨trivial, ?_⟩
        refine WL.done rfl ?_
        refine WX.next ?_
        refine WC.seq ?_
        obtain ⟨x2506, hx2507, hl2485⟩ := bind_some hl2485
        refine WC.cutN (T := Bool) (fun t => [(0, (.int .i64 p0)), (2, (.pointer (some ⟨g_f1, 0, none⟩))), (3, (.pointer (some ⟨g_f2, 0, none⟩))), (4, (.pointer (some ⟨g_f3, 0, none⟩))), (5, (.pointer (some ⟨g_f4, 0, none⟩))), (7, (.int .i64 x2472)), (18, (.slice A_f2 f2.length c_f2)), (19, (.int .i64 (f2.length : Int))), (20, (.int .i64 x2472)), (40, (.bool t))]) (fun t w1 => St (fpL [blk g_f1 (.cells #[(.slice A_f1 f1.length c_f1)] 82 (0, 0)), rowO 88 encN_Row A_f1 c_f1 (tag H_f1 f1), poolO [nestO subN_Row H_f1 f1], blk g_f3 (.cells #[(.slice A_f3 f3.length c_f3)] 36 (0, 0)), rowO 3 encInt A_f3 c_f3 f3]) w w1 [blk g_f0 (.cells #[(.int .i64 f0)] 3 (0, 0)), blk g_f2 (.cells #[(.slice A_f2 f2.length c_f2)] 22 (0, 0)), rowR enc_Tile A_f2 c_f2 f2, blk g_f4 (.cells #[(.func (.func 82) #[] #[(.pointer (some ⟨g_f0, 0, none⟩)), (.pointer (some ⟨g_f1, 0, none⟩)), (.pointer (some ⟨g_f2, 0, none⟩)), (.pointer (some ⟨g_f3, 0, none⟩)), (.pointer (some ⟨g_f4, 0, none⟩))])] 115 (0, 0))] [blk g_f1 (.cells #[(.slice A2465 l2467.length c2466)] 82 (0, 0)), rowO 88 encN_Row A2465 c2466 (tag H2468 l2467), poolO [nestO subN_Row H2468 l2467], blk g_f3 (.cells #[(.slice A2469 l2471.length c2470)] 36 (0, 0)), rowO 3 encInt A2469 c2470 l2471] ∧ x2506 = t) (fun Kx2506 => ?_) ?_
        ·
          rcases br_some hx2507 with ⟨h2508, hx2507⟩ | ⟨h2508, hx2507⟩
          ·
            refine WC.regionD ([], [0, 1, 2, 3, 4, 5, 6, 7, 8, 9, 10, 11, 12, 13, 14, 15], [[], [0], [0, 1], [0, 1, 2], [0, 1, 2], [0, 1, 2], [0, 1, 2, 5], [0, 1, 2, 4, 5, 6], [0, 1, 2, 4, 5, 6, 7], [0, 1, 2, 3, 4, 5, 6, 7, 8], [0, 1, 2, 3, 4, 5, 6, 7, 8, 9], [0, 1, 2, 3, 4, 5, 6, 7, 8, 9, 10], [0, 1, 2], [0, 1, 2, 12], [0, 1, 2, 3, 4, 5, 6, 7, 8, 9, 10, 11, 12, 13], [0, 1, 2, 3, 4, 5, 6, 7, 8, 9, 10, 11, 12, 13, 14]]) [[0, 1, 2, 3, 4, 5, 6, 7, 8, 9, 10, 11, 12, 13, 14, 15]] (by kernel_rfl) (by kernel_rfl) (NoPanic.seq (NoPanic.block (NoPanic.seq (NoPanic.seq (NoPanic.block (NoPanic.body)))))) ?_
            have hS2510 := hS2493.drew
            revert hS2510
            generalize World.drew w2492 = w2509
            intro hS2510
            refine ⟨trivial, forallC ?_ (forallN)⟩
            refine seg 3 [] [0, 2, 3, 4, 5, 7, 8, 18, 19, 20, 27] [(0, (.int .i64 p0)), (2, (.pointer (some ⟨g_f1, 0, none⟩))), (3, (.pointer (some ⟨g_f2, 0, none⟩))), (4, (.pointer (some ⟨g_f3, 0, none⟩))), (5, (.pointer (some ⟨g_f4, 0, none⟩))), (7, (.int .i64 x2472)), (8, (.pointer (some ⟨g2488, 0, none⟩))), (18, (.slice A_f2 f2.length c_f2)), (19, (.int .i64 (f2.length : Int))), (20, (.int .i64 x2472)), (27, (.bool (p0 == 0)))] [] (fun fb => by kernel_rfl) rfl trivial ?_
            refine WL.setB 27 h2508 rfl ?_
            refine seg 16 [] [0, 2, 3, 4, 5, 7, 18, 19, 20, 40] [(0, (.int .i64 p0)), (2, (.pointer (some ⟨g_f1, 0, none⟩))), (3, (.pointer (some ⟨g_f2, 0, none⟩))), (4, (.pointer (some ⟨g_f3, 0, none⟩))), (5, (.pointer (some ⟨g_f4, 0, none⟩))), (7, (.int .i64 x2472)), (18, (.slice A_f2 f2.length c_f2)), (19, (.int .i64 (f2.length : Int))), (20, (.int .i64 x2472)), (40, (.bool true))] [] (fun fb => by kernel_rfl) rfl trivial ?_
            refine WL.done rfl ?_
            injection hx2507 with hx2507
            exact WX.to Kx2506 true [0, 2, 3, 4, 5, 7, 18, 19, 20, 40] rfl ⟨(hS2510.subR [0, 1, 2, 3]).sub [1, 2, 3, 4, 5] (by decide), hx2507.symm⟩
          obtain ⟨h2517, hx2507⟩ := as_some hx2507
          obtain ⟨h2518, hx2507⟩ := as_some hx2507
          refine WC.regionD ([(3, ⟨g_f2, 0, none⟩, (.slice A_f2 f2.length c_f2)), (4, ⟨g_f3, 0, none⟩, (.slice A2469 l2471.length c2470)), (8, ((adr A2469).add ((w64 (p0 - 1)).toNat * 1)), (.int .i64 (rdD l2471 (w64 (p0 - 1)) 0))), (11, (((adr A_f2).add (((rdD l2471 (w64 (p0 - 1)) 0)).toNat * 4)).add 1), (.int .i64 ((rdD f2 (rdD l2471 (w64 (p0 - 1)) 0) z_Tile).E))), (13, ⟨g2488, 3, none⟩, (.int .i64 ((rdD f2 x2472 z_Tile).W)))], [0, 1, 2, 3, 4, 5, 6, 7, 8, 9, 10, 11, 12, 13, 14, 15], [[], [0], [0, 1], [0, 1, 2], [0, 1, 2], [0, 1, 2], [0, 1, 2, 5], [0, 1, 2, 4, 5, 6], [0, 1, 2, 4, 5, 6, 7], [0, 1, 2, 3, 4, 5, 6, 7, 8], [0, 1, 2, 3, 4, 5, 6, 7, 8, 9], [0, 1, 2, 3, 4, 5, 6, 7, 8, 9, 10], [0, 1, 2], [0, 1, 2, 12], [0, 1, 2, 3, 4, 5, 6, 7, 8, 9, 10, 11, 12, 13], [0, 1, 2, 3, 4, 5, 6, 7, 8, 9, 10, 11, 12, 13, 14]]) [[0, 1, 2, 3, 4, 5, 6, 7, 8, 9, 10, 11, 12, 13, 14, 15]] (by kernel_rfl) (by kernel_rfl) (NoPanic.seq (NoPanic.block (NoPanic.seq (NoPanic.seq (NoPanic.block (NoPanic.body)))))) ?_
          have hS2514 := hS2493.drew
          revert hS2514
          generalize World.drew w2492 = w2513
          intro hS2514
          refine ⟨⟨blk_cell (hS2514.rd 1).1 0 rfl, hS2514.cell 4 rfl 0 rfl, rowR.cell (rowO.rd (hS2514.own 5).1) 0 h2517.1 h2517.2 0 rfl, rowR.cell (hS2514.rd 2).1 z_Tile h2518.1 h2518.2 1 rfl, hS2514.cell 0 rfl 3 rfl, trivial⟩, forallC ?_ (forallN)⟩
          refine seg 3 [] [0, 2, 3, 4, 5, 7, 8, 18, 19, 20, 27] [(0, (.int .i64 p0)), (2, (.pointer (some ⟨g_f1, 0, none⟩))), (3, (.pointer (some ⟨g_f2, 0, none⟩))), (4, (.pointer (some ⟨g_f3, 0, none⟩))), (5, (.pointer (some ⟨g_f4, 0, none⟩))), (7, (.int .i64 x2472)), (8, (.pointer (some ⟨g2488, 0, none⟩))), (18, (.slice A_f2 f2.length c_f2)), (19, (.int .i64 (f2.length : Int))), (20, (.int .i64 x2472)), (27, (.bool (p0 == 0)))] [] (fun fb => by kernel_rfl) rfl trivial ?_
          refine WL.setB 27 h2508 rfl ?_
          refine segF 16 [.v (.slice A_f2 f2.length c_f2), .v (.slice A2469 l2471.length c2470), .v (.int .i64 (rdD l2471 (w64 (p0 - 1)) 0)), .v (.int .i64 ((rdD f2 (rdD l2471 (w64 (p0 - 1)) 0) z_Tile).E)), .v (.int .i64 ((rdD f2 x2472 z_Tile).W))] [0, 2, 3, 4, 5, 7, 18, 19, 20, 40] [(0, (.int .i64 p0)), (2, (.pointer (some ⟨g_f1, 0, none⟩))), (3, (.pointer (some ⟨g_f2, 0, none⟩))), (4, (.pointer (some ⟨g_f3, 0, none⟩))), (5, (.pointer (some ⟨g_f4, 0, none⟩))), (7, (.int .i64 x2472)), (18, (.slice A_f2 f2.length c_f2)), (19, (.int .i64 (f2.length : Int))), (20, (.int .i64 x2472)), (40, (.bool (((rdD f2 (rdD l2471 (w64 (p0 - 1)) 0) z_Tile).E) == ((rdD f2 x2472 z_Tile).W))))] [.idx A2469 (w64 (p0 - 1)) l2471.length, .idx A_f2 (rdD l2471 (w64 (p0 - 1)) 0) f2.length] [0, 1, 2, 3, 4] [(3, ⟨g_f2, 0, none⟩, (.slice A_f2 f2.length c_f2)), (4, ⟨g_f3, 0, none⟩, (.slice A2469 l2471.length c2470)), (8, ((adr A2469).add ((w64 (p0 - 1)).toNat * 1)), (.int .i64 (rdD l2471 (w64 (p0 - 1)) 0))), (11, (((adr A_f2).add (((rdD l2471 (w64 (p0 - 1)) 0)).toNat * 4)).add 1), (.int .i64 ((rdD f2 (rdD l2471 (w64 (p0 - 1)) 0) z_Tile).E))), (13, ⟨g2488, 3, none⟩, (.int .i64 ((rdD f2 x2472 z_Tile).W)))] (fun fb => by kernel_rfl) rfl ⟨rowR.adr (rowO.rd (hS2514.own 5).1) h2517.1 h2517.2, rowR.adr (hS2514.rd 2).1 h2518.1 h2518.2, trivial⟩ rfl ?_
          refine WL.done rfl ?_
          injection hx2507 with hx2507
          exact WX.to Kx2506 (((rdD f2 (rdD l2471 (w64 (p0 - 1)) 0) z_Tile).E) == ((rdD f2 x2472 z_Tile).W)) [0, 2, 3, 4, 5, 7, 18, 19, 20, 40] rfl ⟨(hS2514.subR [0, 1, 2, 3]).sub [1, 2, 3, 4, 5] (by decide), hx2507.symm⟩
        rintro y2522 w2519 ⟨hS2520, hq2521⟩
        subst hq2521
        refine WX.next ?_
        obtain ⟨x2545, hx2546, hl2485⟩ := bind_some hl2485
        refine WC.cutN (T := ((List Row) × (List Int)) × (Option Addr) × Nat × (Nat → HF) × (Option Addr) × Nat) (fun t => [(0, (.int .i64 p0)), (2, (.pointer (some ⟨g_f1, 0, none⟩))), (3, (.pointer (some ⟨g_f2, 0, none⟩))), (4, (.pointer (some ⟨g_f3, 0, none⟩))), (5, (.pointer (some ⟨g_f4, 0, none⟩))), (18, (.slice A_f2 f2.length c_f2)), (19, (.int .i64 (f2.length : Int))), (20, (.int .i64 x2472))]) (fun t w1 => St (fpL [blk g_f1 (.cells #[(.slice A_f1 f1.length c_f1)] 82 (0, 0)), rowO 88 encN_Row A_f1 c_f1 (tag H_f1 f1), poolO [nestO subN_Row H_f1 f1], blk g_f3 (.cells #[(.slice A_f3 f3.length c_f3)] 36 (0, 0)), rowO 3 encInt A_f3 c_f3 f3]) w w1 [blk g_f0 (.cells #[(.int .i64 f0)] 3 (0, 0)), blk g_f2 (.cells #[(.slice A_f2 f2.length c_f2)] 22 (0, 0)), rowR enc_Tile A_f2 c_f2 f2, blk g_f4 (.cells #[(.func (.func 82) #[] #[(.pointer (some ⟨g_f0, 0, none⟩)), (.pointer (some ⟨g_f1, 0, none⟩)), (.pointer (some ⟨g_f2, 0, none⟩)), (.pointer (some ⟨g_f3, 0, none⟩)), (.pointer (some ⟨g_f4, 0, none⟩))])] 115 (0, 0))] [blk g_f1 (.cells #[(.slice t.2.1 t.1.1.length t.2.2.1)] 82 (0, 0)), rowO 88 encN_Row t.2.1 t.2.2.1 (tag t.2.2.2.1 t.1.1), poolO [nestO subN_Row t.2.2.2.1 t.1.1], blk g_f3 (.cells #[(.slice t.2.2.2.2.1 t.1.2.length t.2.2.2.2.2)] 36 (0, 0)), rowO 3 encInt t.2.2.2.2.1 t.2.2.2.2.2 t.1.2] ∧ x2545 = t.1) (fun Kx2545 => ?_) ?_
        ·
          rcases br_some hx2546 with ⟨h2547, hx2546⟩ | ⟨h2547, hx2546⟩
          · refine WC.condT2 (fun fb => by kernel_rfl) h2547 ?_
            refine WC.seq ?_
            refine WC.region ?_
            refine seg 3 [.v (.slice A2469 l2471.length c2470)] [0, 2, 3, 4, 5, 18, 19, 20, 41, 42, 43] [(0, (.int .i64 p0)), (2, (.pointer (some ⟨g_f1, 0, none⟩))), (3, (.pointer (some ⟨g_f2, 0, none⟩))), (4, (.pointer (some ⟨g_f3, 0, none⟩))), (5, (.pointer (some ⟨g_f4, 0, none⟩))), (18, (.slice A_f2 f2.length c_f2)), (19, (.int .i64 (f2.length : Int))), (20, (.int .i64 x2472)), (41, (.slice A2469 l2471.length c2470)), (42, (.int .i64 p0)), (43, (.int .i64 x2472))] [.cell ⟨g_f3, 0, none⟩ (.slice A2469 l2471.length c2470)] (fun fb => by kernel_rfl) rfl ⟨hS2520.cell 3 rfl 0 rfl, trivial⟩ ?_
            obtain ⟨h2548, hx2546⟩ := as_some hx2546
            refine seg 4 [] [0, 2, 3, 4, 5, 18, 19, 20, 43, 44] [(0, (.int .i64 p0)), (2, (.pointer (some ⟨g_f1, 0, none⟩))), (3, (.pointer (some ⟨g_f2, 0, none⟩))), (4, (.pointer (some ⟨g_f3, 0, none⟩))), (5, (.pointer (some ⟨g_f4, 0, none⟩))), (18, (.slice A_f2 f2.length c_f2)), (19, (.int .i64 (f2.length : Int))), (20, (.int .i64 x2472)), (43, (.int .i64 x2472)), (44, (.pointer (some ((adr A2469).add ((p0).toNat * 1)))))] [.idx A2469 p0 l2471.length] (fun fb => by kernel_rfl) rfl ⟨rowR.adr (rowO.rd (hS2520.own 4).1) h2548.1 h2548.2, trivial⟩ ?_
            refine WL.storeRow hS2520 4 rfl (p0) (x2472) (0) [(0, (.int .i64 x2472))] (fun fb => by kernel_rfl) h2548.1 h2548.2 (by kernel_rfl) rfl [0, 1, 2, 3] (by decide) (by decide) (fun w2549 hS2550 => ?_)
            refine ⟨trivial, ?_⟩
            have hS2551 : St (fpL [blk g_f1 (.cells #[(.slice A_f1 f1.length c_f1)] 82 (0, 0)), rowO 88 encN_Row A_f1 c_f1 (tag H_f1 f1), poolO [nestO subN_Row H_f1 f1], blk g_f3 (.cells #[(.slice A_f3 f3.length c_f3)] 36 (0, 0)), rowO 3 encInt A_f3 c_f3 f3]) w w2549 [blk g_f0 (.cells #[(.int .i64 f0)] 3 (0, 0)), blk g_f2 (.cells #[(.slice A_f2 f2.length c_f2)] 22 (0, 0)), rowR enc_Tile A_f2 c_f2 f2, blk g_f4 (.cells #[(.func (.func 82) #[] #[(.pointer (some ⟨g_f0, 0, none⟩)), (.pointer (some ⟨g_f1, 0, none⟩)), (.pointer (some ⟨g_f2, 0, none⟩)), (.pointer (some ⟨g_f3, 0, none⟩)), (.pointer (some ⟨g_f4, 0, none⟩))])] 115 (0, 0))] [rowO 3 encInt A2469 c2470 (l2471.set (p0).toNat x2472), blk g_f1 (.cells #[(.slice A2465 l2467.length c2466)] 82 (0, 0)), rowO 88 encN_Row A2465 c2466 (tag H2468 l2467), poolO [nestO subN_Row H2468 l2467], blk g_f3 (.cells #[(.slice A2469 (l2471.set (p0).toNat x2472).length c2470)] 36 (0, 0))] := by simpa only [List.length_set] using (show St (fpL [blk g_f1 (.cells #[(.slice A_f1 f1.length c_f1)] 82 (0, 0)), rowO 88 encN_Row A_f1 c_f1 (tag H_f1 f1), poolO [nestO subN_Row H_f1 f1], blk g_f3 (.cells #[(.slice A_f3 f3.length c_f3)] 36 (0, 0)), rowO 3 encInt A_f3 c_f3 f3]) w w2549 [blk g_f0 (.cells #[(.int .i64 f0)] 3 (0, 0)), blk g_f2 (.cells #[(.slice A_f2 f2.length c_f2)] 22 (0, 0)), rowR enc_Tile A_f2 c_f2 f2, blk g_f4 (.cells #[(.func (.func 82) #[] #[(.pointer (some ⟨g_f0, 0, none⟩)), (.pointer (some ⟨g_f1, 0, none⟩)), (.pointer (some ⟨g_f2, 0, none⟩)), (.pointer (some ⟨g_f3, 0, none⟩)), (.pointer (some ⟨g_f4, 0, none⟩))])] 115 (0, 0))] [rowO 3 encInt A2469 c2470 (l2471.set (p0).toNat x2472), blk g_f1 (.cells #[(.slice A2465 l2467.length c2466)] 82 (0, 0)), rowO 88 encN_Row A2465 c2466 (tag H2468 l2467), poolO [nestO subN_Row H2468 l2467], blk g_f3 (.cells #[(.slice A2469 l2471.length c2470)] 36 (0, 0))] from hS2550)
            refine WL.done rfl ?_
            refine WX.next ?_
            refine WC.region ?_
            refine seg 3 [.v (.func (.func 82) #[] #[(.pointer (some ⟨g_f0, 0, none⟩)), (.pointer (some ⟨g_f1, 0, none⟩)), (.pointer (some ⟨g_f2, 0, none⟩)), (.pointer (some ⟨g_f3, 0, none⟩)), (.pointer (some ⟨g_f4, 0, none⟩))])] [0, 2, 3, 4, 5, 18, 19, 20, 45, 47] [(0, (.int .i64 p0)), (2, (.pointer (some ⟨g_f1, 0, none⟩))), (3, (.pointer (some ⟨g_f2, 0, none⟩))), (4, (.pointer (some ⟨g_f3, 0, none⟩))), (5, (.pointer (some ⟨g_f4, 0, none⟩))), (18, (.slice A_f2 f2.length c_f2)), (19, (.int .i64 (f2.length : Int))), (20, (.int .i64 x2472)), (45, (.func (.func 82) #[] #[(.pointer (some ⟨g_f0, 0, none⟩)), (.pointer (some ⟨g_f1, 0, none⟩)), (.pointer (some ⟨g_f2, 0, none⟩)), (.pointer (some ⟨g_f3, 0, none⟩)), (.pointer (some ⟨g_f4, 0, none⟩))])), (47, (.int .i64 (w64 (p0 + 1))))] [.cell ⟨g_f4, 0, none⟩ (.func (.func 82) #[] #[(.pointer (some ⟨g_f0, 0, none⟩)), (.pointer (some ⟨g_f1, 0, none⟩)), (.pointer (some ⟨g_f2, 0, none⟩)), (.pointer (some ⟨g_f3, 0, none⟩)), (.pointer (some ⟨g_f4, 0, none⟩))])] (fun fb => by kernel_rfl) rfl ⟨blk_cell (hS2551.rd 3).1 0 rfl, trivial⟩ ?_
            obtain ⟨t2552, ht2553, hx2546⟩ := bind_some hx2546
            refine WL.call (some 48) 82 #[(.int .i64 (w64 (p0 + 1))), (.pointer (some ⟨g_f0, 0, none⟩)), (.pointer (some ⟨g_f1, 0, none⟩)), (.pointer (some ⟨g_f2, 0, none⟩)), (.pointer (some ⟨g_f3, 0, none⟩)), (.pointer (some ⟨g_f4, 0, none⟩))] (fun fb => by kernel_rfl) (ih_ (w64 (p0 + 1)) f0 l2467 f2 (l2471.set (p0).toNat x2472) g_f0 g_f1 A2465 c2466 H2468 g_f2 A_f2 c_f2 g_f3 A2469 c2470 g_f4 t2552 _ (hS2551.rdT [1, 2, 3, 4, 0] 0) (hS2551.rdT [1, 2, 3, 4, 0] 1) (hS2551.rdT [1, 2, 3, 4, 0] 2) (hS2551.rdT [1, 2, 3, 4, 0] 3) (hS2551.io [1, 2, 3, 4, 0] (by decide)) ht2553) (fun v w2554 hR2555 => ?_)
            obtain ⟨A2557, c2558, H2559, A2560, c2561, rfl, hk_⟩ := hR2555
            have hS2556 : St (fpL [blk g_f1 (.cells #[(.slice A_f1 f1.length c_f1)] 82 (0, 0)), rowO 88 encN_Row A_f1 c_f1 (tag H_f1 f1), poolO [nestO subN_Row H_f1 f1], blk g_f3 (.cells #[(.slice A_f3 f3.length c_f3)] 36 (0, 0)), rowO 3 encInt A_f3 c_f3 f3]) w w2554 [blk g_f0 (.cells #[(.int .i64 f0)] 3 (0, 0)), blk g_f2 (.cells #[(.slice A_f2 f2.length c_f2)] 22 (0, 0)), rowR enc_Tile A_f2 c_f2 f2, blk g_f4 (.cells #[(.func (.func 82) #[] #[(.pointer (some ⟨g_f0, 0, none⟩)), (.pointer (some ⟨g_f1, 0, none⟩)), (.pointer (some ⟨g_f2, 0, none⟩)), (.pointer (some ⟨g_f3, 0, none⟩)), (.pointer (some ⟨g_f4, 0, none⟩))])] 115 (0, 0))] [blk g_f1 (.cells #[(.slice A2557 t2552.1.length c2558)] 82 (0, 0)), rowO 88 encN_Row A2557 c2558 (tag H2559 t2552.1), poolO [nestO subN_Row H2559 t2552.1], blk g_f3 (.cells #[(.slice A2560 t2552.2.length c2561)] 36 (0, 0)), rowO 3 encInt A2560 c2561 t2552.2] := hS2551.call hk_ [1, 2, 3, 4, 0] [] (fun g hg => fpL_sel g hg) (by decide) (by decide)
            refine ⟨trivial, ?_⟩
            refine WL.done rfl ?_
            injection hx2546 with hx2546
            exact WX.to Kx2545 ((t2552.1, t2552.2), A2557, c2558, H2559, A2560, c2561) [0, 2, 3, 4, 5, 18, 19, 20] rfl ⟨(hS2556.subR [0, 1, 2, 3]).sub [0, 1, 2, 3, 4] (by decide), hx2546.symm⟩
          refine WC.condF2 (fun fb => by kernel_rfl) h2547 ?_
          refine WC.skip ?_
          injection hx2546 with hx2546
          exact WX.to Kx2545 ((l2467, l2471), A2465, c2466, H2468, A2469, c2470) [0, 2, 3, 4, 5, 18, 19, 20] rfl ⟨(hS2520.subR [0, 1, 2, 3]).sub [0, 1, 2, 3, 4] (by decide), hx2546.symm⟩
        rintro ⟨y2565, A2538, c2539, H2541, A2542, c2543⟩ w2562 ⟨hS2563, hq2564⟩
        subst hq2564
        refine WX.blockN (WX.next ?_)
        refine WC.region ?_
        refine seg 2 [] [0, 2, 3, 4, 5, 18, 19, 20] [(0, (.int .i64 p0)), (2, (.pointer (some ⟨g_f1, 0, none⟩))), (3, (.pointer (some ⟨g_f2, 0, none⟩))), (4, (.pointer (some ⟨g_f3, 0, none⟩))), (5, (.pointer (some ⟨g_f4, 0, none⟩))), (18, (.slice A_f2 f2.length c_f2)), (19, (.int .i64 (f2.length : Int))), (20, (.int .i64 (w64 (x2472 + 1))))] [] (fun fb => by kernel_rfl) rfl trivial ?_
        refine WL.done rfl ?_
        exact WX.again k2482 (Nat.lt_succ_self _) ((x2545.1, x2545.2, w64 (x2472 + 1)), A2538, c2539, H2541, A2542, c2543) [0, 2, 3, 4, 5, 18, 19, 20] rfl ⟨(hS2563.subR [0, 1, 2, 3]).sub [0, 1, 2, 3, 4] (by decide), hl2485⟩
      refine WC.condF2 (fun fb => by kernel_rfl) h2486 ?_
      refine WC.exit ?_
      injection hl2485 with hl2485
      exact WX.thenX (WX.thenX (WX.blockHere (WX.to Kx2480 ((l2467, l2471), A2465, c2466, H2468, A2469, c2470) [2, 4] rfl ⟨(hS2484.subR [0, 1, 2, 3]).sub [0, 1, 2, 3, 4] (by decide), hl2485.symm⟩)))
  rintro ⟨y2569, A2473, c2474, H2476, A2477, c2478⟩ w2566 ⟨hS2567, hq2568⟩
  subst hq2568
  injection hf with hf
  subst hf
  exact WX.end_ [] (.tuple #[]) [] (fun fb => by kernel_rfl) trivial ⟨_, rfl, A2473, c2474, H2476, A2477, c2478, rfl, (hS2567.sub [0, 1, 2, 3, 4] (by decide)).noR⟩
end Gp
