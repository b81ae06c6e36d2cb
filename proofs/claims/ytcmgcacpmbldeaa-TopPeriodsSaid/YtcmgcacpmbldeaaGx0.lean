/- Walks: each function of the program computes its plain function. -/
import Derived.Test.YtcmgcacpmbldeaaGp
set_option linter.unusedVariables false
set_option linter.unusedSimpArgs false
namespace Gp
open Go Gw Go.Proofs
theorem tile_Form_calls (p0 : Pattern) (A_p0_Cells : Option Addr) (c_p0_Cells : Nat) (r : Bool) (w : World) (hR0 : RO NoS w (rowR encInt A_p0_Cells c_p0_Cells p0.Cells)) (hf : tile_Form p0 = some r) :
    CallsR Try.prog 14 #[(.agg #[(.int .i64 p0.Width), (.int .i64 p0.Height), (.slice A_p0_Cells p0.Cells.length c_p0_Cells)])] w (fun v w' => v = (.bool r) ∧ Keeps NoS w w') := by
  have hS : St NoS w w [rowR encInt A_p0_Cells c_p0_Cells p0.Cells] [] := St.init (ro_cons hR0 (ro_nil _ _))
  refine enter 40 Try.func14 rfl Try.ntmps14 rfl ?_
  unfold tile_Form at hf
  refine WC.seq ?_
  refine WC.region ?_
  refine WL.new hS 1 [] (fun g => (.pointer (some ⟨g, 0, none⟩))) (.cells #[(.int .i64 p0.Width), (.int .i64 p0.Height), (.slice A_p0_Cells p0.Cells.length c_p0_Cells)] 25 (0, 0)) [] (fun fb g => by kernel_rfl) trivial (fun g31 w32 hS33 => ?_)
  refine ⟨trivial, ?_⟩
  refine seg 2 [] [1] [(1, (.pointer (some ⟨g31, 0, none⟩)))] [] (fun fb => by kernel_rfl) rfl trivial ?_
  refine WL.done rfl ?_
  refine WX.next ?_
  refine WC.seq ?_
  refine WC.region ?_
  refine seg 4 [.v (.int .i64 p0.Width)] [1, 6] [(1, (.pointer (some ⟨g31, 0, none⟩))), (6, (.bool (decide (p0.Width ≥ 1))))] [.cell ⟨g31, 0, none⟩ (.int .i64 p0.Width)] (fun fb => by kernel_rfl) rfl ⟨hS33.cell 0 rfl 0 rfl, trivial⟩ ?_
  refine WL.cutV (T := Bool) 8 (fun t => [(10, (.bool t)), (1, (.pointer (some ⟨g31, 0, none⟩)))]) (fun t => t = ((decide (p0.Width ≥ 1)) && (decide (p0.Height ≥ 1)))) (fun K => ?_) ?_
  ·
    rcases Bool.eq_false_or_eq_true (decide (p0.Width ≥ 1)) with h35 | h35
    ·
      refine WL.setB 6 h35 rfl ?_
      refine seg 8 [.v (.int .i64 p0.Height)] [1, 10] [(1, (.pointer (some ⟨g31, 0, none⟩))), (10, (.bool (decide (p0.Height ≥ 1))))] [.cell ⟨g31, 1, none⟩ (.int .i64 p0.Height)] (fun fb => by kernel_rfl) rfl ⟨hS33.cell 0 rfl 1 rfl, trivial⟩ ?_
      exact WL.toV K (decide (p0.Height ≥ 1)) [10, 1] rfl (by rw [h35]; rfl)
    refine WL.setB 6 h35 rfl ?_
    refine seg 8 [] [1, 10] [(1, (.pointer (some ⟨g31, 0, none⟩))), (10, (.bool false))] [] (fun fb => by kernel_rfl) rfl trivial ?_
    exact WL.toV K false [10, 1] rfl (by rw [h35]; rfl)
  rintro b36 rfl
  refine seg 9 [] [1, 11] [(1, (.pointer (some ⟨g31, 0, none⟩))), (11, (.bool ((decide (p0.Width ≥ 1)) && (decide (p0.Height ≥ 1)))))] [] (fun fb => by kernel_rfl) rfl trivial ?_
  refine WL.cutV (T := Bool) 13 (fun t => [(15, (.bool t)), (1, (.pointer (some ⟨g31, 0, none⟩)))]) (fun t => t = (((decide (p0.Width ≥ 1)) && (decide (p0.Height ≥ 1))) && (decide (p0.Width ≤ 40000)))) (fun K => ?_) ?_
  ·
    rcases Bool.eq_false_or_eq_true ((decide (p0.Width ≥ 1)) && (decide (p0.Height ≥ 1))) with h37 | h37
    ·
      refine WL.setB 11 h37 rfl ?_
      refine seg 13 [.v (.int .i64 p0.Width)] [1, 15] [(1, (.pointer (some ⟨g31, 0, none⟩))), (15, (.bool (decide (p0.Width ≤ 40000))))] [.cell ⟨g31, 0, none⟩ (.int .i64 p0.Width)] (fun fb => by kernel_rfl) rfl ⟨hS33.cell 0 rfl 0 rfl, trivial⟩ ?_
      exact WL.toV K (decide (p0.Width ≤ 40000)) [15, 1] rfl (by rw [h37]; rfl)
    refine WL.setB 11 h37 rfl ?_
    refine seg 13 [] [1, 15] [(1, (.pointer (some ⟨g31, 0, none⟩))), (15, (.bool false))] [] (fun fb => by kernel_rfl) rfl trivial ?_
    exact WL.toV K false [15, 1] rfl (by rw [h37]; rfl)
  rintro b38 rfl
  refine seg 14 [] [1, 16] [(1, (.pointer (some ⟨g31, 0, none⟩))), (16, (.bool (((decide (p0.Width ≥ 1)) && (decide (p0.Height ≥ 1))) && (decide (p0.Width ≤ 40000)))))] [] (fun fb => by kernel_rfl) rfl trivial ?_
  refine WL.cutV (T := Bool) 18 (fun t => [(20, (.bool t)), (1, (.pointer (some ⟨g31, 0, none⟩)))]) (fun t => t = ((((decide (p0.Width ≥ 1)) && (decide (p0.Height ≥ 1))) && (decide (p0.Width ≤ 40000))) && (decide (p0.Height ≤ 40000)))) (fun K => ?_) ?_
  ·
    rcases Bool.eq_false_or_eq_true (((decide (p0.Width ≥ 1)) && (decide (p0.Height ≥ 1))) && (decide (p0.Width ≤ 40000))) with h39 | h39
    ·
      refine WL.setB 16 h39 rfl ?_
      refine seg 18 [.v (.int .i64 p0.Height)] [1, 20] [(1, (.pointer (some ⟨g31, 0, none⟩))), (20, (.bool (decide (p0.Height ≤ 40000))))] [.cell ⟨g31, 1, none⟩ (.int .i64 p0.Height)] (fun fb => by kernel_rfl) rfl ⟨hS33.cell 0 rfl 1 rfl, trivial⟩ ?_
      exact WL.toV K (decide (p0.Height ≤ 40000)) [20, 1] rfl (by rw [h39]; rfl)
    refine WL.setB 16 h39 rfl ?_
    refine seg 18 [] [1, 20] [(1, (.pointer (some ⟨g31, 0, none⟩))), (20, (.bool false))] [] (fun fb => by kernel_rfl) rfl trivial ?_
    exact WL.toV K false [20, 1] rfl (by rw [h39]; rfl)
  rintro b40 rfl
  refine seg 19 [] [1, 21] [(1, (.pointer (some ⟨g31, 0, none⟩))), (21, (.bool ((((decide (p0.Width ≥ 1)) && (decide (p0.Height ≥ 1))) && (decide (p0.Width ≤ 40000))) && (decide (p0.Height ≤ 40000)))))] [] (fun fb => by kernel_rfl) rfl trivial ?_
  refine WL.cutV (T := Bool) 26 (fun t => [(28, (.bool t)), (1, (.pointer (some ⟨g31, 0, none⟩)))]) (fun t => t = (((((decide (p0.Width ≥ 1)) && (decide (p0.Height ≥ 1))) && (decide (p0.Width ≤ 40000))) && (decide (p0.Height ≤ 40000))) && (decide (w64 (p0.Width * p0.Height) ≤ 40000)))) (fun K => ?_) ?_
  ·
    rcases Bool.eq_false_or_eq_true ((((decide (p0.Width ≥ 1)) && (decide (p0.Height ≥ 1))) && (decide (p0.Width ≤ 40000))) && (decide (p0.Height ≤ 40000))) with h41 | h41
    ·
      refine WL.setB 21 h41 rfl ?_
      refine seg 26 [.v (.int .i64 p0.Width), .v (.int .i64 p0.Height)] [1, 28] [(1, (.pointer (some ⟨g31, 0, none⟩))), (28, (.bool (decide (w64 (p0.Width * p0.Height) ≤ 40000))))] [.cell ⟨g31, 0, none⟩ (.int .i64 p0.Width), .cell ⟨g31, 1, none⟩ (.int .i64 p0.Height)] (fun fb => by kernel_rfl) rfl ⟨hS33.cell 0 rfl 0 rfl, hS33.cell 0 rfl 1 rfl, trivial⟩ ?_
      exact WL.toV K (decide (w64 (p0.Width * p0.Height) ≤ 40000)) [28, 1] rfl (by rw [h41]; rfl)
    refine WL.setB 21 h41 rfl ?_
    refine seg 26 [] [1, 28] [(1, (.pointer (some ⟨g31, 0, none⟩))), (28, (.bool false))] [] (fun fb => by kernel_rfl) rfl trivial ?_
    exact WL.toV K false [28, 1] rfl (by rw [h41]; rfl)
  rintro b42 rfl
  refine seg 27 [] [1, 29] [(1, (.pointer (some ⟨g31, 0, none⟩))), (29, (.bool (((((decide (p0.Width ≥ 1)) && (decide (p0.Height ≥ 1))) && (decide (p0.Width ≤ 40000))) && (decide (p0.Height ≤ 40000))) && (decide (w64 (p0.Width * p0.Height) ≤ 40000)))))] [] (fun fb => by kernel_rfl) rfl trivial ?_
  refine WL.cutV (T := Bool) 37 (fun t => [(39, (.bool t))]) (fun t => t = ((((((decide (p0.Width ≥ 1)) && (decide (p0.Height ≥ 1))) && (decide (p0.Width ≤ 40000))) && (decide (p0.Height ≤ 40000))) && (decide (w64 (p0.Width * p0.Height) ≤ 40000))) && ((p0.Cells.length : Int) == (w64 (p0.Width * p0.Height))))) (fun K => ?_) ?_
  ·
    rcases Bool.eq_false_or_eq_true (((((decide (p0.Width ≥ 1)) && (decide (p0.Height ≥ 1))) && (decide (p0.Width ≤ 40000))) && (decide (p0.Height ≤ 40000))) && (decide (w64 (p0.Width * p0.Height) ≤ 40000))) with h43 | h43
    ·
      refine WL.setB 29 h43 rfl ?_
      refine seg 37 [.v (.slice A_p0_Cells p0.Cells.length c_p0_Cells), .v (.int .i64 p0.Width), .v (.int .i64 p0.Height)] [39] [(39, (.bool ((p0.Cells.length : Int) == (w64 (p0.Width * p0.Height)))))] [.cell ⟨g31, 2, none⟩ (.slice A_p0_Cells p0.Cells.length c_p0_Cells), .cell ⟨g31, 0, none⟩ (.int .i64 p0.Width), .cell ⟨g31, 1, none⟩ (.int .i64 p0.Height)] (fun fb => by kernel_rfl) rfl ⟨hS33.cell 0 rfl 2 rfl, hS33.cell 0 rfl 0 rfl, hS33.cell 0 rfl 1 rfl, trivial⟩ ?_
      exact WL.toV K ((p0.Cells.length : Int) == (w64 (p0.Width * p0.Height))) [39] rfl (by rw [h43]; rfl)
    refine WL.setB 29 h43 rfl ?_
    refine seg 37 [] [39] [(39, (.bool false))] [] (fun fb => by kernel_rfl) rfl trivial ?_
    exact WL.toV K false [39] rfl (by rw [h43]; rfl)
  rintro b44 rfl
  refine seg 38 [] [2] [(2, (.bool ((((((decide (p0.Width ≥ 1)) && (decide (p0.Height ≥ 1))) && (decide (p0.Width ≤ 40000))) && (decide (p0.Height ≤ 40000))) && (decide (w64 (p0.Width * p0.Height) ≤ 40000))) && ((p0.Cells.length : Int) == (w64 (p0.Width * p0.Height))))))] [] (fun fb => by kernel_rfl) rfl trivial ?_
  refine WL.done rfl ?_
  refine WX.next ?_
  refine WC.ret ?_
  injection hf with hf
  subst hf
  exact WX.ret_ [] (.bool ((((((decide (p0.Width ≥ 1)) && (decide (p0.Height ≥ 1))) && (decide (p0.Width ≤ 40000))) && (decide (p0.Height ≤ 40000))) && (decide (w64 (p0.Width * p0.Height) ≤ 40000))) && ((p0.Cells.length : Int) == (w64 (p0.Width * p0.Height))))) [] (fun fb => by kernel_rfl) trivial ⟨_, rfl, rfl, hS33.keep⟩
theorem tile_Repeat_calls (k : Nat) (p0 : Pattern) (p1 : Int) (p2 : Int) (A_p0_Cells : Option Addr) (c_p0_Cells : Nat) (r : Pattern × Int) (w : World) (hR0 : RO NoS w (rowR encInt A_p0_Cells c_p0_Cells p0.Cells)) (hf : tile_Repeat k p0 p1 p2 = some r) :
    CallsR Try.prog 9 #[(.agg #[(.int .i64 p0.Width), (.int .i64 p0.Height), (.slice A_p0_Cells p0.Cells.length c_p0_Cells)]), (.int .i64 p1), (.int .i64 p2)] w (fun v w' => ∃ (A1_ : Option Addr), ∃ (c1_ : Nat), v = (.tuple #[(.agg #[(.int .i64 r.1.Width), (.int .i64 r.1.Height), (.slice A1_ r.1.Cells.length c1_)]), (.int .i64 r.2)]) ∧ St NoS w w' [] [rowO 3 encInt A1_ c1_ r.1.Cells]) := by
  have hS : St NoS w w [rowR encInt A_p0_Cells c_p0_Cells p0.Cells] [] := St.init (ro_cons hR0 (ro_nil _ _))
  refine enter 70 Try.func9 rfl Try.ntmps9 rfl ?_
  unfold tile_Repeat at hf
  refine WC.seq ?_
  refine WC.region ?_
  refine WL.new hS 3 [] (fun g => (.pointer (some ⟨g, 0, none⟩))) (.cells #[(.int .i64 p0.Width), (.int .i64 p0.Height), (.slice A_p0_Cells p0.Cells.length c_p0_Cells)] 25 (0, 0)) [] (fun fb g => by kernel_rfl) trivial (fun g23 w24 hS25 => ?_)
  refine ⟨trivial, ?_⟩
  refine WL.new hS25 6 [] (fun g => (.pointer (some ⟨g, 0, none⟩))) (.cells #[(.int .i64 0), (.int .i64 0), (.slice none 0 0)] 25 (0, 0)) [] (fun fb g => by kernel_rfl) trivial (fun g27 w28 hS29 => ?_)
  refine ⟨trivial, ?_⟩
  refine seg 3 [] [1, 2, 3, 6] [(1, (.int .i64 p1)), (2, (.int .i64 p2)), (3, (.pointer (some ⟨g23, 0, none⟩))), (6, (.pointer (some ⟨g27, 0, none⟩)))] [] (fun fb => by kernel_rfl) rfl trivial ?_
  refine WL.done rfl ?_
  refine WX.next ?_
  refine WC.seq ?_
  refine WC.seq ?_
  refine WC.region ?_
  refine seg 1 [.v (.int .i64 p0.Width), .v (.int .i64 p0.Height), .v (.slice A_p0_Cells p0.Cells.length c_p0_Cells)] [1, 2, 3, 6, 11] [(1, (.int .i64 p1)), (2, (.int .i64 p2)), (3, (.pointer (some ⟨g23, 0, none⟩))), (6, (.pointer (some ⟨g27, 0, none⟩))), (11, (.agg #[(.int .i64 p0.Width), (.int .i64 p0.Height), (.slice A_p0_Cells p0.Cells.length c_p0_Cells)]))] [.cell ⟨g23, 0, none⟩ (.int .i64 p0.Width), .cell ⟨g23, 1, none⟩ (.int .i64 p0.Height), .cell ⟨g23, 2, none⟩ (.slice A_p0_Cells p0.Cells.length c_p0_Cells)] (fun fb => by kernel_rfl) rfl ⟨hS29.cell 1 rfl 0 rfl, hS29.cell 1 rfl 1 rfl, hS29.cell 1 rfl 2 rfl, trivial⟩ ?_
  obtain ⟨t45, ht46, hf⟩ := bind_some hf
  refine WL.call (some 12) 14 #[(.agg #[(.int .i64 p0.Width), (.int .i64 p0.Height), (.slice A_p0_Cells p0.Cells.length c_p0_Cells)])] (fun fb => by kernel_rfl) (tile_Form_calls p0 A_p0_Cells c_p0_Cells t45 _ (hS29.rd 0) ht46) (fun v w47 hR48 => ?_)
  obtain ⟨rfl, hk_⟩ := hR48
  have hS49 := hS29.keepN hk_
  refine ⟨trivial, ?_⟩
  refine seg 3 [] [1, 2, 3, 6, 13] [(1, (.int .i64 p1)), (2, (.int .i64 p2)), (3, (.pointer (some ⟨g23, 0, none⟩))), (6, (.pointer (some ⟨g27, 0, none⟩))), (13, (.bool (!t45)))] [] (fun fb => by kernel_rfl) rfl trivial ?_
  refine WL.done rfl ?_
  refine WX.next ?_
  rcases br_some hf with ⟨h50, hf⟩ | ⟨h50, hf⟩
  · refine WC.condT2 (fun fb => by kernel_rfl) h50 ?_
    refine WC.seq ?_
    refine WC.region ?_
    refine seg 1 [] [6, 14] [(6, (.pointer (some ⟨g27, 0, none⟩))), (14, (.agg #[(.int .i64 0), (.int .i64 0), (.slice none 0 0)]))] [] (fun fb => by kernel_rfl) rfl trivial ?_
    refine WL.store hS49 0 rfl [(0, (.int .i64 0)), (1, (.int .i64 0)), (2, (.slice none 0 0))] #[(.int .i64 0), (.int .i64 0), (.slice none 0 0)] (fun fb => by kernel_rfl) (by kernel_rfl) rfl [1] (by decide) (by decide) (fun w51 hS52 => ?_)
    refine ⟨trivial, ?_⟩
    refine seg 3 [] [6, 7] [(6, (.pointer (some ⟨g27, 0, none⟩))), (7, (.int .i64 1))] [] (fun fb => by kernel_rfl) rfl trivial ?_
    refine WL.done rfl ?_
    refine WX.next ?_
    refine WC.ret ?_
    have hS53 := hS52.nilrow 3 encInt
    injection hf with hf
    subst hf
    exact WX.thenR (WX.ret_ [.v (.int .i64 0), .v (.int .i64 0), .v (.slice none 0 0)] (.tuple #[(.agg #[(.int .i64 0), (.int .i64 0), (.slice none ([] : List Int).length 0)]), (.int .i64 1)]) [.cell ⟨g27, 0, none⟩ (.int .i64 0), .cell ⟨g27, 1, none⟩ (.int .i64 0), .cell ⟨g27, 2, none⟩ (.slice none 0 0)] (fun fb => by kernel_rfl) ⟨hS52.cell 0 rfl 0 rfl, hS52.cell 0 rfl 1 rfl, hS52.cell 0 rfl 2 rfl, trivial⟩ ⟨_, rfl, none, 0, rfl, (hS53.sub [0] (by decide)).noR⟩)
  refine WC.condF2 (fun fb => by kernel_rfl) h50 ?_
  refine WC.skip ?_
  refine WX.next ?_
  refine WC.seq ?_
  refine WC.seq ?_
  refine WC.region ?_
  refine seg 3 [] [1, 2, 3, 6, 17] [(1, (.int .i64 p1)), (2, (.int .i64 p2)), (3, (.pointer (some ⟨g23, 0, none⟩))), (6, (.pointer (some ⟨g27, 0, none⟩))), (17, (.bool (decide (p1 < 1))))] [] (fun fb => by kernel_rfl) rfl trivial ?_
  refine WL.cutV (T := Bool) 6 (fun t => [(20, (.bool t)), (1, (.int .i64 p1)), (2, (.int .i64 p2)), (3, (.pointer (some ⟨g23, 0, none⟩))), (6, (.pointer (some ⟨g27, 0, none⟩)))]) (fun t => t = ((decide (p1 < 1)) || (decide (p2 < 1)))) (fun K => ?_) ?_
  ·
    rcases Bool.eq_false_or_eq_true (decide (p1 < 1)) with h54 | h54
    ·
      refine WL.setB 17 h54 rfl ?_
      refine seg 6 [] [1, 2, 3, 6, 20] [(1, (.int .i64 p1)), (2, (.int .i64 p2)), (3, (.pointer (some ⟨g23, 0, none⟩))), (6, (.pointer (some ⟨g27, 0, none⟩))), (20, (.bool true))] [] (fun fb => by kernel_rfl) rfl trivial ?_
      exact WL.toV K true [20, 1, 2, 3, 6] rfl (by rw [h54]; rfl)
    refine WL.setB 17 h54 rfl ?_
    refine seg 6 [] [1, 2, 3, 6, 20] [(1, (.int .i64 p1)), (2, (.int .i64 p2)), (3, (.pointer (some ⟨g23, 0, none⟩))), (6, (.pointer (some ⟨g27, 0, none⟩))), (20, (.bool (decide (p2 < 1))))] [] (fun fb => by kernel_rfl) rfl trivial ?_
    exact WL.toV K (decide (p2 < 1)) [20, 1, 2, 3, 6] rfl (by rw [h54]; rfl)
  rintro b55 rfl
  refine WL.done rfl ?_
  refine WX.next ?_
  rcases br_some hf with ⟨h56, hf⟩ | ⟨h56, hf⟩
  · refine WC.condT2 (fun fb => by kernel_rfl) h56 ?_
    refine WC.seq ?_
    refine WC.region ?_
    refine seg 1 [] [6, 21] [(6, (.pointer (some ⟨g27, 0, none⟩))), (21, (.agg #[(.int .i64 0), (.int .i64 0), (.slice none 0 0)]))] [] (fun fb => by kernel_rfl) rfl trivial ?_
    refine WL.store hS49 0 rfl [(0, (.int .i64 0)), (1, (.int .i64 0)), (2, (.slice none 0 0))] #[(.int .i64 0), (.int .i64 0), (.slice none 0 0)] (fun fb => by kernel_rfl) (by kernel_rfl) rfl [1] (by decide) (by decide) (fun w57 hS58 => ?_)
    refine ⟨trivial, ?_⟩
    refine seg 3 [] [6, 7] [(6, (.pointer (some ⟨g27, 0, none⟩))), (7, (.int .i64 2))] [] (fun fb => by kernel_rfl) rfl trivial ?_
    refine WL.done rfl ?_
    refine WX.next ?_
    refine WC.ret ?_
    have hS59 := hS58.nilrow 3 encInt
    injection hf with hf
    subst hf
    exact WX.thenR (WX.ret_ [.v (.int .i64 0), .v (.int .i64 0), .v (.slice none 0 0)] (.tuple #[(.agg #[(.int .i64 0), (.int .i64 0), (.slice none ([] : List Int).length 0)]), (.int .i64 2)]) [.cell ⟨g27, 0, none⟩ (.int .i64 0), .cell ⟨g27, 1, none⟩ (.int .i64 0), .cell ⟨g27, 2, none⟩ (.slice none 0 0)] (fun fb => by kernel_rfl) ⟨hS58.cell 0 rfl 0 rfl, hS58.cell 0 rfl 1 rfl, hS58.cell 0 rfl 2 rfl, trivial⟩ ⟨_, rfl, none, 0, rfl, (hS59.sub [0] (by decide)).noR⟩)
  refine WC.condF2 (fun fb => by kernel_rfl) h56 ?_
  refine WC.skip ?_
  refine WX.next ?_
  refine WC.seq ?_
  refine WC.seq ?_
  refine WC.region ?_
  refine seg 3 [] [1, 2, 3, 6, 24] [(1, (.int .i64 p1)), (2, (.int .i64 p2)), (3, (.pointer (some ⟨g23, 0, none⟩))), (6, (.pointer (some ⟨g27, 0, none⟩))), (24, (.bool (decide (p1 > 40000))))] [] (fun fb => by kernel_rfl) rfl trivial ?_
  refine WL.cutV (T := Bool) 6 (fun t => [(27, (.bool t)), (1, (.int .i64 p1)), (2, (.int .i64 p2)), (3, (.pointer (some ⟨g23, 0, none⟩))), (6, (.pointer (some ⟨g27, 0, none⟩)))]) (fun t => t = ((decide (p1 > 40000)) || (decide (p2 > 40000)))) (fun K => ?_) ?_
  ·
    rcases Bool.eq_false_or_eq_true (decide (p1 > 40000)) with h60 | h60
    ·
      refine WL.setB 24 h60 rfl ?_
      refine seg 6 [] [1, 2, 3, 6, 27] [(1, (.int .i64 p1)), (2, (.int .i64 p2)), (3, (.pointer (some ⟨g23, 0, none⟩))), (6, (.pointer (some ⟨g27, 0, none⟩))), (27, (.bool true))] [] (fun fb => by kernel_rfl) rfl trivial ?_
      exact WL.toV K true [27, 1, 2, 3, 6] rfl (by rw [h60]; rfl)
    refine WL.setB 24 h60 rfl ?_
    refine seg 6 [] [1, 2, 3, 6, 27] [(1, (.int .i64 p1)), (2, (.int .i64 p2)), (3, (.pointer (some ⟨g23, 0, none⟩))), (6, (.pointer (some ⟨g27, 0, none⟩))), (27, (.bool (decide (p2 > 40000))))] [] (fun fb => by kernel_rfl) rfl trivial ?_
    exact WL.toV K (decide (p2 > 40000)) [27, 1, 2, 3, 6] rfl (by rw [h60]; rfl)
  rintro b61 rfl
  refine seg 7 [] [1, 2, 3, 6, 28] [(1, (.int .i64 p1)), (2, (.int .i64 p2)), (3, (.pointer (some ⟨g23, 0, none⟩))), (6, (.pointer (some ⟨g27, 0, none⟩))), (28, (.bool ((decide (p1 > 40000)) || (decide (p2 > 40000)))))] [] (fun fb => by kernel_rfl) rfl trivial ?_
  refine WL.cutV (T := Bool) 12 (fun t => [(33, (.bool t)), (1, (.int .i64 p1)), (2, (.int .i64 p2)), (3, (.pointer (some ⟨g23, 0, none⟩))), (6, (.pointer (some ⟨g27, 0, none⟩)))]) (fun t => t = (((decide (p1 > 40000)) || (decide (p2 > 40000))) || (decide (w64 (p1 * p2) > 40000)))) (fun K => ?_) ?_
  ·
    rcases Bool.eq_false_or_eq_true ((decide (p1 > 40000)) || (decide (p2 > 40000))) with h62 | h62
    ·
      refine WL.setB 28 h62 rfl ?_
      refine seg 12 [] [1, 2, 3, 6, 33] [(1, (.int .i64 p1)), (2, (.int .i64 p2)), (3, (.pointer (some ⟨g23, 0, none⟩))), (6, (.pointer (some ⟨g27, 0, none⟩))), (33, (.bool true))] [] (fun fb => by kernel_rfl) rfl trivial ?_
      exact WL.toV K true [33, 1, 2, 3, 6] rfl (by rw [h62]; rfl)
    refine WL.setB 28 h62 rfl ?_
    refine seg 12 [] [1, 2, 3, 6, 33] [(1, (.int .i64 p1)), (2, (.int .i64 p2)), (3, (.pointer (some ⟨g23, 0, none⟩))), (6, (.pointer (some ⟨g27, 0, none⟩))), (33, (.bool (decide (w64 (p1 * p2) > 40000))))] [] (fun fb => by kernel_rfl) rfl trivial ?_
    exact WL.toV K (decide (w64 (p1 * p2) > 40000)) [33, 1, 2, 3, 6] rfl (by rw [h62]; rfl)
  rintro b63 rfl
  refine WL.done rfl ?_
  refine WX.next ?_
  rcases br_some hf with ⟨h64, hf⟩ | ⟨h64, hf⟩
  · refine WC.condT2 (fun fb => by kernel_rfl) h64 ?_
    refine WC.seq ?_
    refine WC.region ?_
    refine seg 1 [] [6, 34] [(6, (.pointer (some ⟨g27, 0, none⟩))), (34, (.agg #[(.int .i64 0), (.int .i64 0), (.slice none 0 0)]))] [] (fun fb => by kernel_rfl) rfl trivial ?_
    refine WL.store hS49 0 rfl [(0, (.int .i64 0)), (1, (.int .i64 0)), (2, (.slice none 0 0))] #[(.int .i64 0), (.int .i64 0), (.slice none 0 0)] (fun fb => by kernel_rfl) (by kernel_rfl) rfl [1] (by decide) (by decide) (fun w65 hS66 => ?_)
    refine ⟨trivial, ?_⟩
    refine seg 3 [] [6, 7] [(6, (.pointer (some ⟨g27, 0, none⟩))), (7, (.int .i64 4))] [] (fun fb => by kernel_rfl) rfl trivial ?_
    refine WL.done rfl ?_
    refine WX.next ?_
    refine WC.ret ?_
    have hS67 := hS66.nilrow 3 encInt
    injection hf with hf
    subst hf
    exact WX.thenR (WX.ret_ [.v (.int .i64 0), .v (.int .i64 0), .v (.slice none 0 0)] (.tuple #[(.agg #[(.int .i64 0), (.int .i64 0), (.slice none ([] : List Int).length 0)]), (.int .i64 4)]) [.cell ⟨g27, 0, none⟩ (.int .i64 0), .cell ⟨g27, 1, none⟩ (.int .i64 0), .cell ⟨g27, 2, none⟩ (.slice none 0 0)] (fun fb => by kernel_rfl) ⟨hS66.cell 0 rfl 0 rfl, hS66.cell 0 rfl 1 rfl, hS66.cell 0 rfl 2 rfl, trivial⟩ ⟨_, rfl, none, 0, rfl, (hS67.sub [0] (by decide)).noR⟩)
  refine WC.condF2 (fun fb => by kernel_rfl) h64 ?_
  refine WC.skip ?_
  refine WX.next ?_
  refine WC.seq ?_
  refine WC.region ?_
  refine seg 3 [] [1, 2, 3, 6, 37] [(1, (.int .i64 p1)), (2, (.int .i64 p2)), (3, (.pointer (some ⟨g23, 0, none⟩))), (6, (.pointer (some ⟨g27, 0, none⟩))), (37, (.agg #[(.int .i64 p1), (.int .i64 p2), (.slice none 0 0)]))] [] (fun fb => by kernel_rfl) rfl trivial ?_
  refine WL.new hS49 8 [] (fun g => (.pointer (some ⟨g, 0, none⟩))) (.cells #[(.int .i64 0), (.int .i64 0), (.slice none 0 0)] 25 (0, 0)) [] (fun fb g => by kernel_rfl) trivial (fun g68 w69 hS70 => ?_)
  refine ⟨trivial, ?_⟩
  refine WL.store hS70 0 rfl [(0, (.int .i64 p1)), (1, (.int .i64 p2)), (2, (.slice none 0 0))] #[(.int .i64 p1), (.int .i64 p2), (.slice none 0 0)] (fun fb => by kernel_rfl) (by kernel_rfl) rfl [1, 2] (by decide) (by decide) (fun w72 hS73 => ?_)
  refine ⟨trivial, ?_⟩
  refine WL.done rfl ?_
  refine WX.next ?_
  refine WC.seq ?_
  refine WC.seq ?_
  refine WC.region ?_
  refine seg 2 [] [1, 3, 6, 8, 38, 39] [(1, (.int .i64 p1)), (3, (.pointer (some ⟨g23, 0, none⟩))), (6, (.pointer (some ⟨g27, 0, none⟩))), (8, (.pointer (some ⟨g68, 0, none⟩))), (38, (.int .i64 p2)), (39, (.int .i64 0))] [] (fun fb => by kernel_rfl) rfl trivial ?_
  refine WL.done rfl ?_
  refine WX.next ?_
  have hS343 := hS73.nilrow 3 encInt
  obtain ⟨x351, hx352, hf⟩ := bind_some hf
  refine WC.cutN (T := (List Int) × (Option Addr) × Nat) (fun t => [(6, (.pointer (some ⟨g27, 0, none⟩))), (8, (.pointer (some ⟨g68, 0, none⟩)))]) (fun t w1 => St NoS w w1 [rowR encInt A_p0_Cells c_p0_Cells p0.Cells] [blk g27 (.cells #[(.int .i64 0), (.int .i64 0), (.slice none 0 0)] 25 (0, 0)), blk g68 (.cells #[(.int .i64 p1), (.int .i64 p2), (.slice t.2.1 t.1.length t.2.2)] 25 (0, 0)), rowO 3 encInt t.2.1 t.2.2 t.1] ∧ x351 = t.1) (fun Kx351 => ?_) ?_
  ·
    refine WC.block ?_
    refine WC.loop (T := ((List Int) × Int) × (Option Addr) × Nat) (fun t => [(1, (.int .i64 p1)), (3, (.pointer (some ⟨g23, 0, none⟩))), (6, (.pointer (some ⟨g27, 0, none⟩))), (8, (.pointer (some ⟨g68, 0, none⟩))), (38, (.int .i64 p2)), (39, (.int .i64 t.1.2))]) (fun n t w1 => St NoS w w1 [rowR encInt A_p0_Cells c_p0_Cells p0.Cells] [blk g23 (.cells #[(.int .i64 p0.Width), (.int .i64 p0.Height), (.slice A_p0_Cells p0.Cells.length c_p0_Cells)] 25 (0, 0)), blk g27 (.cells #[(.int .i64 0), (.int .i64 0), (.slice none 0 0)] 25 (0, 0)), blk g68 (.cells #[(.int .i64 p1), (.int .i64 p2), (.slice t.2.1 t.1.1.length t.2.2)] 25 (0, 0)), rowO 3 encInt t.2.1 t.2.2 t.1.1] ∧ tile_Repeat.l0 n t.1.1 t.1.2 p0 p1 p2 = some x351) k ((([] : List Int), 0), none, 0) [1, 3, 6, 8, 38, 39] rfl ⟨(hS343.subR [0]).sub [3, 2, 1, 0] (by decide), hx352⟩ ?_
    rintro k353 ⟨⟨l346, x347⟩, A344, c345⟩ w354 ⟨hS355, hl356⟩
    cases k353 with
    | zero => rw [tile_Repeat.l0] at hl356; cases hl356
    | succ k353 =>
      rw [tile_Repeat.l0] at hl356
      refine WC.seq ?_
      refine WC.region ?_
      refine seg 1 [] [1, 3, 6, 8, 38, 39, 40] [(1, (.int .i64 p1)), (3, (.pointer (some ⟨g23, 0, none⟩))), (6, (.pointer (some ⟨g27, 0, none⟩))), (8, (.pointer (some ⟨g68, 0, none⟩))), (38, (.int .i64 p2)), (39, (.int .i64 x347)), (40, (.bool (decide (x347 < p2))))] [] (fun fb => by kernel_rfl) rfl trivial ?_
      refine WL.done rfl ?_
      refine WX.next ?_
      refine WC.seq ?_
      rcases br_some hl356 with ⟨h357, hl356⟩ | ⟨h357, hl356⟩
      · refine WC.condT2 (fun fb => by kernel_rfl) h357 ?_
        refine WC.skip ?_
        refine WX.next ?_
        refine WC.seq ?_
        refine WC.block ?_
        refine WC.seq ?_
        refine WC.region ?_
        refine seg 2 [] [1, 3, 6, 8, 9, 38, 39] [(1, (.int .i64 p1)), (3, (.pointer (some ⟨g23, 0, none⟩))), (6, (.pointer (some ⟨g27, 0, none⟩))), (8, (.pointer (some ⟨g68, 0, none⟩))), (9, (.int .i64 x347)), (38, (.int .i64 p2)), (39, (.int .i64 x347))] [] (fun fb => by kernel_rfl) rfl trivial ?_
        refine WL.done rfl ?_
        refine WX.next ?_
        refine WC.seq ?_
        refine WC.region ?_
        refine seg 2 [] [1, 3, 6, 8, 9, 38, 39, 42, 43] [(1, (.int .i64 p1)), (3, (.pointer (some ⟨g23, 0, none⟩))), (6, (.pointer (some ⟨g27, 0, none⟩))), (8, (.pointer (some ⟨g68, 0, none⟩))), (9, (.int .i64 x347)), (38, (.int .i64 p2)), (39, (.int .i64 x347)), (42, (.int .i64 p1)), (43, (.int .i64 0))] [] (fun fb => by kernel_rfl) rfl trivial ?_
        refine WL.done rfl ?_
        refine WX.next ?_
        obtain ⟨x441, hx442, hl356⟩ := bind_some hl356
        refine WC.cutN (T := (List Int) × (Option Addr) × Nat) (fun t => [(1, (.int .i64 p1)), (3, (.pointer (some ⟨g23, 0, none⟩))), (6, (.pointer (some ⟨g27, 0, none⟩))), (8, (.pointer (some ⟨g68, 0, none⟩))), (38, (.int .i64 p2)), (39, (.int .i64 x347))]) (fun t w1 => St NoS w w1 [rowR encInt A_p0_Cells c_p0_Cells p0.Cells] [blk g23 (.cells #[(.int .i64 p0.Width), (.int .i64 p0.Height), (.slice A_p0_Cells p0.Cells.length c_p0_Cells)] 25 (0, 0)), blk g27 (.cells #[(.int .i64 0), (.int .i64 0), (.slice none 0 0)] 25 (0, 0)), blk g68 (.cells #[(.int .i64 p1), (.int .i64 p2), (.slice t.2.1 t.1.length t.2.2)] 25 (0, 0)), rowO 3 encInt t.2.1 t.2.2 t.1] ∧ x441 = t.1) (fun Kx441 => ?_) ?_
        ·
          refine WC.block ?_
          refine WC.loop (T := ((List Int) × Int) × (Option Addr) × Nat) (fun t => [(1, (.int .i64 p1)), (3, (.pointer (some ⟨g23, 0, none⟩))), (6, (.pointer (some ⟨g27, 0, none⟩))), (8, (.pointer (some ⟨g68, 0, none⟩))), (9, (.int .i64 x347)), (38, (.int .i64 p2)), (39, (.int .i64 x347)), (42, (.int .i64 p1)), (43, (.int .i64 t.1.2))]) (fun n t w1 => St NoS w w1 [rowR encInt A_p0_Cells c_p0_Cells p0.Cells] [blk g23 (.cells #[(.int .i64 p0.Width), (.int .i64 p0.Height), (.slice A_p0_Cells p0.Cells.length c_p0_Cells)] 25 (0, 0)), blk g27 (.cells #[(.int .i64 0), (.int .i64 0), (.slice none 0 0)] 25 (0, 0)), blk g68 (.cells #[(.int .i64 p1), (.int .i64 p2), (.slice t.2.1 t.1.1.length t.2.2)] 25 (0, 0)), rowO 3 encInt t.2.1 t.2.2 t.1.1] ∧ tile_Repeat.l1 n t.1.1 t.1.2 p0 p1 x347 = some x441) k353 ((l346, 0), A344, c345) [1, 3, 6, 8, 9, 38, 39, 42, 43] rfl ⟨(hS355.subR [0]).sub [0, 1, 2, 3] (by decide), hx442⟩ ?_
          rintro k443 ⟨⟨l436, x437⟩, A434, c435⟩ w444 ⟨hS445, hl446⟩
          cases k443 with
          | zero => rw [tile_Repeat.l1] at hl446; cases hl446
          | succ k443 =>
            rw [tile_Repeat.l1] at hl446
            refine WC.seq ?_
            refine WC.region ?_
            refine seg 1 [] [1, 3, 6, 8, 9, 38, 39, 42, 43, 44] [(1, (.int .i64 p1)), (3, (.pointer (some ⟨g23, 0, none⟩))), (6, (.pointer (some ⟨g27, 0, none⟩))), (8, (.pointer (some ⟨g68, 0, none⟩))), (9, (.int .i64 x347)), (38, (.int .i64 p2)), (39, (.int .i64 x347)), (42, (.int .i64 p1)), (43, (.int .i64 x437)), (44, (.bool (decide (x437 < p1))))] [] (fun fb => by kernel_rfl) rfl trivial ?_
            refine WL.done rfl ?_
            refine WX.next ?_
            refine WC.seq ?_
            rcases br_some hl446 with ⟨h447, hl446⟩ | ⟨h447, hl446⟩
            · refine WC.condT2 (fun fb => by kernel_rfl) h447 ?_
              refine WC.skip ?_
              refine WX.next ?_
              refine WC.seq ?_
              refine WC.block ?_
              refine WC.seq ?_
              refine WC.region ?_
              refine seg 2 [] [1, 3, 6, 8, 9, 10, 38, 39, 42, 43] [(1, (.int .i64 p1)), (3, (.pointer (some ⟨g23, 0, none⟩))), (6, (.pointer (some ⟨g27, 0, none⟩))), (8, (.pointer (some ⟨g68, 0, none⟩))), (9, (.int .i64 x347)), (10, (.int .i64 x437)), (38, (.int .i64 p2)), (39, (.int .i64 x347)), (42, (.int .i64 p1)), (43, (.int .i64 x437))] [] (fun fb => by kernel_rfl) rfl trivial ?_
              refine WL.done rfl ?_
              refine WX.next ?_
              obtain ⟨h468, hl446⟩ := as_some hl446
              obtain ⟨h469, hl446⟩ := as_some hl446
              obtain ⟨h470, hl446⟩ := as_some hl446
              refine WC.regionD ([(1, ⟨g68, 2, none⟩, (.slice A434 l436.length c435)), (3, ⟨g23, 2, none⟩, (.slice A_p0_Cells p0.Cells.length c_p0_Cells)), (6, ⟨g23, 1, none⟩, (.int .i64 p0.Height)), (9, ⟨g23, 0, none⟩, (.int .i64 p0.Width)), (13, ⟨g23, 0, none⟩, (.int .i64 p0.Width)), (17, ((adr A_p0_Cells).add ((w64 ((w64 ((Int.tmod x347 p0.Height) * p0.Width)) + (Int.tmod x437 p0.Width))).toNat * 1)), (.int .i64 (rdD p0.Cells (w64 ((w64 ((Int.tmod x347 p0.Height) * p0.Width)) + (Int.tmod x437 p0.Width))) 0)))], [0, 1, 2, 3, 4, 5, 6, 7, 8, 9, 10, 11, 12, 13, 14, 15, 16, 17, 20], [[], [0], [], [2], [], [], [5], [4, 5, 6], [], [8], [4, 5, 6, 7, 8, 9], [], [], [12], [11, 12, 13], [4, 5, 6, 7, 8, 9, 10, 11, 12, 13, 14], [2, 3, 4, 5, 6, 7, 8, 9, 10, 11, 12, 13, 14, 15], [2, 3, 4, 5, 6, 7, 8, 9, 10, 11, 12, 13, 14, 15, 16], [2, 3, 4, 5, 6, 7, 8, 9, 10, 11, 12, 13, 14, 15, 16, 17], [0, 1, 2, 3, 4, 5, 6, 7, 8, 9, 10, 11, 12, 13, 14, 15, 16, 17, 18], [0, 1, 2, 3, 4, 5, 6, 7, 8, 9, 10, 11, 12, 13, 14, 15, 16, 17, 18, 19], [0, 1, 2, 3, 4, 5, 6, 7, 8, 9, 10, 11, 12, 13, 14, 15, 16, 17, 18, 19, 20]]) [[0, 1, 2, 3, 4, 5, 6, 7, 8, 9, 10, 11, 12, 13, 14, 15, 16, 17, 18, 19, 20, 21]] (by kernel_rfl) (by kernel_rfl) (NoPanic.block (NoPanic.seq (NoPanic.seq (NoPanic.block (NoPanic.block (NoPanic.seq (NoPanic.seq (NoPanic.block (NoPanic.seq (NoPanic.body)))))))))) ?_
              have hS464 := hS445.drew
              revert hS464
              generalize World.drew w444 = w463
              intro hS464
              refine ⟨⟨hS464.cell 2 rfl 2 rfl, hS464.cell 0 rfl 2 rfl, hS464.cell 0 rfl 1 rfl, hS464.cell 0 rfl 0 rfl, hS464.cell 0 rfl 0 rfl, rowR.cell (hS464.rd 0).1 0 h470.1 h470.2 0 rfl, trivial⟩, forallC ?_ (forallN)⟩
              refine segF 18 [.v (.slice A434 l436.length c435), .v (.slice A_p0_Cells p0.Cells.length c_p0_Cells), .v (.int .i64 p0.Height), .v (.int .i64 p0.Width), .v (.int .i64 p0.Width), .v (.int .i64 (rdD p0.Cells (w64 ((w64 ((Int.tmod x347 p0.Height) * p0.Width)) + (Int.tmod x437 p0.Width))) 0))] [1, 3, 6, 8, 9, 38, 39, 42, 43, 47, 63] [(1, (.int .i64 p1)), (3, (.pointer (some ⟨g23, 0, none⟩))), (6, (.pointer (some ⟨g27, 0, none⟩))), (8, (.pointer (some ⟨g68, 0, none⟩))), (9, (.int .i64 x347)), (38, (.int .i64 p2)), (39, (.int .i64 x347)), (42, (.int .i64 p1)), (43, (.int .i64 x437)), (47, (.slice A434 l436.length c435)), (63, (.int .i64 (rdD p0.Cells (w64 ((w64 ((Int.tmod x347 p0.Height) * p0.Width)) + (Int.tmod x437 p0.Width))) 0)))] [.ne p0.Height, .ne p0.Width, .idx A_p0_Cells (w64 ((w64 ((Int.tmod x347 p0.Height) * p0.Width)) + (Int.tmod x437 p0.Width))) p0.Cells.length] [0, 1, 2, 3, 4, 5] [(1, ⟨g68, 2, none⟩, (.slice A434 l436.length c435)), (3, ⟨g23, 2, none⟩, (.slice A_p0_Cells p0.Cells.length c_p0_Cells)), (6, ⟨g23, 1, none⟩, (.int .i64 p0.Height)), (9, ⟨g23, 0, none⟩, (.int .i64 p0.Width)), (13, ⟨g23, 0, none⟩, (.int .i64 p0.Width)), (17, ((adr A_p0_Cells).add ((w64 ((w64 ((Int.tmod x347 p0.Height) * p0.Width)) + (Int.tmod x437 p0.Width))).toNat * 1)), (.int .i64 (rdD p0.Cells (w64 ((w64 ((Int.tmod x347 p0.Height) * p0.Width)) + (Int.tmod x437 p0.Width))) 0)))] (fun fb => by kernel_rfl) rfl ⟨h468, h469, rowR.adr (hS464.rd 0).1 h470.1 h470.2, trivial⟩ rfl ?_
              refine WL.new hS464 64 [] (fun g => (.slice (some ⟨g, 0, none⟩) 1 1)) (.cells #[(.int .i64 (rdD p0.Cells (w64 ((w64 ((Int.tmod x347 p0.Height) * p0.Width)) + (Int.tmod x437 p0.Width))) 0))] 3 (0, 0)) [] (fun fb g => by kernel_rfl) trivial (fun g471 w472 hS473 => ?_)
              refine ⟨⟨hS473.cell 3 rfl 2 rfl, trivial⟩, ?_⟩
              have hS475 : St NoS w w472 [rowR encInt A_p0_Cells c_p0_Cells p0.Cells] [rowO 3 encInt (some ⟨g471, 0, none⟩) 1 [(rdD p0.Cells (w64 ((w64 ((Int.tmod x347 p0.Height) * p0.Width)) + (Int.tmod x437 p0.Width))) 0)], blk g23 (.cells #[(.int .i64 p0.Width), (.int .i64 p0.Height), (.slice A_p0_Cells p0.Cells.length c_p0_Cells)] 25 (0, 0)), blk g27 (.cells #[(.int .i64 0), (.int .i64 0), (.slice none 0 0)] 25 (0, 0)), blk g68 (.cells #[(.int .i64 p1), (.int .i64 p2), (.slice A434 l436.length c435)] 25 (0, 0)), rowO 3 encInt A434 c435 l436] := hS473.map1 0 _ (fun h => rowO.ofBlk h rfl (Nat.le_of_ble_eq_true (by kernel_rfl))) (fun _ h => by obtain ⟨_, h1, h2⟩ := h; injection h1 with h1; subst h1; exact h2) [1, 2, 3, 4] (by decide) (by decide)
              obtain ⟨h476, hl446⟩ := as_some hl446
              refine WL.append hS475 4 (d := 65) (tS := 23) (z := (.int .i64 0)) (bytes := 8) (c2 := 1) rfl (fun fb => by kernel_rfl) (rowO.rd (hS475.own 0).1) (by kernel_rfl) (by kernel_rfl) rfl (by decide) h476 (by decide) [0, 1, 2, 3] (by decide) (by decide) (fun A477 c478 w479 hS480 => ?_)
              refine ⟨trivial, ?_⟩
              refine seg 21 [] [1, 3, 6, 8, 9, 38, 39, 42, 43, 65, 66] [(1, (.int .i64 p1)), (3, (.pointer (some ⟨g23, 0, none⟩))), (6, (.pointer (some ⟨g27, 0, none⟩))), (8, (.pointer (some ⟨g68, 0, none⟩))), (9, (.int .i64 x347)), (38, (.int .i64 p2)), (39, (.int .i64 x347)), (42, (.int .i64 p1)), (43, (.int .i64 x437)), (65, (.slice A477 (l436 ++ [(rdD p0.Cells (w64 ((w64 ((Int.tmod x347 p0.Height) * p0.Width)) + (Int.tmod x437 p0.Width))) 0)]).length c478)), (66, (.pointer (some ⟨g68, 2, none⟩)))] [] (fun fb => by kernel_rfl) rfl trivial ?_
              refine WL.store hS480 4 rfl [(2, (.slice A477 (l436 ++ [(rdD p0.Cells (w64 ((w64 ((Int.tmod x347 p0.Height) * p0.Width)) + (Int.tmod x437 p0.Width))) 0)]).length c478))] #[(.int .i64 p1), (.int .i64 p2), (.slice A477 (l436 ++ [(rdD p0.Cells (w64 ((w64 ((Int.tmod x347 p0.Height) * p0.Width)) + (Int.tmod x437 p0.Width))) 0)]).length c478)] (fun fb => by kernel_rfl) (by kernel_rfl) rfl [0, 1, 2, 3] (by decide) (by decide) (fun w481 hS482 => ?_)
              refine ⟨trivial, ?_⟩
              refine WL.done rfl ?_
              refine WX.blockN (WX.next ?_)
              refine WC.region ?_
              refine seg 2 [] [1, 3, 6, 8, 9, 38, 39, 42, 43] [(1, (.int .i64 p1)), (3, (.pointer (some ⟨g23, 0, none⟩))), (6, (.pointer (some ⟨g27, 0, none⟩))), (8, (.pointer (some ⟨g68, 0, none⟩))), (9, (.int .i64 x347)), (38, (.int .i64 p2)), (39, (.int .i64 x347)), (42, (.int .i64 p1)), (43, (.int .i64 (w64 (x437 + 1))))] [] (fun fb => by kernel_rfl) rfl trivial ?_
              refine WL.done rfl ?_
              exact WX.again k443 (Nat.lt_succ_self _) ((l436 ++ [(rdD p0.Cells (w64 ((w64 ((Int.tmod x347 p0.Height) * p0.Width)) + (Int.tmod x437 p0.Width))) 0)], w64 (x437 + 1)), A477, c478) [1, 3, 6, 8, 9, 38, 39, 42, 43] rfl ⟨(hS482.subR [0]).sub [3, 4, 0, 1] (by decide), hl446⟩
            refine WC.condF2 (fun fb => by kernel_rfl) h447 ?_
            refine WC.exit ?_
            injection hl446 with hl446
            exact WX.thenX (WX.thenX (WX.blockHere (WX.to Kx441 (l436, A434, c435) [1, 3, 6, 8, 38, 39] rfl ⟨(hS445.subR [0]).sub [0, 1, 2, 3] (by decide), hl446.symm⟩)))
        rintro ⟨y486, A438, c439⟩ w483 ⟨hS484, hq485⟩
        subst hq485
        refine WX.blockN (WX.next ?_)
        refine WC.region ?_
        refine seg 2 [] [1, 3, 6, 8, 38, 39] [(1, (.int .i64 p1)), (3, (.pointer (some ⟨g23, 0, none⟩))), (6, (.pointer (some ⟨g27, 0, none⟩))), (8, (.pointer (some ⟨g68, 0, none⟩))), (38, (.int .i64 p2)), (39, (.int .i64 (w64 (x347 + 1))))] [] (fun fb => by kernel_rfl) rfl trivial ?_
        refine WL.done rfl ?_
        exact WX.again k353 (Nat.lt_succ_self _) ((x441, w64 (x347 + 1)), A438, c439) [1, 3, 6, 8, 38, 39] rfl ⟨(hS484.subR [0]).sub [0, 1, 2, 3] (by decide), hl356⟩
      refine WC.condF2 (fun fb => by kernel_rfl) h357 ?_
      refine WC.exit ?_
      injection hl356 with hl356
      exact WX.thenX (WX.thenX (WX.blockHere (WX.to Kx351 (l346, A344, c345) [6, 8] rfl ⟨(hS355.subR [0]).sub [1, 2, 3] (by decide), hl356.symm⟩)))
  rintro ⟨y490, A348, c349⟩ w487 ⟨hS488, hq489⟩
  subst hq489
  refine WX.next ?_
  refine WC.seq ?_
  refine WC.region ?_
  refine seg 1 [.v (.int .i64 p1), .v (.int .i64 p2), .v (.slice A348 x351.length c349)] [6, 69] [(6, (.pointer (some ⟨g27, 0, none⟩))), (69, (.agg #[(.int .i64 p1), (.int .i64 p2), (.slice A348 x351.length c349)]))] [.cell ⟨g68, 0, none⟩ (.int .i64 p1), .cell ⟨g68, 1, none⟩ (.int .i64 p2), .cell ⟨g68, 2, none⟩ (.slice A348 x351.length c349)] (fun fb => by kernel_rfl) rfl ⟨hS488.cell 1 rfl 0 rfl, hS488.cell 1 rfl 1 rfl, hS488.cell 1 rfl 2 rfl, trivial⟩ ?_
  refine WL.store hS488 0 rfl [(0, (.int .i64 p1)), (1, (.int .i64 p2)), (2, (.slice A348 x351.length c349))] #[(.int .i64 p1), (.int .i64 p2), (.slice A348 x351.length c349)] (fun fb => by kernel_rfl) (by kernel_rfl) rfl [1, 2] (by decide) (by decide) (fun w491 hS492 => ?_)
  refine ⟨trivial, ?_⟩
  refine seg 3 [] [6, 7] [(6, (.pointer (some ⟨g27, 0, none⟩))), (7, (.int .i64 0))] [] (fun fb => by kernel_rfl) rfl trivial ?_
  refine WL.done rfl ?_
  refine WX.next ?_
  refine WC.ret ?_
  injection hf with hf
  subst hf
  exact WX.ret_ [.v (.int .i64 p1), .v (.int .i64 p2), .v (.slice A348 x351.length c349)] (.tuple #[(.agg #[(.int .i64 p1), (.int .i64 p2), (.slice A348 x351.length c349)]), (.int .i64 0)]) [.cell ⟨g27, 0, none⟩ (.int .i64 p1), .cell ⟨g27, 1, none⟩ (.int .i64 p2), .cell ⟨g27, 2, none⟩ (.slice A348 x351.length c349)] (fun fb => by kernel_rfl) ⟨hS492.cell 0 rfl 0 rfl, hS492.cell 0 rfl 1 rfl, hS492.cell 0 rfl 2 rfl, trivial⟩ ⟨_, rfl, A348, c349, rfl, (hS492.sub [2] (by decide)).noR⟩
theorem top_chess_calls   (r : (List Tile)) (w : World)  (hf : top_chess = some r) :
    CallsR Try.prog 10 #[] w (fun v w' => ∃ (A1_ : Option Addr), ∃ (c1_ : Nat), v = (.slice A1_ r.length c1_) ∧ St NoS w w' [] [rowO 38 enc_Tile A1_ c1_ r]) := by
  have hS : St NoS w w [] [] := St.init (ro_nil _ _)
  refine enter 4 Try.func10 rfl Try.ntmps10 rfl ?_
  unfold top_chess at hf
  refine WC.seq ?_
  refine WC.region ?_
  refine seg 1 [] [] [] [] (fun fb => by kernel_rfl) rfl trivial ?_
  refine WL.done rfl ?_
  refine WX.next ?_
  refine WC.seq ?_
  refine WC.region ?_
  refine seg 2 [] [1, 2] [(1, (.agg #[(.int .i64 0), (.int .i64 1), (.int .i64 1), (.int .i64 0)])), (2, (.agg #[(.int .i64 1), (.int .i64 0), (.int .i64 0), (.int .i64 1)]))] [] (fun fb => by kernel_rfl) rfl trivial ?_
  refine WL.new hS 3 [] (fun g => (.slice (some ⟨g, 0, none⟩) 2 2)) (.cells #[(.int .i64 0), (.int .i64 1), (.int .i64 1), (.int .i64 0), (.int .i64 1), (.int .i64 0), (.int .i64 0), (.int .i64 1)] 38 (0, 0)) [] (fun fb g => by kernel_rfl) trivial (fun g506 w507 hS508 => ?_)
  refine ⟨trivial, ?_⟩
  have hS510 : St NoS w w507 [] [rowO 38 enc_Tile (some ⟨g506, 0, none⟩) 2 [(Tile.mk 0 1 1 0), (Tile.mk 1 0 0 1)]] := hS508.map1 0 _ (fun h => rowO.ofBlk h rfl (Nat.le_of_ble_eq_true (by kernel_rfl))) (fun _ h => by obtain ⟨_, h1, h2⟩ := h; injection h1 with h1; subst h1; exact h2) [] (by decide) (by decide)
  refine seg 4 [] [0] [(0, (.slice (some ⟨g506, 0, none⟩) [(Tile.mk 0 1 1 0), (Tile.mk 1 0 0 1)].length 2))] [] (fun fb => by kernel_rfl) rfl trivial ?_
  refine WL.done rfl ?_
  refine WX.next ?_
  refine WC.ret ?_
  injection hf with hf
  subst hf
  exact WX.ret_ [] (.slice (some ⟨g506, 0, none⟩) [(Tile.mk 0 1 1 0), (Tile.mk 1 0 0 1)].length 2) [] (fun fb => by kernel_rfl) trivial ⟨_, rfl, (some ⟨g506, 0, none⟩), 2, rfl, (hS510.sub [0] (by decide)).noR⟩
theorem tile_colour_1_calls (p0 : Int)  (r : Bool) (w : World)  (hf : tile_colour_1 p0 = some r) :
    CallsR Try.prog 20 #[(.int .i64 p0)] w (fun v w' => v = (.bool r) ∧ Keeps NoS w w') := by
  have hS : St NoS w w [] [] := St.init (ro_nil _ _)
  refine enter 9 Try.func20 rfl Try.ntmps20 rfl ?_
  unfold tile_colour_1 at hf
  refine WC.seq ?_
  refine WC.region ?_
  refine seg 1 [] [0] [(0, (.int .i64 p0))] [] (fun fb => by kernel_rfl) rfl trivial ?_
  refine WL.done rfl ?_
  refine WX.next ?_
  refine WC.seq ?_
  refine WC.region ?_
  refine seg 3 [] [0, 5] [(0, (.int .i64 p0)), (5, (.bool (decide (p0 < 0))))] [] (fun fb => by kernel_rfl) rfl trivial ?_
  refine WL.cutV (T := Bool) 6 (fun t => [(8, (.bool t))]) (fun t => t = ((decide (p0 < 0)) || (decide (p0 ≥ 1000)))) (fun K => ?_) ?_
  ·
    rcases Bool.eq_false_or_eq_true (decide (p0 < 0)) with h549 | h549
    ·
      refine WL.setB 5 h549 rfl ?_
      refine seg 6 [] [8] [(8, (.bool true))] [] (fun fb => by kernel_rfl) rfl trivial ?_
      exact WL.toV K true [8] rfl (by rw [h549]; rfl)
    refine WL.setB 5 h549 rfl ?_
    refine seg 6 [] [8] [(8, (.bool (decide (p0 ≥ 1000))))] [] (fun fb => by kernel_rfl) rfl trivial ?_
    exact WL.toV K (decide (p0 ≥ 1000)) [8] rfl (by rw [h549]; rfl)
  rintro b550 rfl
  refine seg 7 [] [2] [(2, (.bool ((decide (p0 < 0)) || (decide (p0 ≥ 1000)))))] [] (fun fb => by kernel_rfl) rfl trivial ?_
  refine WL.done rfl ?_
  refine WX.next ?_
  refine WC.ret ?_
  injection hf with hf
  subst hf
  exact WX.ret_ [] (.bool ((decide (p0 < 0)) || (decide (p0 ≥ 1000)))) [] (fun fb => by kernel_rfl) trivial ⟨_, rfl, rfl, hS.keep⟩
theorem slices_IndexFunc_int_int_with_tile_colour_1_calls (k : Nat) (p0 : List Int) (A_p0 : Option Addr) (c_p0 : Nat) (r : Int) (w : World) (hR0 : RO NoS w (rowR encInt A_p0 c_p0 p0)) (hf : slices_IndexFunc_int_int_with_tile_colour_1 k p0 = some r) :
    CallsR Try.prog 19 #[(.slice A_p0 p0.length c_p0), (.func (.func 20) #[] #[])] w (fun v w' => v = (.int .i64 r) ∧ Keeps NoS w w') := by
  have hS : St NoS w w [rowR encInt A_p0 c_p0 p0] [] := St.init (ro_cons hR0 (ro_nil _ _))
  refine enter 19 Try.func19 rfl Try.ntmps19 rfl ?_
  unfold slices_IndexFunc_int_int_with_tile_colour_1 at hf
  refine WC.seq ?_
  refine WC.region ?_
  refine seg 1 [] [0, 1] [(0, (.slice A_p0 p0.length c_p0)), (1, (.func (.func 20) #[] #[]))] [] (fun fb => by kernel_rfl) rfl trivial ?_
  refine WL.done rfl ?_
  refine WX.next ?_
  refine WC.seq ?_
  refine WC.seq ?_
  refine WC.region ?_
  refine seg 3 [] [0, 1, 7, 8] [(0, (.slice A_p0 p0.length c_p0)), (1, (.func (.func 20) #[] #[])), (7, (.int .i64 (p0.length : Int))), (8, (.int .i64 0))] [] (fun fb => by kernel_rfl) rfl trivial ?_
  refine WL.done rfl ?_
  refine WX.next ?_
  obtain ⟨x567, hx568, hf⟩ := bind_some hf
  refine WC.cutN (T := Unit) (fun t => []) (fun t w1 => St NoS w w1 [rowR encInt A_p0 c_p0 p0] [] ∧ x567 = .inr t) (fun Kx567 => ?_) ?_
  ·
    refine WC.block ?_
    refine WC.loop (T := Int) (fun t => [(0, (.slice A_p0 p0.length c_p0)), (1, (.func (.func 20) #[] #[])), (7, (.int .i64 (p0.length : Int))), (8, (.int .i64 t))]) (fun n t w1 => St NoS w w1 [rowR encInt A_p0 c_p0 p0] [] ∧ slices_IndexFunc_int_int_with_tile_colour_1.l0 n t p0 = some x567) k 0 [0, 1, 7, 8] rfl ⟨(hS.subR [0]).sub [] (by decide), hx568⟩ ?_
    rintro k569 x566 w570 ⟨hS571, hl572⟩
    cases k569 with
    | zero => rw [slices_IndexFunc_int_int_with_tile_colour_1.l0] at hl572; cases hl572
    | succ k569 =>
      rw [slices_IndexFunc_int_int_with_tile_colour_1.l0] at hl572
      refine WC.seq ?_
      refine WC.region ?_
      refine seg 1 [] [0, 1, 7, 8, 9] [(0, (.slice A_p0 p0.length c_p0)), (1, (.func (.func 20) #[] #[])), (7, (.int .i64 (p0.length : Int))), (8, (.int .i64 x566)), (9, (.bool (decide (x566 < (p0.length : Int)))))] [] (fun fb => by kernel_rfl) rfl trivial ?_
      refine WL.done rfl ?_
      refine WX.next ?_
      refine WC.seq ?_
      rcases br_some hl572 with ⟨h573, hl572⟩ | ⟨h573, hl572⟩
      · refine WC.condT2 (fun fb => by kernel_rfl) h573 ?_
        refine WC.skip ?_
        refine WX.next ?_
        refine WC.seq ?_
        refine WC.block ?_
        refine WC.seq ?_
        refine WC.region ?_
        refine seg 2 [] [0, 1, 5, 7, 8] [(0, (.slice A_p0 p0.length c_p0)), (1, (.func (.func 20) #[] #[])), (5, (.int .i64 x566)), (7, (.int .i64 (p0.length : Int))), (8, (.int .i64 x566))] [] (fun fb => by kernel_rfl) rfl trivial ?_
        refine WL.done rfl ?_
        refine WX.next ?_
        refine WC.seq ?_
        refine WC.region ?_
        refine seg 3 [] [0, 1, 5, 7, 8, 11, 12, 13] [(0, (.slice A_p0 p0.length c_p0)), (1, (.func (.func 20) #[] #[])), (5, (.int .i64 x566)), (7, (.int .i64 (p0.length : Int))), (8, (.int .i64 x566)), (11, (.func (.func 20) #[] #[])), (12, (.slice A_p0 p0.length c_p0)), (13, (.int .i64 x566))] [] (fun fb => by kernel_rfl) rfl trivial ?_
        obtain ⟨h574, hl572⟩ := as_some hl572
        refine seg 5 [.v (.int .i64 (rdD p0 x566 0))] [0, 1, 5, 7, 8, 11, 15] [(0, (.slice A_p0 p0.length c_p0)), (1, (.func (.func 20) #[] #[])), (5, (.int .i64 x566)), (7, (.int .i64 (p0.length : Int))), (8, (.int .i64 x566)), (11, (.func (.func 20) #[] #[])), (15, (.int .i64 (rdD p0 x566 0)))] [.idx A_p0 x566 p0.length, .cell ((adr A_p0).add ((x566).toNat * 1)) (.int .i64 (rdD p0 x566 0))] (fun fb => by kernel_rfl) rfl ⟨rowR.adr (hS571.rd 0).1 h574.1 h574.2, rowR.cell (hS571.rd 0).1 0 h574.1 h574.2 0 rfl, trivial⟩ ?_
        obtain ⟨t575, ht576, hl572⟩ := bind_some hl572
        refine WL.call (some 16) 20 #[(.int .i64 (rdD p0 x566 0))] (fun fb => by kernel_rfl) (tile_colour_1_calls (rdD p0 x566 0) t575 _ ht576) (fun v w577 hR578 => ?_)
        obtain ⟨rfl, hk_⟩ := hR578
        have hS579 := hS571.keepN hk_
        refine ⟨trivial, ?_⟩
        refine WL.done rfl ?_
        refine WX.next ?_
        rcases br_some hl572 with ⟨h580, hl572⟩ | ⟨h580, hl572⟩
        · refine WC.condT2 (fun fb => by kernel_rfl) h580 ?_
          refine WC.seq ?_
          refine WC.region ?_
          refine seg 2 [] [4] [(4, (.int .i64 x566))] [] (fun fb => by kernel_rfl) rfl trivial ?_
          refine WL.done rfl ?_
          refine WX.next ?_
          refine WC.ret ?_
          injection hl572 with hl572
          subst hl572
          injection hf with hf
          subst hf
          exact WX.blockR (WX.thenR (WX.thenR (WX.blockR (WX.thenR (WX.ret_ [] (.int .i64 x566) [] (fun fb => by kernel_rfl) trivial ⟨_, rfl, rfl, hS579.keep⟩)))))
        refine WC.condF2 (fun fb => by kernel_rfl) h580 ?_
        refine WC.skip ?_
        refine WX.blockN (WX.next ?_)
        refine WC.region ?_
        refine seg 2 [] [0, 1, 7, 8] [(0, (.slice A_p0 p0.length c_p0)), (1, (.func (.func 20) #[] #[])), (7, (.int .i64 (p0.length : Int))), (8, (.int .i64 (w64 (x566 + 1))))] [] (fun fb => by kernel_rfl) rfl trivial ?_
        refine WL.done rfl ?_
        exact WX.again k569 (Nat.lt_succ_self _) (w64 (x566 + 1)) [0, 1, 7, 8] rfl ⟨(hS579.subR [0]).sub [] (by decide), hl572⟩
      refine WC.condF2 (fun fb => by kernel_rfl) h573 ?_
      refine WC.exit ?_
      injection hl572 with hl572
      exact WX.thenX (WX.thenX (WX.blockHere (WX.to Kx567 () [] rfl ⟨(hS571.subR [0]).sub [] (by decide), hl572.symm⟩)))
  rintro y584 w581 ⟨hS582, hq583⟩
  subst hq583
  have hf := sum_inr hf
  refine WX.next ?_
  refine WC.seq ?_
  refine WC.region ?_
  refine seg 1 [] [4] [(4, (.int .i64 (-1)))] [] (fun fb => by kernel_rfl) rfl trivial ?_
  refine WL.done rfl ?_
  refine WX.next ?_
  refine WC.ret ?_
  injection hf with hf
  subst hf
  exact WX.ret_ [] (.int .i64 (-1)) [] (fun fb => by kernel_rfl) trivial ⟨_, rfl, rfl, hS582.keep⟩
theorem slices_ContainsFunc_int_int_with_tile_colour_1_calls (k : Nat) (p0 : List Int) (A_p0 : Option Addr) (c_p0 : Nat) (r : Bool) (w : World) (hR0 : RO NoS w (rowR encInt A_p0 c_p0 p0)) (hf : slices_ContainsFunc_int_int_with_tile_colour_1 k p0 = some r) :
    CallsR Try.prog 16 #[(.slice A_p0 p0.length c_p0), (.func (.func 20) #[] #[])] w (fun v w' => v = (.bool r) ∧ Keeps NoS w w') := by
  have hS : St NoS w w [rowR encInt A_p0 c_p0 p0] [] := St.init (ro_cons hR0 (ro_nil _ _))
  refine enter 9 Try.func16 rfl Try.ntmps16 rfl ?_
  unfold slices_ContainsFunc_int_int_with_tile_colour_1 at hf
  refine WC.seq ?_
  refine WC.region ?_
  refine seg 1 [] [0, 1] [(0, (.slice A_p0 p0.length c_p0)), (1, (.func (.func 20) #[] #[]))] [] (fun fb => by kernel_rfl) rfl trivial ?_
  refine WL.done rfl ?_
  refine WX.next ?_
  refine WC.seq ?_
  refine WC.region ?_
  refine seg 2 [] [5, 6] [(5, (.slice A_p0 p0.length c_p0)), (6, (.func (.func 20) #[] #[]))] [] (fun fb => by kernel_rfl) rfl trivial ?_
  obtain ⟨t586, ht587, hf⟩ := bind_some hf
  refine WL.call (some 7) 19 #[(.slice A_p0 p0.length c_p0), (.func (.func 20) #[] #[])] (fun fb => by kernel_rfl) (slices_IndexFunc_int_int_with_tile_colour_1_calls _ p0 A_p0 c_p0 t586 _ (hS.rd 0) ht587) (fun v w588 hR589 => ?_)
  obtain ⟨rfl, hk_⟩ := hR589
  have hS590 := hS.keepN hk_
  refine ⟨trivial, ?_⟩
  refine seg 5 [] [4] [(4, (.bool (decide (t586 ≥ 0))))] [] (fun fb => by kernel_rfl) rfl trivial ?_
  refine WL.done rfl ?_
  refine WX.next ?_
  refine WC.ret ?_
  injection hf with hf
  subst hf
  exact WX.ret_ [] (.bool (decide (t586 ≥ 0))) [] (fun fb => by kernel_rfl) trivial ⟨_, rfl, rfl, hS590.keep⟩
theorem tile_colour_calls (k : Nat) (p0 : List Int) (A_p0 : Option Addr) (c_p0 : Nat) (r : Bool) (w : World) (hR0 : RO NoS w (rowR encInt A_p0 c_p0 p0)) (hf : tile_colour k p0 = some r) :
    CallsR Try.prog 18 #[(.slice A_p0 p0.length c_p0)] w (fun v w' => v = (.bool r) ∧ Keeps NoS w w') := by
  have hS : St NoS w w [rowR encInt A_p0 c_p0 p0] [] := St.init (ro_cons hR0 (ro_nil _ _))
  refine enter 6 Try.func18 rfl Try.ntmps18 rfl ?_
  unfold tile_colour at hf
  refine WC.seq ?_
  refine WC.region ?_
  refine seg 1 [] [0] [(0, (.slice A_p0 p0.length c_p0))] [] (fun fb => by kernel_rfl) rfl trivial ?_
  refine WL.done rfl ?_
  refine WX.next ?_
  refine WC.seq ?_
  refine WC.region ?_
  refine seg 1 [] [3] [(3, (.slice A_p0 p0.length c_p0))] [] (fun fb => by kernel_rfl) rfl trivial ?_
  obtain ⟨t591, ht592, hf⟩ := bind_some hf
  refine WL.call (some 4) 16 #[(.slice A_p0 p0.length c_p0), (.func (.func 20) #[] #[])] (fun fb => by kernel_rfl) (slices_ContainsFunc_int_int_with_tile_colour_1_calls _ p0 A_p0 c_p0 t591 _ (hS.rd 0) ht592) (fun v w593 hR594 => ?_)
  obtain ⟨rfl, hk_⟩ := hR594
  have hS595 := hS.keepN hk_
  refine ⟨trivial, ?_⟩
  refine seg 4 [] [2] [(2, (.bool (!t591)))] [] (fun fb => by kernel_rfl) rfl trivial ?_
  refine WL.done rfl ?_
  refine WX.next ?_
  refine WC.ret ?_
  injection hf with hf
  subst hf
  exact WX.ret_ [] (.bool (!t591)) [] (fun fb => by kernel_rfl) trivial ⟨_, rfl, rfl, hS595.keep⟩
theorem tile_Valid_key38 : KeyK Try.prog 38 (aggI ints_Tile) := KeyK.struct (n := 4) (by kernel_rfl) ints_Tile (fun _ => rfl) (fun x y h => by cases x; cases y; simp only [ints_Tile, List.cons.injEq, and_true] at h; obtain ⟨rfl, rfl, rfl, rfl⟩ := h; rfl)
theorem tile_Valid_calls (k : Nat) (p0 : List Tile) (A_p0 : Option Addr) (c_p0 : Nat) (r : Bool) (w : World) (hR0 : RO NoS w (rowR enc_Tile A_p0 c_p0 p0)) (hf : tile_Valid k p0 = some r) :
    CallsR Try.prog 15 #[(.slice A_p0 p0.length c_p0)] w (fun v w' => v = (.bool r) ∧ Keeps NoS w w') := by
  have hS : St NoS w w [rowR enc_Tile A_p0 c_p0 p0] [] := St.init (ro_cons hR0 (ro_nil _ _))
  refine enter 35 Try.func15 rfl Try.ntmps15 rfl ?_
  unfold tile_Valid at hf
  refine WC.seq ?_
  refine WC.region ?_
  refine seg 1 [] [0] [(0, (.slice A_p0 p0.length c_p0))] [] (fun fb => by kernel_rfl) rfl trivial ?_
  refine WL.done rfl ?_
  refine WX.next ?_
  refine WC.seq ?_
  refine WC.seq ?_
  refine WC.region ?_
  refine seg 3 [] [0, 8] [(0, (.slice A_p0 p0.length c_p0)), (8, (.bool (decide ((p0.length : Int) > 1000))))] [] (fun fb => by kernel_rfl) rfl trivial ?_
  refine WL.done rfl ?_
  refine WX.next ?_
  rcases br_some hf with ⟨h530, hf⟩ | ⟨h530, hf⟩
  · refine WC.condT2 (fun fb => by kernel_rfl) h530 ?_
    refine WC.seq ?_
    refine WC.region ?_
    refine seg 1 [] [2] [(2, (.bool false))] [] (fun fb => by kernel_rfl) rfl trivial ?_
    refine WL.done rfl ?_
    refine WX.next ?_
    refine WC.ret ?_
    injection hf with hf
    subst hf
    exact WX.thenR (WX.ret_ [] (.bool false) [] (fun fb => by kernel_rfl) trivial ⟨_, rfl, rfl, hS.keep⟩)
  refine WC.condF2 (fun fb => by kernel_rfl) h530 ?_
  refine WC.skip ?_
  refine WX.next ?_
  refine WC.seq ?_
  refine WC.region ?_
  refine WL.new hS 9 [] (fun g => (.map (some g))) (mapObj (aggI ints_Tile) vB ([] : List (Tile × Bool))) [] (fun fb g => by kernel_rfl) trivial (fun g531 w532 hS533 => ?_)
  refine ⟨trivial, ?_⟩
  refine seg 2 [] [0, 3] [(0, (.slice A_p0 p0.length c_p0)), (3, (.map (some g531)))] [] (fun fb => by kernel_rfl) rfl trivial ?_
  refine WL.done rfl ?_
  refine WX.next ?_
  refine WC.seq ?_
  refine WC.seq ?_
  refine WC.region ?_
  refine seg 3 [] [3, 10, 11, 12] [(3, (.map (some g531))), (10, (.slice A_p0 p0.length c_p0)), (11, (.int .i64 (p0.length : Int))), (12, (.int .i64 0))] [] (fun fb => by kernel_rfl) rfl trivial ?_
  refine WL.done rfl ?_
  refine WX.next ?_
  obtain ⟨x667, hx668, hf⟩ := bind_some hf
  refine WC.cutN (T := Unit) (fun t => []) (fun t w1 => St NoS w w1 [rowR enc_Tile A_p0 c_p0 p0] [] ∧ x667 = .inr t) (fun Kx667 => ?_) ?_
  ·
    refine WC.block ?_
    refine WC.loop (T := (List (Tile × Bool)) × Int) (fun t => [(3, (.map (some g531))), (10, (.slice A_p0 p0.length c_p0)), (11, (.int .i64 (p0.length : Int))), (12, (.int .i64 t.2))]) (fun n t w1 => St NoS w w1 [rowR enc_Tile A_p0 c_p0 p0] [blk g531 (mapObj (aggI ints_Tile) vB t.1)] ∧ tile_Valid.l0 n t.1 t.2 p0 = some x667) k (([] : List (Tile × Bool)), 0) [3, 10, 11, 12] rfl ⟨(hS533.subR [0]).sub [0] (by decide), hx668⟩ ?_
    rintro k669 ⟨l665, x666⟩ w670 ⟨hS671, hl672⟩
    cases k669 with
    | zero => rw [tile_Valid.l0] at hl672; cases hl672
    | succ k669 =>
      rw [tile_Valid.l0] at hl672
      refine WC.seq ?_
      refine WC.region ?_
      refine seg 1 [] [3, 10, 11, 12, 13] [(3, (.map (some g531))), (10, (.slice A_p0 p0.length c_p0)), (11, (.int .i64 (p0.length : Int))), (12, (.int .i64 x666)), (13, (.bool (decide (x666 < (p0.length : Int)))))] [] (fun fb => by kernel_rfl) rfl trivial ?_
      refine WL.done rfl ?_
      refine WX.next ?_
      refine WC.seq ?_
      rcases br_some hl672 with ⟨h673, hl672⟩ | ⟨h673, hl672⟩
      · refine WC.condT2 (fun fb => by kernel_rfl) h673 ?_
        refine WC.skip ?_
        refine WX.next ?_
        refine WC.seq ?_
        refine WC.block ?_
        refine WC.seq ?_
        refine WC.region ?_
        obtain ⟨h674, hl672⟩ := as_some hl672
        refine seg 2 [.v (.int .i64 ((rdD p0 x666 z_Tile).N)), .v (.int .i64 ((rdD p0 x666 z_Tile).E)), .v (.int .i64 ((rdD p0 x666 z_Tile).S)), .v (.int .i64 ((rdD p0 x666 z_Tile).W))] [3, 10, 11, 12, 15] [(3, (.map (some g531))), (10, (.slice A_p0 p0.length c_p0)), (11, (.int .i64 (p0.length : Int))), (12, (.int .i64 x666)), (15, (.agg #[(.int .i64 ((rdD p0 x666 z_Tile).N)), (.int .i64 ((rdD p0 x666 z_Tile).E)), (.int .i64 ((rdD p0 x666 z_Tile).S)), (.int .i64 ((rdD p0 x666 z_Tile).W))]))] [.idx A_p0 x666 p0.length, .cell ((adr A_p0).add ((x666).toNat * 4)) (.int .i64 ((rdD p0 x666 z_Tile).N)), .cell (((adr A_p0).add ((x666).toNat * 4)).add 1) (.int .i64 ((rdD p0 x666 z_Tile).E)), .cell (((adr A_p0).add ((x666).toNat * 4)).add 2) (.int .i64 ((rdD p0 x666 z_Tile).S)), .cell (((adr A_p0).add ((x666).toNat * 4)).add 3) (.int .i64 ((rdD p0 x666 z_Tile).W))] (fun fb => by kernel_rfl) rfl ⟨rowR.adr (hS671.rd 0).1 h674.1 h674.2, rowR.cell (hS671.rd 0).1 z_Tile h674.1 h674.2 0 rfl, rowR.cell (hS671.rd 0).1 z_Tile h674.1 h674.2 1 rfl, rowR.cell (hS671.rd 0).1 z_Tile h674.1 h674.2 2 rfl, rowR.cell (hS671.rd 0).1 z_Tile h674.1 h674.2 3 rfl, trivial⟩ ?_
        refine WL.new hS671 5 [] (fun g => (.pointer (some ⟨g, 0, none⟩))) (.cells #[(.int .i64 0), (.int .i64 0), (.int .i64 0), (.int .i64 0)] 38 (0, 0)) [] (fun fb g => by kernel_rfl) trivial (fun g675 w676 hS677 => ?_)
        refine ⟨trivial, ?_⟩
        refine WL.store hS677 0 rfl [(0, (.int .i64 ((rdD p0 x666 z_Tile).N))), (1, (.int .i64 ((rdD p0 x666 z_Tile).E))), (2, (.int .i64 ((rdD p0 x666 z_Tile).S))), (3, (.int .i64 ((rdD p0 x666 z_Tile).W)))] #[(.int .i64 ((rdD p0 x666 z_Tile).N)), (.int .i64 ((rdD p0 x666 z_Tile).E)), (.int .i64 ((rdD p0 x666 z_Tile).S)), (.int .i64 ((rdD p0 x666 z_Tile).W))] (fun fb => by kernel_rfl) (by kernel_rfl) rfl [1] (by decide) (by decide) (fun w679 hS680 => ?_)
        refine ⟨trivial, ?_⟩
        refine WL.done rfl ?_
        refine WX.next ?_
        refine WC.seq ?_
        refine WC.seq ?_
        refine WC.region ?_
        refine seg 2 [.v (.int .i64 ((rdD p0 x666 z_Tile).N)), .v (.int .i64 ((rdD p0 x666 z_Tile).E)), .v (.int .i64 ((rdD p0 x666 z_Tile).S)), .v (.int .i64 ((rdD p0 x666 z_Tile).W))] [3, 5, 10, 11, 12, 16, 17] [(3, (.map (some g531))), (5, (.pointer (some ⟨g675, 0, none⟩))), (10, (.slice A_p0 p0.length c_p0)), (11, (.int .i64 (p0.length : Int))), (12, (.int .i64 x666)), (16, (.map (some g531))), (17, (.agg #[(.int .i64 ((rdD p0 x666 z_Tile).N)), (.int .i64 ((rdD p0 x666 z_Tile).E)), (.int .i64 ((rdD p0 x666 z_Tile).S)), (.int .i64 ((rdD p0 x666 z_Tile).W))]))] [.cell ⟨g675, 0, none⟩ (.int .i64 ((rdD p0 x666 z_Tile).N)), .cell ⟨g675, 1, none⟩ (.int .i64 ((rdD p0 x666 z_Tile).E)), .cell ⟨g675, 2, none⟩ (.int .i64 ((rdD p0 x666 z_Tile).S)), .cell ⟨g675, 3, none⟩ (.int .i64 ((rdD p0 x666 z_Tile).W))] (fun fb => by kernel_rfl) rfl ⟨hS680.cell 0 rfl 0 rfl, hS680.cell 0 rfl 1 rfl, hS680.cell 0 rfl 2 rfl, hS680.cell 0 rfl 3 rfl, trivial⟩ ?_
        refine WL.lookup (hS680.own 1).1 (rdD p0 x666 z_Tile) (d := 18) (c := false) (t := 43) (kT := 38) (eT := 4) (z := false) (kE := (aggI ints_Tile)) (vE := vB) (l := l665) (.bool (mget (rdD p0 x666 z_Tile) false l665)) (fun fb => by kernel_rfl) tile_Valid_key38 (by kernel_rfl) (fun _ => by kernel_rfl) rfl ?_
        refine ⟨trivial, ?_⟩
        refine seg 4 [] [3, 5, 10, 11, 12, 19] [(3, (.map (some g531))), (5, (.pointer (some ⟨g675, 0, none⟩))), (10, (.slice A_p0 p0.length c_p0)), (11, (.int .i64 (p0.length : Int))), (12, (.int .i64 x666)), (19, (.bool (mget (rdD p0 x666 z_Tile) false l665)))] [] (fun fb => by kernel_rfl) rfl trivial ?_
        obtain ⟨x692, hx693, hl672⟩ := bind_some hl672
        refine WL.cutW (T := Bool) 16 (fun t => [(3, (.map (some g531))), (5, (.pointer (some ⟨g675, 0, none⟩))), (10, (.slice A_p0 p0.length c_p0)), (11, (.int .i64 (p0.length : Int))), (12, (.int .i64 x666)), (31, (.bool t))]) (fun t w1 => (St NoS w w1 [rowR enc_Tile A_p0 c_p0 p0] [blk g531 (mapObj (aggI ints_Tile) vB l665), blk g675 (.cells #[(.int .i64 ((rdD p0 x666 z_Tile).N)), (.int .i64 ((rdD p0 x666 z_Tile).E)), (.int .i64 ((rdD p0 x666 z_Tile).S)), (.int .i64 ((rdD p0 x666 z_Tile).W))] 38 (0, 0))] ∧ x692 = t) ∧ CellsOK [] w1) (fun K => ?_) ?_
        ·
          rcases br_some hx693 with ⟨h694, hx693⟩ | ⟨h694, hx693⟩
          ·
            refine WL.setB 19 h694 rfl ?_
            refine seg 16 [] [3, 5, 10, 11, 12, 31] [(3, (.map (some g531))), (5, (.pointer (some ⟨g675, 0, none⟩))), (10, (.slice A_p0 p0.length c_p0)), (11, (.int .i64 (p0.length : Int))), (12, (.int .i64 x666)), (31, (.bool true))] [] (fun fb => by kernel_rfl) rfl trivial ?_
            injection hx693 with hx693
            exact WL.to K true [3, 5, 10, 11, 12, 31] rfl ⟨⟨(hS680.subR [0]).sub [1, 0] (by decide), hx693.symm⟩, trivial⟩
          refine WL.setB 19 h694 rfl ?_
          refine seg 12 [.v (.int .i64 ((rdD p0 x666 z_Tile).N)), .v (.int .i64 ((rdD p0 x666 z_Tile).E)), .v (.int .i64 ((rdD p0 x666 z_Tile).S)), .v (.int .i64 ((rdD p0 x666 z_Tile).W))] [3, 5, 10, 11, 12, 19, 21, 23, 25, 27] [(3, (.map (some g531))), (5, (.pointer (some ⟨g675, 0, none⟩))), (10, (.slice A_p0 p0.length c_p0)), (11, (.int .i64 (p0.length : Int))), (12, (.int .i64 x666)), (19, (.bool false)), (21, (.int .i64 ((rdD p0 x666 z_Tile).N))), (23, (.int .i64 ((rdD p0 x666 z_Tile).E))), (25, (.int .i64 ((rdD p0 x666 z_Tile).S))), (27, (.int .i64 ((rdD p0 x666 z_Tile).W)))] [.cell ⟨g675, 0, none⟩ (.int .i64 ((rdD p0 x666 z_Tile).N)), .cell ⟨g675, 1, none⟩ (.int .i64 ((rdD p0 x666 z_Tile).E)), .cell ⟨g675, 2, none⟩ (.int .i64 ((rdD p0 x666 z_Tile).S)), .cell ⟨g675, 3, none⟩ (.int .i64 ((rdD p0 x666 z_Tile).W))] (fun fb => by kernel_rfl) rfl ⟨hS680.cell 0 rfl 0 rfl, hS680.cell 0 rfl 1 rfl, hS680.cell 0 rfl 2 rfl, hS680.cell 0 rfl 3 rfl, trivial⟩ ?_
          refine WL.new hS680 28 [] (fun g => (.slice (some ⟨g, 0, none⟩) 4 4)) (.cells #[(.int .i64 ((rdD p0 x666 z_Tile).N)), (.int .i64 ((rdD p0 x666 z_Tile).E)), (.int .i64 ((rdD p0 x666 z_Tile).S)), (.int .i64 ((rdD p0 x666 z_Tile).W))] 3 (0, 0)) [] (fun fb g => by kernel_rfl) trivial (fun g695 w696 hS697 => ?_)
          refine ⟨trivial, ?_⟩
          have hS699 : St NoS w w696 [rowR enc_Tile A_p0 c_p0 p0] [rowO 3 encInt (some ⟨g695, 0, none⟩) 4 [(rdD p0 x666 z_Tile).N, (rdD p0 x666 z_Tile).E, (rdD p0 x666 z_Tile).S, (rdD p0 x666 z_Tile).W], blk g675 (.cells #[(.int .i64 ((rdD p0 x666 z_Tile).N)), (.int .i64 ((rdD p0 x666 z_Tile).E)), (.int .i64 ((rdD p0 x666 z_Tile).S)), (.int .i64 ((rdD p0 x666 z_Tile).W))] 38 (0, 0)), blk g531 (mapObj (aggI ints_Tile) vB l665)] := hS697.map1 0 _ (fun h => rowO.ofBlk h rfl (Nat.le_of_ble_eq_true (by kernel_rfl))) (fun _ h => by obtain ⟨_, h1, h2⟩ := h; injection h1 with h1; subst h1; exact h2) [1, 2] (by decide) (by decide)
          obtain ⟨t700, ht701, hx693⟩ := bind_some hx693
          refine WL.call (some 29) 18 #[(.slice (some ⟨g695, 0, none⟩) [(rdD p0 x666 z_Tile).N, (rdD p0 x666 z_Tile).E, (rdD p0 x666 z_Tile).S, (rdD p0 x666 z_Tile).W].length 4)] (fun fb => by kernel_rfl) (tile_colour_calls _ [(rdD p0 x666 z_Tile).N, (rdD p0 x666 z_Tile).E, (rdD p0 x666 z_Tile).S, (rdD p0 x666 z_Tile).W] (some ⟨g695, 0, none⟩) 4 t700 _ (hS699.ow 0).ofO ht701) (fun v w702 hR703 => ?_)
          obtain ⟨rfl, hk_⟩ := hR703
          have hS704 := hS699.keepN hk_
          refine ⟨trivial, ?_⟩
          refine seg 16 [] [3, 5, 10, 11, 12, 31] [(3, (.map (some g531))), (5, (.pointer (some ⟨g675, 0, none⟩))), (10, (.slice A_p0 p0.length c_p0)), (11, (.int .i64 (p0.length : Int))), (12, (.int .i64 x666)), (31, (.bool (!t700)))] [] (fun fb => by kernel_rfl) rfl trivial ?_
          injection hx693 with hx693
          exact WL.to K (!t700) [3, 5, 10, 11, 12, 31] rfl ⟨⟨(hS704.subR [0]).sub [2, 1] (by decide), hx693.symm⟩, trivial⟩
        rintro y705 w707 ⟨⟨hS708, hq706⟩, hF709⟩
        subst hq706
        refine WL.done rfl ?_
        refine WX.next ?_
        rcases br_some hl672 with ⟨h710, hl672⟩ | ⟨h710, hl672⟩
        · refine WC.condT2 (fun fb => by kernel_rfl) h710 ?_
          refine WC.seq ?_
          refine WC.region ?_
          refine seg 1 [] [2] [(2, (.bool false))] [] (fun fb => by kernel_rfl) rfl trivial ?_
          refine WL.done rfl ?_
          refine WX.next ?_
          refine WC.ret ?_
          injection hl672 with hl672
          subst hl672
          injection hf with hf
          subst hf
          exact WX.thenR (WX.blockR (WX.thenR (WX.thenR (WX.blockR (WX.thenR (WX.ret_ [] (.bool false) [] (fun fb => by kernel_rfl) trivial ⟨_, rfl, rfl, hS708.keep⟩))))))
        refine WC.condF2 (fun fb => by kernel_rfl) h710 ?_
        refine WC.skip ?_
        refine WX.next ?_
        refine WC.region ?_
        refine seg 2 [.v (.int .i64 ((rdD p0 x666 z_Tile).N)), .v (.int .i64 ((rdD p0 x666 z_Tile).E)), .v (.int .i64 ((rdD p0 x666 z_Tile).S)), .v (.int .i64 ((rdD p0 x666 z_Tile).W))] [3, 10, 11, 12, 32, 33] [(3, (.map (some g531))), (10, (.slice A_p0 p0.length c_p0)), (11, (.int .i64 (p0.length : Int))), (12, (.int .i64 x666)), (32, (.map (some g531))), (33, (.agg #[(.int .i64 ((rdD p0 x666 z_Tile).N)), (.int .i64 ((rdD p0 x666 z_Tile).E)), (.int .i64 ((rdD p0 x666 z_Tile).S)), (.int .i64 ((rdD p0 x666 z_Tile).W))]))] [.cell ⟨g675, 0, none⟩ (.int .i64 ((rdD p0 x666 z_Tile).N)), .cell ⟨g675, 1, none⟩ (.int .i64 ((rdD p0 x666 z_Tile).E)), .cell ⟨g675, 2, none⟩ (.int .i64 ((rdD p0 x666 z_Tile).S)), .cell ⟨g675, 3, none⟩ (.int .i64 ((rdD p0 x666 z_Tile).W))] (fun fb => by kernel_rfl) rfl ⟨hS708.cell 1 rfl 0 rfl, hS708.cell 1 rfl 1 rfl, hS708.cell 1 rfl 2 rfl, hS708.cell 1 rfl 3 rfl, trivial⟩ ?_
        refine WL.mapput hS708 0 (t := 43) (kT := 38) (eT := 4) (kE := (aggI ints_Tile)) (vE := vB) (l := l665) rfl (rdD p0 x666 z_Tile) true (fun fb => by kernel_rfl) tile_Valid_key38 (by kernel_rfl) [1] (by decide) (by decide) (fun w711 hS712 => ?_)
        refine ⟨trivial, ?_⟩
        refine WL.done rfl ?_
        refine WX.blockN (WX.next ?_)
        refine WC.region ?_
        refine seg 2 [] [3, 10, 11, 12] [(3, (.map (some g531))), (10, (.slice A_p0 p0.length c_p0)), (11, (.int .i64 (p0.length : Int))), (12, (.int .i64 (w64 (x666 + 1))))] [] (fun fb => by kernel_rfl) rfl trivial ?_
        refine WL.done rfl ?_
        exact WX.again k669 (Nat.lt_succ_self _) (mput (rdD p0 x666 z_Tile) true l665, w64 (x666 + 1)) [3, 10, 11, 12] rfl ⟨(hS712.subR [0]).sub [0] (by decide), hl672⟩
      refine WC.condF2 (fun fb => by kernel_rfl) h673 ?_
      refine WC.exit ?_
      injection hl672 with hl672
      exact WX.thenX (WX.thenX (WX.blockHere (WX.to Kx667 () [] rfl ⟨(hS671.subR [0]).sub [] (by decide), hl672.symm⟩)))
  rintro y716 w713 ⟨hS714, hq715⟩
  subst hq715
  have hf := sum_inr hf
  refine WX.next ?_
  refine WC.seq ?_
  refine WC.region ?_
  refine seg 1 [] [2] [(2, (.bool true))] [] (fun fb => by kernel_rfl) rfl trivial ?_
  refine WL.done rfl ?_
  refine WX.next ?_
  refine WC.ret ?_
  injection hf with hf
  subst hf
  exact WX.ret_ [] (.bool true) [] (fun fb => by kernel_rfl) trivial ⟨_, rfl, rfl, hS714.keep⟩
theorem tile_of_1_calls (p0 : Int) (f0 : List Tile) (g_f0 : Nat) (A_f0 : Option Addr) (c_f0 : Nat) (r : Bool) (w : World) (hR0 : RO NoS w (blk g_f0 (.cells #[(.slice A_f0 f0.length c_f0)] 22 (0, 0)))) (hR1 : RO NoS w (rowR enc_Tile A_f0 c_f0 f0)) (hf : tile_of_1 p0 f0 = some r) :
    CallsR Try.prog 17 #[(.int .i64 p0), (.pointer (some ⟨g_f0, 0, none⟩))] w (fun v w' => v = (.bool r) ∧ Keeps NoS w w') := by
  have hS : St NoS w w [blk g_f0 (.cells #[(.slice A_f0 f0.length c_f0)] 22 (0, 0)), rowR enc_Tile A_f0 c_f0 f0] [] := St.init (ro_cons hR0 (ro_cons hR1 (ro_nil _ _)))
  refine enter 12 Try.func17 rfl Try.ntmps17 rfl ?_
  unfold tile_of_1 at hf
  refine WC.seq ?_
  refine WC.region ?_
  refine seg 1 [] [0, 1] [(0, (.int .i64 p0)), (1, (.pointer (some ⟨g_f0, 0, none⟩)))] [] (fun fb => by kernel_rfl) rfl trivial ?_
  refine WL.done rfl ?_
  refine WX.next ?_
  refine WC.seq ?_
  refine WC.region ?_
  refine seg 3 [] [0, 1, 6] [(0, (.int .i64 p0)), (1, (.pointer (some ⟨g_f0, 0, none⟩))), (6, (.bool (decide (p0 < 0))))] [] (fun fb => by kernel_rfl) rfl trivial ?_
  refine WL.cutV (T := Bool) 8 (fun t => [(11, (.bool t))]) (fun t => t = ((decide (p0 < 0)) || (decide (p0 ≥ (f0.length : Int))))) (fun K => ?_) ?_
  ·
    rcases Bool.eq_false_or_eq_true (decide (p0 < 0)) with h744 | h744
    ·
      refine WL.setB 6 h744 rfl ?_
      refine seg 8 [] [11] [(11, (.bool true))] [] (fun fb => by kernel_rfl) rfl trivial ?_
      exact WL.toV K true [11] rfl (by rw [h744]; rfl)
    refine WL.setB 6 h744 rfl ?_
    refine seg 8 [.v (.slice A_f0 f0.length c_f0)] [11] [(11, (.bool (decide (p0 ≥ (f0.length : Int)))))] [.cell ⟨g_f0, 0, none⟩ (.slice A_f0 f0.length c_f0)] (fun fb => by kernel_rfl) rfl ⟨blk_cell (hS.rd 0).1 0 rfl, trivial⟩ ?_
    exact WL.toV K (decide (p0 ≥ (f0.length : Int))) [11] rfl (by rw [h744]; rfl)
  rintro b745 rfl
  refine seg 9 [] [3] [(3, (.bool ((decide (p0 < 0)) || (decide (p0 ≥ (f0.length : Int))))))] [] (fun fb => by kernel_rfl) rfl trivial ?_
  refine WL.done rfl ?_
  refine WX.next ?_
  refine WC.ret ?_
  injection hf with hf
  subst hf
  exact WX.ret_ [] (.bool ((decide (p0 < 0)) || (decide (p0 ≥ (f0.length : Int))))) [] (fun fb => by kernel_rfl) trivial ⟨_, rfl, rfl, hS.keep⟩
theorem slices_IndexFunc_int_int_with_tile_of_1_calls (k : Nat) (p0 : List Int) (p1_0 : List Tile) (A_p0 : Option Addr) (c_p0 : Nat) (g_p1_0 : Nat) (A_p1_0 : Option Addr) (c_p1_0 : Nat) (r : Int) (w : World) (hR0 : RO NoS w (rowR encInt A_p0 c_p0 p0)) (hR1 : RO NoS w (blk g_p1_0 (.cells #[(.slice A_p1_0 p1_0.length c_p1_0)] 22 (0, 0)))) (hR2 : RO NoS w (rowR enc_Tile A_p1_0 c_p1_0 p1_0)) (hf : slices_IndexFunc_int_int_with_tile_of_1 k p0 p1_0 = some r) :
    CallsR Try.prog 19 #[(.slice A_p0 p0.length c_p0), (.func (.func 17) #[] #[(.pointer (some ⟨g_p1_0, 0, none⟩))])] w (fun v w' => v = (.int .i64 r) ∧ Keeps NoS w w') := by
  have hS : St NoS w w [rowR encInt A_p0 c_p0 p0, blk g_p1_0 (.cells #[(.slice A_p1_0 p1_0.length c_p1_0)] 22 (0, 0)), rowR enc_Tile A_p1_0 c_p1_0 p1_0] [] := St.init (ro_cons hR0 (ro_cons hR1 (ro_cons hR2 (ro_nil _ _))))
  refine enter 19 Try.func19 rfl Try.ntmps19 rfl ?_
  unfold slices_IndexFunc_int_int_with_tile_of_1 at hf
  refine WC.seq ?_
  refine WC.region ?_
  refine seg 1 [] [0, 1] [(0, (.slice A_p0 p0.length c_p0)), (1, (.func (.func 17) #[] #[(.pointer (some ⟨g_p1_0, 0, none⟩))]))] [] (fun fb => by kernel_rfl) rfl trivial ?_
  refine WL.done rfl ?_
  refine WX.next ?_
  refine WC.seq ?_
  refine WC.seq ?_
  refine WC.region ?_
  refine seg 3 [] [0, 1, 7, 8] [(0, (.slice A_p0 p0.length c_p0)), (1, (.func (.func 17) #[] #[(.pointer (some ⟨g_p1_0, 0, none⟩))])), (7, (.int .i64 (p0.length : Int))), (8, (.int .i64 0))] [] (fun fb => by kernel_rfl) rfl trivial ?_
  refine WL.done rfl ?_
  refine WX.next ?_
  obtain ⟨x762, hx763, hf⟩ := bind_some hf
  refine WC.cutN (T := Unit) (fun t => []) (fun t w1 => St NoS w w1 [rowR encInt A_p0 c_p0 p0, blk g_p1_0 (.cells #[(.slice A_p1_0 p1_0.length c_p1_0)] 22 (0, 0)), rowR enc_Tile A_p1_0 c_p1_0 p1_0] [] ∧ x762 = .inr t) (fun Kx762 => ?_) ?_
  ·
    refine WC.block ?_
    refine WC.loop (T := Int) (fun t => [(0, (.slice A_p0 p0.length c_p0)), (1, (.func (.func 17) #[] #[(.pointer (some ⟨g_p1_0, 0, none⟩))])), (7, (.int .i64 (p0.length : Int))), (8, (.int .i64 t))]) (fun n t w1 => St NoS w w1 [rowR encInt A_p0 c_p0 p0, blk g_p1_0 (.cells #[(.slice A_p1_0 p1_0.length c_p1_0)] 22 (0, 0)), rowR enc_Tile A_p1_0 c_p1_0 p1_0] [] ∧ slices_IndexFunc_int_int_with_tile_of_1.l0 n t p0 p1_0 = some x762) k 0 [0, 1, 7, 8] rfl ⟨(hS.subR [0, 1, 2]).sub [] (by decide), hx763⟩ ?_
    rintro k764 x761 w765 ⟨hS766, hl767⟩
    cases k764 with
    | zero => rw [slices_IndexFunc_int_int_with_tile_of_1.l0] at hl767; cases hl767
    | succ k764 =>
      rw [slices_IndexFunc_int_int_with_tile_of_1.l0] at hl767
      refine WC.seq ?_
      refine WC.region ?_
      refine seg 1 [] [0, 1, 7, 8, 9] [(0, (.slice A_p0 p0.length c_p0)), (1, (.func (.func 17) #[] #[(.pointer (some ⟨g_p1_0, 0, none⟩))])), (7, (.int .i64 (p0.length : Int))), (8, (.int .i64 x761)), (9, (.bool (decide (x761 < (p0.length : Int)))))] [] (fun fb => by kernel_rfl) rfl trivial ?_
      refine WL.done rfl ?_
      refine WX.next ?_
      refine WC.seq ?_
      rcases br_some hl767 with ⟨h768, hl767⟩ | ⟨h768, hl767⟩
      · refine WC.condT2 (fun fb => by kernel_rfl) h768 ?_
        refine WC.skip ?_
        refine WX.next ?_
        refine WC.seq ?_
        refine WC.block ?_
        refine WC.seq ?_
        refine WC.region ?_
        refine seg 2 [] [0, 1, 5, 7, 8] [(0, (.slice A_p0 p0.length c_p0)), (1, (.func (.func 17) #[] #[(.pointer (some ⟨g_p1_0, 0, none⟩))])), (5, (.int .i64 x761)), (7, (.int .i64 (p0.length : Int))), (8, (.int .i64 x761))] [] (fun fb => by kernel_rfl) rfl trivial ?_
        refine WL.done rfl ?_
        refine WX.next ?_
        refine WC.seq ?_
        refine WC.region ?_
        refine seg 3 [] [0, 1, 5, 7, 8, 11, 12, 13] [(0, (.slice A_p0 p0.length c_p0)), (1, (.func (.func 17) #[] #[(.pointer (some ⟨g_p1_0, 0, none⟩))])), (5, (.int .i64 x761)), (7, (.int .i64 (p0.length : Int))), (8, (.int .i64 x761)), (11, (.func (.func 17) #[] #[(.pointer (some ⟨g_p1_0, 0, none⟩))])), (12, (.slice A_p0 p0.length c_p0)), (13, (.int .i64 x761))] [] (fun fb => by kernel_rfl) rfl trivial ?_
        obtain ⟨h769, hl767⟩ := as_some hl767
        refine seg 5 [.v (.int .i64 (rdD p0 x761 0))] [0, 1, 5, 7, 8, 11, 15] [(0, (.slice A_p0 p0.length c_p0)), (1, (.func (.func 17) #[] #[(.pointer (some ⟨g_p1_0, 0, none⟩))])), (5, (.int .i64 x761)), (7, (.int .i64 (p0.length : Int))), (8, (.int .i64 x761)), (11, (.func (.func 17) #[] #[(.pointer (some ⟨g_p1_0, 0, none⟩))])), (15, (.int .i64 (rdD p0 x761 0)))] [.idx A_p0 x761 p0.length, .cell ((adr A_p0).add ((x761).toNat * 1)) (.int .i64 (rdD p0 x761 0))] (fun fb => by kernel_rfl) rfl ⟨rowR.adr (hS766.rd 0).1 h769.1 h769.2, rowR.cell (hS766.rd 0).1 0 h769.1 h769.2 0 rfl, trivial⟩ ?_
        obtain ⟨t770, ht771, hl767⟩ := bind_some hl767
        refine WL.call (some 16) 17 #[(.int .i64 (rdD p0 x761 0)), (.pointer (some ⟨g_p1_0, 0, none⟩))] (fun fb => by kernel_rfl) (tile_of_1_calls (rdD p0 x761 0) p1_0 g_p1_0 A_p1_0 c_p1_0 t770 _ (hS766.rd 1) (hS766.rd 2) ht771) (fun v w772 hR773 => ?_)
        obtain ⟨rfl, hk_⟩ := hR773
        have hS774 := hS766.keepN hk_
        refine ⟨trivial, ?_⟩
        refine WL.done rfl ?_
        refine WX.next ?_
        rcases br_some hl767 with ⟨h775, hl767⟩ | ⟨h775, hl767⟩
        · refine WC.condT2 (fun fb => by kernel_rfl) h775 ?_
          refine WC.seq ?_
          refine WC.region ?_
          refine seg 2 [] [4] [(4, (.int .i64 x761))] [] (fun fb => by kernel_rfl) rfl trivial ?_
          refine WL.done rfl ?_
          refine WX.next ?_
          refine WC.ret ?_
          injection hl767 with hl767
          subst hl767
          injection hf with hf
          subst hf
          exact WX.blockR (WX.thenR (WX.thenR (WX.blockR (WX.thenR (WX.ret_ [] (.int .i64 x761) [] (fun fb => by kernel_rfl) trivial ⟨_, rfl, rfl, hS774.keep⟩)))))
        refine WC.condF2 (fun fb => by kernel_rfl) h775 ?_
        refine WC.skip ?_
        refine WX.blockN (WX.next ?_)
        refine WC.region ?_
        refine seg 2 [] [0, 1, 7, 8] [(0, (.slice A_p0 p0.length c_p0)), (1, (.func (.func 17) #[] #[(.pointer (some ⟨g_p1_0, 0, none⟩))])), (7, (.int .i64 (p0.length : Int))), (8, (.int .i64 (w64 (x761 + 1))))] [] (fun fb => by kernel_rfl) rfl trivial ?_
        refine WL.done rfl ?_
        exact WX.again k764 (Nat.lt_succ_self _) (w64 (x761 + 1)) [0, 1, 7, 8] rfl ⟨(hS774.subR [0, 1, 2]).sub [] (by decide), hl767⟩
      refine WC.condF2 (fun fb => by kernel_rfl) h768 ?_
      refine WC.exit ?_
      injection hl767 with hl767
      exact WX.thenX (WX.thenX (WX.blockHere (WX.to Kx762 () [] rfl ⟨(hS766.subR [0, 1, 2]).sub [] (by decide), hl767.symm⟩)))
  rintro y779 w776 ⟨hS777, hq778⟩
  subst hq778
  have hf := sum_inr hf
  refine WX.next ?_
  refine WC.seq ?_
  refine WC.region ?_
  refine seg 1 [] [4] [(4, (.int .i64 (-1)))] [] (fun fb => by kernel_rfl) rfl trivial ?_
  refine WL.done rfl ?_
  refine WX.next ?_
  refine WC.ret ?_
  injection hf with hf
  subst hf
  exact WX.ret_ [] (.int .i64 (-1)) [] (fun fb => by kernel_rfl) trivial ⟨_, rfl, rfl, hS777.keep⟩
theorem slices_ContainsFunc_int_int_with_tile_of_1_calls (k : Nat) (p0 : List Int) (p1_0 : List Tile) (A_p0 : Option Addr) (c_p0 : Nat) (g_p1_0 : Nat) (A_p1_0 : Option Addr) (c_p1_0 : Nat) (r : Bool) (w : World) (hR0 : RO NoS w (rowR encInt A_p0 c_p0 p0)) (hR1 : RO NoS w (blk g_p1_0 (.cells #[(.slice A_p1_0 p1_0.length c_p1_0)] 22 (0, 0)))) (hR2 : RO NoS w (rowR enc_Tile A_p1_0 c_p1_0 p1_0)) (hf : slices_ContainsFunc_int_int_with_tile_of_1 k p0 p1_0 = some r) :
    CallsR Try.prog 16 #[(.slice A_p0 p0.length c_p0), (.func (.func 17) #[] #[(.pointer (some ⟨g_p1_0, 0, none⟩))])] w (fun v w' => v = (.bool r) ∧ Keeps NoS w w') := by
  have hS : St NoS w w [rowR encInt A_p0 c_p0 p0, blk g_p1_0 (.cells #[(.slice A_p1_0 p1_0.length c_p1_0)] 22 (0, 0)), rowR enc_Tile A_p1_0 c_p1_0 p1_0] [] := St.init (ro_cons hR0 (ro_cons hR1 (ro_cons hR2 (ro_nil _ _))))
  refine enter 9 Try.func16 rfl Try.ntmps16 rfl ?_
  unfold slices_ContainsFunc_int_int_with_tile_of_1 at hf
  refine WC.seq ?_
  refine WC.region ?_
  refine seg 1 [] [0, 1] [(0, (.slice A_p0 p0.length c_p0)), (1, (.func (.func 17) #[] #[(.pointer (some ⟨g_p1_0, 0, none⟩))]))] [] (fun fb => by kernel_rfl) rfl trivial ?_
  refine WL.done rfl ?_
  refine WX.next ?_
  refine WC.seq ?_
  refine WC.region ?_
  refine seg 2 [] [5, 6] [(5, (.slice A_p0 p0.length c_p0)), (6, (.func (.func 17) #[] #[(.pointer (some ⟨g_p1_0, 0, none⟩))]))] [] (fun fb => by kernel_rfl) rfl trivial ?_
  obtain ⟨t781, ht782, hf⟩ := bind_some hf
  refine WL.call (some 7) 19 #[(.slice A_p0 p0.length c_p0), (.func (.func 17) #[] #[(.pointer (some ⟨g_p1_0, 0, none⟩))])] (fun fb => by kernel_rfl) (slices_IndexFunc_int_int_with_tile_of_1_calls _ p0 p1_0 A_p0 c_p0 g_p1_0 A_p1_0 c_p1_0 t781 _ (hS.rd 0) (hS.rd 1) (hS.rd 2) ht782) (fun v w783 hR784 => ?_)
  obtain ⟨rfl, hk_⟩ := hR784
  have hS785 := hS.keepN hk_
  refine ⟨trivial, ?_⟩
  refine seg 5 [] [4] [(4, (.bool (decide (t781 ≥ 0))))] [] (fun fb => by kernel_rfl) rfl trivial ?_
  refine WL.done rfl ?_
  refine WX.next ?_
  refine WC.ret ?_
  injection hf with hf
  subst hf
  exact WX.ret_ [] (.bool (decide (t781 ≥ 0))) [] (fun fb => by kernel_rfl) trivial ⟨_, rfl, rfl, hS785.keep⟩
theorem tile_of_calls (k : Nat) (p0 : List Tile) (p1 : Pattern) (A_p0 : Option Addr) (c_p0 : Nat) (A_p1_Cells : Option Addr) (c_p1_Cells : Nat) (r : Bool) (w : World) (hR0 : RO NoS w (rowR enc_Tile A_p0 c_p0 p0)) (hR1 : RO NoS w (rowR encInt A_p1_Cells c_p1_Cells p1.Cells)) (hf : tile_of k p0 p1 = some r) :
    CallsR Try.prog 12 #[(.slice A_p0 p0.length c_p0), (.agg #[(.int .i64 p1.Width), (.int .i64 p1.Height), (.slice A_p1_Cells p1.Cells.length c_p1_Cells)])] w (fun v w' => v = (.bool r) ∧ Keeps NoS w w') := by
  have hS : St NoS w w [rowR enc_Tile A_p0 c_p0 p0, rowR encInt A_p1_Cells c_p1_Cells p1.Cells] [] := St.init (ro_cons hR0 (ro_cons hR1 (ro_nil _ _)))
  refine enter 18 Try.func12 rfl Try.ntmps12 rfl ?_
  unfold tile_of at hf
  refine WC.seq ?_
  refine WC.region ?_
  refine WL.new hS 2 [] (fun g => (.pointer (some ⟨g, 0, none⟩))) (.cells #[(.slice A_p0 p0.length c_p0)] 22 (0, 0)) [] (fun fb g => by kernel_rfl) trivial (fun g522 w523 hS524 => ?_)
  refine ⟨trivial, ?_⟩
  refine WL.new hS524 3 [] (fun g => (.pointer (some ⟨g, 0, none⟩))) (.cells #[(.int .i64 p1.Width), (.int .i64 p1.Height), (.slice A_p1_Cells p1.Cells.length c_p1_Cells)] 25 (0, 0)) [] (fun fb g => by kernel_rfl) trivial (fun g526 w527 hS528 => ?_)
  refine ⟨trivial, ?_⟩
  refine seg 3 [] [2, 3] [(2, (.pointer (some ⟨g522, 0, none⟩))), (3, (.pointer (some ⟨g526, 0, none⟩)))] [] (fun fb => by kernel_rfl) rfl trivial ?_
  refine WL.done rfl ?_
  refine WX.next ?_
  refine WC.seq ?_
  refine WC.region ?_
  refine seg 1 [.v (.slice A_p0 p0.length c_p0)] [2, 3, 5] [(2, (.pointer (some ⟨g522, 0, none⟩))), (3, (.pointer (some ⟨g526, 0, none⟩))), (5, (.slice A_p0 p0.length c_p0))] [.cell ⟨g522, 0, none⟩ (.slice A_p0 p0.length c_p0)] (fun fb => by kernel_rfl) rfl ⟨hS528.cell 1 rfl 0 rfl, trivial⟩ ?_
  obtain ⟨t718, ht719, hf⟩ := bind_some hf
  refine WL.call (some 6) 15 #[(.slice A_p0 p0.length c_p0)] (fun fb => by kernel_rfl) (tile_Valid_calls _ p0 A_p0 c_p0 t718 _ (hS528.rd 0) ht719) (fun v w720 hR721 => ?_)
  obtain ⟨rfl, hk_⟩ := hR721
  have hS722 := hS528.keepN hk_
  refine ⟨trivial, ?_⟩
  refine seg 3 [] [2, 3, 7] [(2, (.pointer (some ⟨g522, 0, none⟩))), (3, (.pointer (some ⟨g526, 0, none⟩))), (7, (.bool t718))] [] (fun fb => by kernel_rfl) rfl trivial ?_
  obtain ⟨x729, hx730, hf⟩ := bind_some hf
  refine WL.cutW (T := Bool) 6 (fun t => [(2, (.pointer (some ⟨g522, 0, none⟩))), (3, (.pointer (some ⟨g526, 0, none⟩))), (10, (.bool t))]) (fun t w1 => (St NoS w w1 [rowR enc_Tile A_p0 c_p0 p0, rowR encInt A_p1_Cells c_p1_Cells p1.Cells] [blk g522 (.cells #[(.slice A_p0 p0.length c_p0)] 22 (0, 0)), blk g526 (.cells #[(.int .i64 p1.Width), (.int .i64 p1.Height), (.slice A_p1_Cells p1.Cells.length c_p1_Cells)] 25 (0, 0))] ∧ x729 = t) ∧ CellsOK [] w1) (fun K => ?_) ?_
  ·
    rcases br_some hx730 with ⟨h731, hx730⟩ | ⟨h731, hx730⟩
    ·
      refine WL.setB 7 h731 rfl ?_
      refine seg 4 [.v (.int .i64 p1.Width), .v (.int .i64 p1.Height), .v (.slice A_p1_Cells p1.Cells.length c_p1_Cells)] [2, 3, 7, 8] [(2, (.pointer (some ⟨g522, 0, none⟩))), (3, (.pointer (some ⟨g526, 0, none⟩))), (7, (.bool true)), (8, (.agg #[(.int .i64 p1.Width), (.int .i64 p1.Height), (.slice A_p1_Cells p1.Cells.length c_p1_Cells)]))] [.cell ⟨g526, 0, none⟩ (.int .i64 p1.Width), .cell ⟨g526, 1, none⟩ (.int .i64 p1.Height), .cell ⟨g526, 2, none⟩ (.slice A_p1_Cells p1.Cells.length c_p1_Cells)] (fun fb => by kernel_rfl) rfl ⟨hS722.cell 0 rfl 0 rfl, hS722.cell 0 rfl 1 rfl, hS722.cell 0 rfl 2 rfl, trivial⟩ ?_
      obtain ⟨t732, ht733, hx730⟩ := bind_some hx730
      refine WL.call (some 9) 14 #[(.agg #[(.int .i64 p1.Width), (.int .i64 p1.Height), (.slice A_p1_Cells p1.Cells.length c_p1_Cells)])] (fun fb => by kernel_rfl) (tile_Form_calls p1 A_p1_Cells c_p1_Cells t732 _ (hS722.rd 1) ht733) (fun v w734 hR735 => ?_)
      obtain ⟨rfl, hk_⟩ := hR735
      have hS736 := hS722.keepN hk_
      refine ⟨trivial, ?_⟩
      refine seg 6 [] [2, 3, 10] [(2, (.pointer (some ⟨g522, 0, none⟩))), (3, (.pointer (some ⟨g526, 0, none⟩))), (10, (.bool t732))] [] (fun fb => by kernel_rfl) rfl trivial ?_
      injection hx730 with hx730
      exact WL.to K t732 [2, 3, 10] rfl ⟨⟨(hS736.subR [0, 1]).sub [1, 0] (by decide), hx730.symm⟩, trivial⟩
    refine WL.setB 7 h731 rfl ?_
    refine seg 6 [] [2, 3, 10] [(2, (.pointer (some ⟨g522, 0, none⟩))), (3, (.pointer (some ⟨g526, 0, none⟩))), (10, (.bool false))] [] (fun fb => by kernel_rfl) rfl trivial ?_
    injection hx730 with hx730
    exact WL.to K false [2, 3, 10] rfl ⟨⟨(hS722.subR [0, 1]).sub [1, 0] (by decide), hx730.symm⟩, trivial⟩
  rintro y737 w739 ⟨⟨hS740, hq738⟩, hF741⟩
  subst hq738
  refine seg 7 [] [2, 3, 11] [(2, (.pointer (some ⟨g522, 0, none⟩))), (3, (.pointer (some ⟨g526, 0, none⟩))), (11, (.bool x729))] [] (fun fb => by kernel_rfl) rfl trivial ?_
  obtain ⟨x792, hx793, hf⟩ := bind_some hf
  refine WL.cutW (T := Bool) 13 (fun t => [(17, (.bool t))]) (fun t w1 => (St NoS w w1 [rowR enc_Tile A_p0 c_p0 p0, rowR encInt A_p1_Cells c_p1_Cells p1.Cells] [] ∧ x792 = t) ∧ CellsOK [] w1) (fun K => ?_) ?_
  ·
    rcases br_some hx793 with ⟨h794, hx793⟩ | ⟨h794, hx793⟩
    ·
      refine WL.setB 11 h794 rfl ?_
      refine seg 10 [.v (.slice A_p1_Cells p1.Cells.length c_p1_Cells)] [11, 13, 14] [(11, (.bool true)), (13, (.slice A_p1_Cells p1.Cells.length c_p1_Cells)), (14, (.func (.func 17) #[] #[(.pointer (some ⟨g522, 0, none⟩))]))] [.cell ⟨g526, 2, none⟩ (.slice A_p1_Cells p1.Cells.length c_p1_Cells)] (fun fb => by kernel_rfl) rfl ⟨hS740.cell 1 rfl 2 rfl, trivial⟩ ?_
      obtain ⟨t795, ht796, hx793⟩ := bind_some hx793
      refine WL.call (some 15) 16 #[(.slice A_p1_Cells p1.Cells.length c_p1_Cells), (.func (.func 17) #[] #[(.pointer (some ⟨g522, 0, none⟩))])] (fun fb => by kernel_rfl) (slices_ContainsFunc_int_int_with_tile_of_1_calls _ p1.Cells p0 A_p1_Cells c_p1_Cells g522 A_p0 c_p0 t795 _ (hS740.rd 1) (hS740.ow 0) (hS740.rd 0) ht796) (fun v w797 hR798 => ?_)
      obtain ⟨rfl, hk_⟩ := hR798
      have hS799 := hS740.keepN hk_
      refine ⟨trivial, ?_⟩
      refine seg 13 [] [17] [(17, (.bool (!t795)))] [] (fun fb => by kernel_rfl) rfl trivial ?_
      injection hx793 with hx793
      exact WL.to K (!t795) [17] rfl ⟨⟨(hS799.subR [0, 1]).sub [] (by decide), hx793.symm⟩, trivial⟩
    refine WL.setB 11 h794 rfl ?_
    refine seg 13 [] [17] [(17, (.bool false))] [] (fun fb => by kernel_rfl) rfl trivial ?_
    injection hx793 with hx793
    exact WL.to K false [17] rfl ⟨⟨(hS740.subR [0, 1]).sub [] (by decide), hx793.symm⟩, trivial⟩
  rintro y800 w802 ⟨⟨hS803, hq801⟩, hF804⟩
  subst hq801
  refine seg 14 [] [4] [(4, (.bool x792))] [] (fun fb => by kernel_rfl) rfl trivial ?_
  refine WL.done rfl ?_
  refine WX.next ?_
  refine WC.ret ?_
  injection hf with hf
  subst hf
  exact WX.ret_ [] (.bool x792) [] (fun fb => by kernel_rfl) trivial ⟨_, rfl, rfl, hS803.keep⟩
theorem tile_joins_calls (k : Nat) (p0 : List Tile) (p1 : Pattern) (p2 : Bool) (A_p0 : Option Addr) (c_p0 : Nat) (A_p1_Cells : Option Addr) (c_p1_Cells : Nat) (r : Bool) (w : World) (hR0 : RO NoS w (rowR enc_Tile A_p0 c_p0 p0)) (hR1 : RO NoS w (rowR encInt A_p1_Cells c_p1_Cells p1.Cells)) (hf : tile_joins k p0 p1 p2 = some r) :
    CallsR Try.prog 13 #[(.slice A_p0 p0.length c_p0), (.agg #[(.int .i64 p1.Width), (.int .i64 p1.Height), (.slice A_p1_Cells p1.Cells.length c_p1_Cells)]), (.bool p2)] w (fun v w' => v = (.bool r) ∧ Keeps NoS w w') := by
  have hS : St NoS w w [rowR enc_Tile A_p0 c_p0 p0, rowR encInt A_p1_Cells c_p1_Cells p1.Cells] [] := St.init (ro_cons hR0 (ro_cons hR1 (ro_nil _ _)))
  refine enter 92 Try.func13 rfl Try.ntmps13 rfl ?_
  unfold tile_joins at hf
  refine WC.seq ?_
  refine WC.region ?_
  refine WL.new hS 4 [] (fun g => (.pointer (some ⟨g, 0, none⟩))) (.cells #[(.int .i64 p1.Width), (.int .i64 p1.Height), (.slice A_p1_Cells p1.Cells.length c_p1_Cells)] 25 (0, 0)) [] (fun fb g => by kernel_rfl) trivial (fun g810 w811 hS812 => ?_)
  refine ⟨trivial, ?_⟩
  refine seg 2 [] [0, 2, 4] [(0, (.slice A_p0 p0.length c_p0)), (2, (.bool p2)), (4, (.pointer (some ⟨g810, 0, none⟩)))] [] (fun fb => by kernel_rfl) rfl trivial ?_
  refine WL.done rfl ?_
  refine WX.next ?_
  refine WC.seq ?_
  refine WC.seq ?_
  refine WC.region ?_
  refine seg 4 [.v (.slice A_p1_Cells p1.Cells.length c_p1_Cells)] [0, 2, 4, 12, 13, 14] [(0, (.slice A_p0 p0.length c_p0)), (2, (.bool p2)), (4, (.pointer (some ⟨g810, 0, none⟩))), (12, (.slice A_p1_Cells p1.Cells.length c_p1_Cells)), (13, (.int .i64 (p1.Cells.length : Int))), (14, (.int .i64 0))] [.cell ⟨g810, 2, none⟩ (.slice A_p1_Cells p1.Cells.length c_p1_Cells)] (fun fb => by kernel_rfl) rfl ⟨hS812.cell 0 rfl 2 rfl, trivial⟩ ?_
  refine WL.done rfl ?_
  refine WX.next ?_
  obtain ⟨x982, hx983, hf⟩ := bind_some hf
  refine WC.cutN (T := Unit) (fun t => []) (fun t w1 => St NoS w w1 [rowR enc_Tile A_p0 c_p0 p0, rowR encInt A_p1_Cells c_p1_Cells p1.Cells] [] ∧ x982 = .inr t) (fun Kx982 => ?_) ?_
  ·
    refine WC.block ?_
    refine WC.loop (T := Int) (fun t => [(0, (.slice A_p0 p0.length c_p0)), (2, (.bool p2)), (4, (.pointer (some ⟨g810, 0, none⟩))), (12, (.slice A_p1_Cells p1.Cells.length c_p1_Cells)), (13, (.int .i64 (p1.Cells.length : Int))), (14, (.int .i64 t))]) (fun n t w1 => St NoS w w1 [rowR enc_Tile A_p0 c_p0 p0, rowR encInt A_p1_Cells c_p1_Cells p1.Cells] [blk g810 (.cells #[(.int .i64 p1.Width), (.int .i64 p1.Height), (.slice A_p1_Cells p1.Cells.length c_p1_Cells)] 25 (0, 0))] ∧ tile_joins.l0 n t p0 p1 p2 = some x982) k 0 [0, 2, 4, 12, 13, 14] rfl ⟨(hS812.subR [0, 1]).sub [0] (by decide), hx983⟩ ?_
    rintro k984 x981 w985 ⟨hS986, hl987⟩
    cases k984 with
    | zero => rw [tile_joins.l0] at hl987; cases hl987
    | succ k984 =>
      rw [tile_joins.l0] at hl987
      refine WC.seq ?_
      refine WC.region ?_
      refine seg 1 [] [0, 2, 4, 12, 13, 14, 15] [(0, (.slice A_p0 p0.length c_p0)), (2, (.bool p2)), (4, (.pointer (some ⟨g810, 0, none⟩))), (12, (.slice A_p1_Cells p1.Cells.length c_p1_Cells)), (13, (.int .i64 (p1.Cells.length : Int))), (14, (.int .i64 x981)), (15, (.bool (decide (x981 < (p1.Cells.length : Int)))))] [] (fun fb => by kernel_rfl) rfl trivial ?_
      refine WL.done rfl ?_
      refine WX.next ?_
      refine WC.seq ?_
      rcases br_some hl987 with ⟨h988, hl987⟩ | ⟨h988, hl987⟩
      · refine WC.condT2 (fun fb => by kernel_rfl) h988 ?_
        refine WC.skip ?_
        refine WX.next ?_
        refine WC.seq ?_
        refine WC.block ?_
        refine WC.seq ?_
        refine WC.region ?_
        refine seg 1 [] [0, 2, 4, 12, 13, 14, 16] [(0, (.slice A_p0 p0.length c_p0)), (2, (.bool p2)), (4, (.pointer (some ⟨g810, 0, none⟩))), (12, (.slice A_p1_Cells p1.Cells.length c_p1_Cells)), (13, (.int .i64 (p1.Cells.length : Int))), (14, (.int .i64 x981)), (16, (.int .i64 x981))] [] (fun fb => by kernel_rfl) rfl trivial ?_
        obtain ⟨h989, hl987⟩ := as_some hl987
        refine seg 5 [.v (.int .i64 (rdD p1.Cells x981 0))] [0, 2, 4, 7, 8, 12, 13, 14] [(0, (.slice A_p0 p0.length c_p0)), (2, (.bool p2)), (4, (.pointer (some ⟨g810, 0, none⟩))), (7, (.int .i64 x981)), (8, (.int .i64 (rdD p1.Cells x981 0))), (12, (.slice A_p1_Cells p1.Cells.length c_p1_Cells)), (13, (.int .i64 (p1.Cells.length : Int))), (14, (.int .i64 x981))] [.idx A_p1_Cells x981 p1.Cells.length, .cell ((adr A_p1_Cells).add ((x981).toNat * 1)) (.int .i64 (rdD p1.Cells x981 0))] (fun fb => by kernel_rfl) rfl ⟨rowR.adr (hS986.rd 1).1 h989.1 h989.2, rowR.cell (hS986.rd 1).1 0 h989.1 h989.2 0 rfl, trivial⟩ ?_
        refine WL.done rfl ?_
        refine WX.next ?_
        refine WC.seq ?_
        obtain ⟨h994, hl987⟩ := as_some hl987
        refine WC.regionD ([(2, ⟨g810, 0, none⟩, (.int .i64 p1.Width)), (6, ⟨g810, 0, none⟩, (.int .i64 p1.Width))], [0, 1, 2, 3, 4, 5, 6, 7, 8, 9], [[], [], [1], [0, 1, 2], [], [], [5], [4, 5, 6], [0, 1, 2, 3], [0, 1, 2, 3, 4, 5, 6, 7, 8]]) [[0, 1, 2, 3, 4, 5, 6, 7, 8, 9]] (by kernel_rfl) (by kernel_rfl) (NoPanic.seq (NoPanic.block (NoPanic.seq (NoPanic.seq (NoPanic.block (NoPanic.seq (NoPanic.body))))))) ?_
        have hS992 := hS986.drew
        revert hS992
        generalize World.drew w985 = w991
        intro hS992
        refine ⟨⟨hS992.cell 0 rfl 0 rfl, hS992.cell 0 rfl 0 rfl, trivial⟩, forallC ?_ (forallN)⟩
        refine segF 10 [.v (.int .i64 p1.Width), .v (.int .i64 p1.Width)] [0, 2, 4, 8, 9, 10, 12, 13, 14] [(0, (.slice A_p0 p0.length c_p0)), (2, (.bool p2)), (4, (.pointer (some ⟨g810, 0, none⟩))), (8, (.int .i64 (rdD p1.Cells x981 0))), (9, (.int .i64 (Int.tmod x981 p1.Width))), (10, (.int .i64 (w64 (Int.tdiv x981 p1.Width)))), (12, (.slice A_p1_Cells p1.Cells.length c_p1_Cells)), (13, (.int .i64 (p1.Cells.length : Int))), (14, (.int .i64 x981))] [.ne p1.Width, .ne p1.Width] [0, 1] [(2, ⟨g810, 0, none⟩, (.int .i64 p1.Width)), (6, ⟨g810, 0, none⟩, (.int .i64 p1.Width))] (fun fb => by kernel_rfl) rfl ⟨h994, h994, trivial⟩ rfl ?_
        refine WL.done rfl ?_
        refine WX.next ?_
        refine WC.seq ?_
        refine WC.seq ?_
        refine WC.region ?_
        refine seg 6 [.v (.int .i64 p1.Width)] [0, 2, 4, 8, 9, 10, 12, 13, 14, 32] [(0, (.slice A_p0 p0.length c_p0)), (2, (.bool p2)), (4, (.pointer (some ⟨g810, 0, none⟩))), (8, (.int .i64 (rdD p1.Cells x981 0))), (9, (.int .i64 (Int.tmod x981 p1.Width))), (10, (.int .i64 (w64 (Int.tdiv x981 p1.Width)))), (12, (.slice A_p1_Cells p1.Cells.length c_p1_Cells)), (13, (.int .i64 (p1.Cells.length : Int))), (14, (.int .i64 x981)), (32, (.bool (decide (w64 ((Int.tmod x981 p1.Width) + 1) < p1.Width))))] [.cell ⟨g810, 0, none⟩ (.int .i64 p1.Width)] (fun fb => by kernel_rfl) rfl ⟨hS992.cell 0 rfl 0 rfl, trivial⟩ ?_
        refine WL.cutV (T := Bool) 8 (fun t => [(34, (.bool t)), (0, (.slice A_p0 p0.length c_p0)), (2, (.bool p2)), (4, (.pointer (some ⟨g810, 0, none⟩))), (8, (.int .i64 (rdD p1.Cells x981 0))), (9, (.int .i64 (Int.tmod x981 p1.Width))), (10, (.int .i64 (w64 (Int.tdiv x981 p1.Width)))), (12, (.slice A_p1_Cells p1.Cells.length c_p1_Cells)), (13, (.int .i64 (p1.Cells.length : Int))), (14, (.int .i64 x981))]) (fun t => t = ((decide (w64 ((Int.tmod x981 p1.Width) + 1) < p1.Width)) || p2)) (fun K => ?_) ?_
        ·
          rcases Bool.eq_false_or_eq_true (decide (w64 ((Int.tmod x981 p1.Width) + 1) < p1.Width)) with h995 | h995
          ·
            refine WL.setB 32 h995 rfl ?_
            refine seg 8 [] [0, 2, 4, 8, 9, 10, 12, 13, 14, 34] [(0, (.slice A_p0 p0.length c_p0)), (2, (.bool p2)), (4, (.pointer (some ⟨g810, 0, none⟩))), (8, (.int .i64 (rdD p1.Cells x981 0))), (9, (.int .i64 (Int.tmod x981 p1.Width))), (10, (.int .i64 (w64 (Int.tdiv x981 p1.Width)))), (12, (.slice A_p1_Cells p1.Cells.length c_p1_Cells)), (13, (.int .i64 (p1.Cells.length : Int))), (14, (.int .i64 x981)), (34, (.bool true))] [] (fun fb => by kernel_rfl) rfl trivial ?_
            exact WL.toV K true [34, 0, 2, 4, 8, 9, 10, 12, 13, 14] rfl (by rw [h995]; rfl)
          refine WL.setB 32 h995 rfl ?_
          refine seg 8 [] [0, 2, 4, 8, 9, 10, 12, 13, 14, 34] [(0, (.slice A_p0 p0.length c_p0)), (2, (.bool p2)), (4, (.pointer (some ⟨g810, 0, none⟩))), (8, (.int .i64 (rdD p1.Cells x981 0))), (9, (.int .i64 (Int.tmod x981 p1.Width))), (10, (.int .i64 (w64 (Int.tdiv x981 p1.Width)))), (12, (.slice A_p1_Cells p1.Cells.length c_p1_Cells)), (13, (.int .i64 (p1.Cells.length : Int))), (14, (.int .i64 x981)), (34, (.bool p2))] [] (fun fb => by kernel_rfl) rfl trivial ?_
          exact WL.toV K p2 [34, 0, 2, 4, 8, 9, 10, 12, 13, 14] rfl (by rw [h995]; rfl)
        rintro b996 rfl
        refine WL.done rfl ?_
        refine WX.next ?_
        obtain ⟨x1010, hx1011, hl987⟩ := bind_some hl987
        refine WC.cutN (T := Unit) (fun t => [(0, (.slice A_p0 p0.length c_p0)), (2, (.bool p2)), (4, (.pointer (some ⟨g810, 0, none⟩))), (8, (.int .i64 (rdD p1.Cells x981 0))), (9, (.int .i64 (Int.tmod x981 p1.Width))), (10, (.int .i64 (w64 (Int.tdiv x981 p1.Width)))), (12, (.slice A_p1_Cells p1.Cells.length c_p1_Cells)), (13, (.int .i64 (p1.Cells.length : Int))), (14, (.int .i64 x981))]) (fun t w1 => St NoS w w1 [rowR enc_Tile A_p0 c_p0 p0, rowR encInt A_p1_Cells c_p1_Cells p1.Cells] [blk g810 (.cells #[(.int .i64 p1.Width), (.int .i64 p1.Height), (.slice A_p1_Cells p1.Cells.length c_p1_Cells)] 25 (0, 0))] ∧ x1010 = .inr t) (fun Kx1010 => ?_) ?_
        ·
          rcases br_some hx1011 with ⟨h1012, hx1011⟩ | ⟨h1012, hx1011⟩
          · refine WC.condT2 (fun fb => by kernel_rfl) h1012 ?_
            refine WC.seq ?_
            obtain ⟨h1021, hx1011⟩ := as_some hx1011
            obtain ⟨h1022, hx1011⟩ := as_some hx1011
            obtain ⟨h1023, hx1011⟩ := as_some hx1011
            refine WC.regionD ([(4, (((adr A_p0).add (((rdD p1.Cells x981 0)).toNat * 4)).add 1), (.int .i64 ((rdD p0 (rdD p1.Cells x981 0) z_Tile).E))), (7, ⟨g810, 2, none⟩, (.slice A_p1_Cells p1.Cells.length c_p1_Cells)), (10, ⟨g810, 0, none⟩, (.int .i64 p1.Width)), (15, ⟨g810, 0, none⟩, (.int .i64 p1.Width)), (19, ((adr A_p1_Cells).add ((w64 ((w64 ((w64 (Int.tdiv x981 p1.Width)) * p1.Width)) + (Int.tmod (w64 ((Int.tmod x981 p1.Width) + 1)) p1.Width))).toNat * 1)), (.int .i64 (rdD p1.Cells (w64 ((w64 ((w64 (Int.tdiv x981 p1.Width)) * p1.Width)) + (Int.tmod (w64 ((Int.tmod x981 p1.Width) + 1)) p1.Width))) 0))), (22, (((adr A_p0).add (((rdD p1.Cells (w64 ((w64 ((w64 (Int.tdiv x981 p1.Width)) * p1.Width)) + (Int.tmod (w64 ((Int.tmod x981 p1.Width) + 1)) p1.Width))) 0)).toNat * 4)).add 3), (.int .i64 ((rdD p0 (rdD p1.Cells (w64 ((w64 ((w64 (Int.tdiv x981 p1.Width)) * p1.Width)) + (Int.tmod (w64 ((Int.tmod x981 p1.Width) + 1)) p1.Width))) 0) z_Tile).W)))], [0, 1, 2, 3, 4, 5, 6, 7, 8, 9, 10, 11, 12, 13, 14, 15, 16, 17, 18, 19, 20, 21, 22, 23], [[], [], [0, 1], [0, 1, 2], [0, 1, 2, 3], [], [], [6], [], [], [9], [8, 9, 10], [], [12], [], [14], [12, 13, 14, 15], [8, 9, 10, 11, 12, 13, 14, 15, 16], [6, 7, 8, 9, 10, 11, 12, 13, 14, 15, 16, 17], [6, 7, 8, 9, 10, 11, 12, 13, 14, 15, 16, 17, 18], [5, 6, 7, 8, 9, 10, 11, 12, 13, 14, 15, 16, 17, 18, 19], [5, 6, 7, 8, 9, 10, 11, 12, 13, 14, 15, 16, 17, 18, 19, 20], [5, 6, 7, 8, 9, 10, 11, 12, 13, 14, 15, 16, 17, 18, 19, 20, 21], [0, 1, 2, 3, 4, 5, 6, 7, 8, 9, 10, 11, 12, 13, 14, 15, 16, 17, 18, 19, 20, 21, 22]]) [[0, 1, 2, 3, 4, 5, 6, 7, 8, 9, 10, 11, 12, 13, 14, 15, 16, 17, 18, 19, 20, 21, 22, 23]] (by kernel_rfl) (by kernel_rfl) (NoPanic.seq (NoPanic.seq (NoPanic.block (NoPanic.seq (NoPanic.seq (NoPanic.block (NoPanic.seq (NoPanic.body)))))))) ?_
            have hS1017 := hS992.drew
            revert hS1017
            generalize World.drew w991 = w1016
            intro hS1017
            refine ⟨⟨rowR.cell (hS1017.rd 0).1 z_Tile h1021.1 h1021.2 1 rfl, hS1017.cell 0 rfl 2 rfl, hS1017.cell 0 rfl 0 rfl, hS1017.cell 0 rfl 0 rfl, rowR.cell (hS1017.rd 1).1 0 h1022.1 h1022.2 0 rfl, rowR.cell (hS1017.rd 0).1 z_Tile h1023.1 h1023.2 3 rfl, trivial⟩, forallC ?_ (forallN)⟩
            refine segF 24 [.v (.int .i64 ((rdD p0 (rdD p1.Cells x981 0) z_Tile).E)), .v (.slice A_p1_Cells p1.Cells.length c_p1_Cells), .v (.int .i64 p1.Width), .v (.int .i64 p1.Width), .v (.int .i64 (rdD p1.Cells (w64 ((w64 ((w64 (Int.tdiv x981 p1.Width)) * p1.Width)) + (Int.tmod (w64 ((Int.tmod x981 p1.Width) + 1)) p1.Width))) 0)), .v (.int .i64 ((rdD p0 (rdD p1.Cells (w64 ((w64 ((w64 (Int.tdiv x981 p1.Width)) * p1.Width)) + (Int.tmod (w64 ((Int.tmod x981 p1.Width) + 1)) p1.Width))) 0) z_Tile).W))] [0, 2, 4, 8, 9, 10, 12, 13, 14, 58] [(0, (.slice A_p0 p0.length c_p0)), (2, (.bool p2)), (4, (.pointer (some ⟨g810, 0, none⟩))), (8, (.int .i64 (rdD p1.Cells x981 0))), (9, (.int .i64 (Int.tmod x981 p1.Width))), (10, (.int .i64 (w64 (Int.tdiv x981 p1.Width)))), (12, (.slice A_p1_Cells p1.Cells.length c_p1_Cells)), (13, (.int .i64 (p1.Cells.length : Int))), (14, (.int .i64 x981)), (58, (.bool (((rdD p0 (rdD p1.Cells x981 0) z_Tile).E) != ((rdD p0 (rdD p1.Cells (w64 ((w64 ((w64 (Int.tdiv x981 p1.Width)) * p1.Width)) + (Int.tmod (w64 ((Int.tmod x981 p1.Width) + 1)) p1.Width))) 0) z_Tile).W))))] [.idx A_p0 (rdD p1.Cells x981 0) p0.length, .ne p1.Width, .idx A_p1_Cells (w64 ((w64 ((w64 (Int.tdiv x981 p1.Width)) * p1.Width)) + (Int.tmod (w64 ((Int.tmod x981 p1.Width) + 1)) p1.Width))) p1.Cells.length, .idx A_p0 (rdD p1.Cells (w64 ((w64 ((w64 (Int.tdiv x981 p1.Width)) * p1.Width)) + (Int.tmod (w64 ((Int.tmod x981 p1.Width) + 1)) p1.Width))) 0) p0.length] [0, 1, 2, 3, 4, 5] [(4, (((adr A_p0).add (((rdD p1.Cells x981 0)).toNat * 4)).add 1), (.int .i64 ((rdD p0 (rdD p1.Cells x981 0) z_Tile).E))), (7, ⟨g810, 2, none⟩, (.slice A_p1_Cells p1.Cells.length c_p1_Cells)), (10, ⟨g810, 0, none⟩, (.int .i64 p1.Width)), (15, ⟨g810, 0, none⟩, (.int .i64 p1.Width)), (19, ((adr A_p1_Cells).add ((w64 ((w64 ((w64 (Int.tdiv x981 p1.Width)) * p1.Width)) + (Int.tmod (w64 ((Int.tmod x981 p1.Width) + 1)) p1.Width))).toNat * 1)), (.int .i64 (rdD p1.Cells (w64 ((w64 ((w64 (Int.tdiv x981 p1.Width)) * p1.Width)) + (Int.tmod (w64 ((Int.tmod x981 p1.Width) + 1)) p1.Width))) 0))), (22, (((adr A_p0).add (((rdD p1.Cells (w64 ((w64 ((w64 (Int.tdiv x981 p1.Width)) * p1.Width)) + (Int.tmod (w64 ((Int.tmod x981 p1.Width) + 1)) p1.Width))) 0)).toNat * 4)).add 3), (.int .i64 ((rdD p0 (rdD p1.Cells (w64 ((w64 ((w64 (Int.tdiv x981 p1.Width)) * p1.Width)) + (Int.tmod (w64 ((Int.tmod x981 p1.Width) + 1)) p1.Width))) 0) z_Tile).W)))] (fun fb => by kernel_rfl) rfl ⟨rowR.adr (hS1017.rd 0).1 h1021.1 h1021.2, h994, rowR.adr (hS1017.rd 1).1 h1022.1 h1022.2, rowR.adr (hS1017.rd 0).1 h1023.1 h1023.2, trivial⟩ rfl ?_
            refine WL.done rfl ?_
            refine WX.next ?_
            rcases br_some hx1011 with ⟨h1024, hx1011⟩ | ⟨h1024, hx1011⟩
            · refine WC.condT2 (fun fb => by kernel_rfl) h1024 ?_
              refine WC.seq ?_
              refine WC.region ?_
              refine seg 1 [] [6] [(6, (.bool false))] [] (fun fb => by kernel_rfl) rfl trivial ?_
              refine WL.done rfl ?_
              refine WX.next ?_
              refine WC.ret ?_
              injection hx1011 with hx1011
              subst hx1011
              injection hl987 with hl987
              subst hl987
              injection hf with hf
              subst hf
              exact WX.thenR (WX.blockR (WX.thenR (WX.thenR (WX.blockR (WX.thenR (WX.ret_ [] (.bool false) [] (fun fb => by kernel_rfl) trivial ⟨_, rfl, rfl, hS1017.keep⟩))))))
            refine WC.condF2 (fun fb => by kernel_rfl) h1024 ?_
            refine WC.skip ?_
            injection hx1011 with hx1011
            exact WX.to Kx1010 () [0, 2, 4, 8, 9, 10, 12, 13, 14] rfl ⟨(hS1017.subR [0, 1]).sub [0] (by decide), hx1011.symm⟩
          refine WC.condF2 (fun fb => by kernel_rfl) h1012 ?_
          refine WC.skip ?_
          injection hx1011 with hx1011
          exact WX.to Kx1010 () [0, 2, 4, 8, 9, 10, 12, 13, 14] rfl ⟨(hS992.subR [0, 1]).sub [0] (by decide), hx1011.symm⟩
        rintro y1028 w1025 ⟨hS1026, hq1027⟩
        subst hq1027
        have hl987 := sum_inr hl987
        refine WX.next ?_
        refine WC.seq ?_
        refine WC.region ?_
        refine seg 6 [.v (.int .i64 p1.Height)] [0, 2, 4, 8, 9, 10, 12, 13, 14, 64] [(0, (.slice A_p0 p0.length c_p0)), (2, (.bool p2)), (4, (.pointer (some ⟨g810, 0, none⟩))), (8, (.int .i64 (rdD p1.Cells x981 0))), (9, (.int .i64 (Int.tmod x981 p1.Width))), (10, (.int .i64 (w64 (Int.tdiv x981 p1.Width)))), (12, (.slice A_p1_Cells p1.Cells.length c_p1_Cells)), (13, (.int .i64 (p1.Cells.length : Int))), (14, (.int .i64 x981)), (64, (.bool (decide (w64 ((w64 (Int.tdiv x981 p1.Width)) + 1) < p1.Height))))] [.cell ⟨g810, 1, none⟩ (.int .i64 p1.Height)] (fun fb => by kernel_rfl) rfl ⟨hS1026.cell 0 rfl 1 rfl, trivial⟩ ?_
        refine WL.cutV (T := Bool) 8 (fun t => [(66, (.bool t)), (0, (.slice A_p0 p0.length c_p0)), (2, (.bool p2)), (4, (.pointer (some ⟨g810, 0, none⟩))), (8, (.int .i64 (rdD p1.Cells x981 0))), (9, (.int .i64 (Int.tmod x981 p1.Width))), (10, (.int .i64 (w64 (Int.tdiv x981 p1.Width)))), (12, (.slice A_p1_Cells p1.Cells.length c_p1_Cells)), (13, (.int .i64 (p1.Cells.length : Int))), (14, (.int .i64 x981))]) (fun t => t = ((decide (w64 ((w64 (Int.tdiv x981 p1.Width)) + 1) < p1.Height)) || p2)) (fun K => ?_) ?_
        ·
          rcases Bool.eq_false_or_eq_true (decide (w64 ((w64 (Int.tdiv x981 p1.Width)) + 1) < p1.Height)) with h1030 | h1030
          ·
            refine WL.setB 64 h1030 rfl ?_
            refine seg 8 [] [0, 2, 4, 8, 9, 10, 12, 13, 14, 66] [(0, (.slice A_p0 p0.length c_p0)), (2, (.bool p2)), (4, (.pointer (some ⟨g810, 0, none⟩))), (8, (.int .i64 (rdD p1.Cells x981 0))), (9, (.int .i64 (Int.tmod x981 p1.Width))), (10, (.int .i64 (w64 (Int.tdiv x981 p1.Width)))), (12, (.slice A_p1_Cells p1.Cells.length c_p1_Cells)), (13, (.int .i64 (p1.Cells.length : Int))), (14, (.int .i64 x981)), (66, (.bool true))] [] (fun fb => by kernel_rfl) rfl trivial ?_
            exact WL.toV K true [66, 0, 2, 4, 8, 9, 10, 12, 13, 14] rfl (by rw [h1030]; rfl)
          refine WL.setB 64 h1030 rfl ?_
          refine seg 8 [] [0, 2, 4, 8, 9, 10, 12, 13, 14, 66] [(0, (.slice A_p0 p0.length c_p0)), (2, (.bool p2)), (4, (.pointer (some ⟨g810, 0, none⟩))), (8, (.int .i64 (rdD p1.Cells x981 0))), (9, (.int .i64 (Int.tmod x981 p1.Width))), (10, (.int .i64 (w64 (Int.tdiv x981 p1.Width)))), (12, (.slice A_p1_Cells p1.Cells.length c_p1_Cells)), (13, (.int .i64 (p1.Cells.length : Int))), (14, (.int .i64 x981)), (66, (.bool p2))] [] (fun fb => by kernel_rfl) rfl trivial ?_
          exact WL.toV K p2 [66, 0, 2, 4, 8, 9, 10, 12, 13, 14] rfl (by rw [h1030]; rfl)
        rintro b1031 rfl
        refine WL.done rfl ?_
        refine WX.next ?_
        obtain ⟨x1048, hx1049, hl987⟩ := bind_some hl987
        refine WC.cutN (T := Unit) (fun t => [(0, (.slice A_p0 p0.length c_p0)), (2, (.bool p2)), (4, (.pointer (some ⟨g810, 0, none⟩))), (12, (.slice A_p1_Cells p1.Cells.length c_p1_Cells)), (13, (.int .i64 (p1.Cells.length : Int))), (14, (.int .i64 x981))]) (fun t w1 => St NoS w w1 [rowR enc_Tile A_p0 c_p0 p0, rowR encInt A_p1_Cells c_p1_Cells p1.Cells] [blk g810 (.cells #[(.int .i64 p1.Width), (.int .i64 p1.Height), (.slice A_p1_Cells p1.Cells.length c_p1_Cells)] 25 (0, 0))] ∧ x1048 = .inr t) (fun Kx1048 => ?_) ?_
        ·
          rcases br_some hx1049 with ⟨h1050, hx1049⟩ | ⟨h1050, hx1049⟩
          · refine WC.condT2 (fun fb => by kernel_rfl) h1050 ?_
            refine WC.seq ?_
            obtain ⟨h1061, hx1049⟩ := as_some hx1049
            obtain ⟨h1062, hx1049⟩ := as_some hx1049
            obtain ⟨h1063, hx1049⟩ := as_some hx1049
            obtain ⟨h1064, hx1049⟩ := as_some hx1049
            refine WC.regionD ([(4, ((adr A_p0).add (((rdD p1.Cells x981 0)).toNat * 4)), (.int .i64 ((rdD p0 (rdD p1.Cells x981 0) z_Tile).N))), (7, ⟨g810, 2, none⟩, (.slice A_p1_Cells p1.Cells.length c_p1_Cells)), (11, ⟨g810, 1, none⟩, (.int .i64 p1.Height)), (14, ⟨g810, 0, none⟩, (.int .i64 p1.Width)), (19, ((adr A_p1_Cells).add ((w64 ((w64 ((Int.tmod (w64 ((w64 (Int.tdiv x981 p1.Width)) + 1)) p1.Height) * p1.Width)) + (Int.tmod x981 p1.Width))).toNat * 1)), (.int .i64 (rdD p1.Cells (w64 ((w64 ((Int.tmod (w64 ((w64 (Int.tdiv x981 p1.Width)) + 1)) p1.Height) * p1.Width)) + (Int.tmod x981 p1.Width))) 0))), (22, (((adr A_p0).add (((rdD p1.Cells (w64 ((w64 ((Int.tmod (w64 ((w64 (Int.tdiv x981 p1.Width)) + 1)) p1.Height) * p1.Width)) + (Int.tmod x981 p1.Width))) 0)).toNat * 4)).add 2), (.int .i64 ((rdD p0 (rdD p1.Cells (w64 ((w64 ((Int.tmod (w64 ((w64 (Int.tdiv x981 p1.Width)) + 1)) p1.Height) * p1.Width)) + (Int.tmod x981 p1.Width))) 0) z_Tile).S)))], [0, 1, 2, 3, 4, 5, 6, 7, 8, 9, 10, 11, 12, 13, 14, 15, 16, 17, 18, 19, 20, 21, 22, 23], [[], [], [0, 1], [0, 1, 2], [0, 1, 2, 3], [], [], [6], [], [8], [], [10], [8, 9, 10, 11], [], [13], [8, 9, 10, 11, 12, 13, 14], [], [8, 9, 10, 11, 12, 13, 14, 15, 16], [6, 7, 8, 9, 10, 11, 12, 13, 14, 15, 16, 17], [6, 7, 8, 9, 10, 11, 12, 13, 14, 15, 16, 17, 18], [5, 6, 7, 8, 9, 10, 11, 12, 13, 14, 15, 16, 17, 18, 19], [5, 6, 7, 8, 9, 10, 11, 12, 13, 14, 15, 16, 17, 18, 19, 20], [5, 6, 7, 8, 9, 10, 11, 12, 13, 14, 15, 16, 17, 18, 19, 20, 21], [0, 1, 2, 3, 4, 5, 6, 7, 8, 9, 10, 11, 12, 13, 14, 15, 16, 17, 18, 19, 20, 21, 22]]) [[0, 1, 2, 3, 4, 5, 6, 7, 8, 9, 10, 11, 12, 13, 14, 15, 16, 17, 18, 19, 20, 21, 22, 23]] (by kernel_rfl) (by kernel_rfl) (NoPanic.seq (NoPanic.block (NoPanic.seq (NoPanic.seq (NoPanic.block (NoPanic.seq (NoPanic.body))))))) ?_
            have hS1056 := hS1026.drew
            revert hS1056
            generalize World.drew w1025 = w1055
            intro hS1056
            refine ⟨⟨rowR.cell (hS1056.rd 0).1 z_Tile h1061.1 h1061.2 0 rfl, hS1056.cell 0 rfl 2 rfl, hS1056.cell 0 rfl 1 rfl, hS1056.cell 0 rfl 0 rfl, rowR.cell (hS1056.rd 1).1 0 h1063.1 h1063.2 0 rfl, rowR.cell (hS1056.rd 0).1 z_Tile h1064.1 h1064.2 2 rfl, trivial⟩, forallC ?_ (forallN)⟩
            refine segF 24 [.v (.int .i64 ((rdD p0 (rdD p1.Cells x981 0) z_Tile).N)), .v (.slice A_p1_Cells p1.Cells.length c_p1_Cells), .v (.int .i64 p1.Height), .v (.int .i64 p1.Width), .v (.int .i64 (rdD p1.Cells (w64 ((w64 ((Int.tmod (w64 ((w64 (Int.tdiv x981 p1.Width)) + 1)) p1.Height) * p1.Width)) + (Int.tmod x981 p1.Width))) 0)), .v (.int .i64 ((rdD p0 (rdD p1.Cells (w64 ((w64 ((Int.tmod (w64 ((w64 (Int.tdiv x981 p1.Width)) + 1)) p1.Height) * p1.Width)) + (Int.tmod x981 p1.Width))) 0) z_Tile).S))] [0, 2, 4, 12, 13, 14, 90] [(0, (.slice A_p0 p0.length c_p0)), (2, (.bool p2)), (4, (.pointer (some ⟨g810, 0, none⟩))), (12, (.slice A_p1_Cells p1.Cells.length c_p1_Cells)), (13, (.int .i64 (p1.Cells.length : Int))), (14, (.int .i64 x981)), (90, (.bool (((rdD p0 (rdD p1.Cells x981 0) z_Tile).N) != ((rdD p0 (rdD p1.Cells (w64 ((w64 ((Int.tmod (w64 ((w64 (Int.tdiv x981 p1.Width)) + 1)) p1.Height) * p1.Width)) + (Int.tmod x981 p1.Width))) 0) z_Tile).S))))] [.idx A_p0 (rdD p1.Cells x981 0) p0.length, .ne p1.Height, .idx A_p1_Cells (w64 ((w64 ((Int.tmod (w64 ((w64 (Int.tdiv x981 p1.Width)) + 1)) p1.Height) * p1.Width)) + (Int.tmod x981 p1.Width))) p1.Cells.length, .idx A_p0 (rdD p1.Cells (w64 ((w64 ((Int.tmod (w64 ((w64 (Int.tdiv x981 p1.Width)) + 1)) p1.Height) * p1.Width)) + (Int.tmod x981 p1.Width))) 0) p0.length] [0, 1, 2, 3, 4, 5] [(4, ((adr A_p0).add (((rdD p1.Cells x981 0)).toNat * 4)), (.int .i64 ((rdD p0 (rdD p1.Cells x981 0) z_Tile).N))), (7, ⟨g810, 2, none⟩, (.slice A_p1_Cells p1.Cells.length c_p1_Cells)), (11, ⟨g810, 1, none⟩, (.int .i64 p1.Height)), (14, ⟨g810, 0, none⟩, (.int .i64 p1.Width)), (19, ((adr A_p1_Cells).add ((w64 ((w64 ((Int.tmod (w64 ((w64 (Int.tdiv x981 p1.Width)) + 1)) p1.Height) * p1.Width)) + (Int.tmod x981 p1.Width))).toNat * 1)), (.int .i64 (rdD p1.Cells (w64 ((w64 ((Int.tmod (w64 ((w64 (Int.tdiv x981 p1.Width)) + 1)) p1.Height) * p1.Width)) + (Int.tmod x981 p1.Width))) 0))), (22, (((adr A_p0).add (((rdD p1.Cells (w64 ((w64 ((Int.tmod (w64 ((w64 (Int.tdiv x981 p1.Width)) + 1)) p1.Height) * p1.Width)) + (Int.tmod x981 p1.Width))) 0)).toNat * 4)).add 2), (.int .i64 ((rdD p0 (rdD p1.Cells (w64 ((w64 ((Int.tmod (w64 ((w64 (Int.tdiv x981 p1.Width)) + 1)) p1.Height) * p1.Width)) + (Int.tmod x981 p1.Width))) 0) z_Tile).S)))] (fun fb => by kernel_rfl) rfl ⟨rowR.adr (hS1056.rd 0).1 h1061.1 h1061.2, h1062, rowR.adr (hS1056.rd 1).1 h1063.1 h1063.2, rowR.adr (hS1056.rd 0).1 h1064.1 h1064.2, trivial⟩ rfl ?_
            refine WL.done rfl ?_
            refine WX.next ?_
            rcases br_some hx1049 with ⟨h1065, hx1049⟩ | ⟨h1065, hx1049⟩
            · refine WC.condT2 (fun fb => by kernel_rfl) h1065 ?_
              refine WC.seq ?_
              refine WC.region ?_
              refine seg 1 [] [6] [(6, (.bool false))] [] (fun fb => by kernel_rfl) rfl trivial ?_
              refine WL.done rfl ?_
              refine WX.next ?_
              refine WC.ret ?_
              injection hx1049 with hx1049
              subst hx1049
              injection hl987 with hl987
              subst hl987
              injection hf with hf
              subst hf
              exact WX.blockR (WX.thenR (WX.thenR (WX.blockR (WX.thenR (WX.ret_ [] (.bool false) [] (fun fb => by kernel_rfl) trivial ⟨_, rfl, rfl, hS1056.keep⟩)))))
            refine WC.condF2 (fun fb => by kernel_rfl) h1065 ?_
            refine WC.skip ?_
            injection hx1049 with hx1049
            exact WX.to Kx1048 () [0, 2, 4, 12, 13, 14] rfl ⟨(hS1056.subR [0, 1]).sub [0] (by decide), hx1049.symm⟩
          refine WC.condF2 (fun fb => by kernel_rfl) h1050 ?_
          refine WC.skip ?_
          injection hx1049 with hx1049
          exact WX.to Kx1048 () [0, 2, 4, 12, 13, 14] rfl ⟨(hS1026.subR [0, 1]).sub [0] (by decide), hx1049.symm⟩
        rintro y1069 w1066 ⟨hS1067, hq1068⟩
        subst hq1068
        have hl987 := sum_inr hl987
        refine WX.blockN (WX.next ?_)
        refine WC.region ?_
        refine seg 2 [] [0, 2, 4, 12, 13, 14] [(0, (.slice A_p0 p0.length c_p0)), (2, (.bool p2)), (4, (.pointer (some ⟨g810, 0, none⟩))), (12, (.slice A_p1_Cells p1.Cells.length c_p1_Cells)), (13, (.int .i64 (p1.Cells.length : Int))), (14, (.int .i64 (w64 (x981 + 1))))] [] (fun fb => by kernel_rfl) rfl trivial ?_
        refine WL.done rfl ?_
        exact WX.again k984 (Nat.lt_succ_self _) (w64 (x981 + 1)) [0, 2, 4, 12, 13, 14] rfl ⟨(hS1067.subR [0, 1]).sub [0] (by decide), hl987⟩
      refine WC.condF2 (fun fb => by kernel_rfl) h988 ?_
      refine WC.exit ?_
      injection hl987 with hl987
      exact WX.thenX (WX.thenX (WX.blockHere (WX.to Kx982 () [] rfl ⟨(hS986.subR [0, 1]).sub [] (by decide), hl987.symm⟩)))
  rintro y1074 w1071 ⟨hS1072, hq1073⟩
  subst hq1073
  have hf := sum_inr hf
  refine WX.next ?_
  refine WC.seq ?_
  refine WC.region ?_
  refine seg 1 [] [6] [(6, (.bool true))] [] (fun fb => by kernel_rfl) rfl trivial ?_
  refine WL.done rfl ?_
  refine WX.next ?_
  refine WC.ret ?_
  injection hf with hf
  subst hf
  exact WX.ret_ [] (.bool true) [] (fun fb => by kernel_rfl) trivial ⟨_, rfl, rfl, hS1072.keep⟩
theorem tile_Repeats_calls (k : Nat) (p0 : List Tile) (p1 : Pattern) (A_p0 : Option Addr) (c_p0 : Nat) (A_p1_Cells : Option Addr) (c_p1_Cells : Nat) (r : Bool) (w : World) (hR0 : RO NoS w (rowR enc_Tile A_p0 c_p0 p0)) (hR1 : RO NoS w (rowR encInt A_p1_Cells c_p1_Cells p1.Cells)) (hf : tile_Repeats k p0 p1 = some r) :
    CallsR Try.prog 7 #[(.slice A_p0 p0.length c_p0), (.agg #[(.int .i64 p1.Width), (.int .i64 p1.Height), (.slice A_p1_Cells p1.Cells.length c_p1_Cells)])] w (fun v w' => v = (.bool r) ∧ Keeps NoS w w') := by
  have hS : St NoS w w [rowR enc_Tile A_p0 c_p0 p0, rowR encInt A_p1_Cells c_p1_Cells p1.Cells] [] := St.init (ro_cons hR0 (ro_cons hR1 (ro_nil _ _)))
  refine enter 13 Try.func7 rfl Try.ntmps7 rfl ?_
  unfold tile_Repeats at hf
  refine WC.seq ?_
  refine WC.region ?_
  refine WL.new hS 3 [] (fun g => (.pointer (some ⟨g, 0, none⟩))) (.cells #[(.int .i64 p1.Width), (.int .i64 p1.Height), (.slice A_p1_Cells p1.Cells.length c_p1_Cells)] 25 (0, 0)) [] (fun fb g => by kernel_rfl) trivial (fun g518 w519 hS520 => ?_)
  refine ⟨trivial, ?_⟩
  refine seg 2 [] [0, 3] [(0, (.slice A_p0 p0.length c_p0)), (3, (.pointer (some ⟨g518, 0, none⟩)))] [] (fun fb => by kernel_rfl) rfl trivial ?_
  refine WL.done rfl ?_
  refine WX.next ?_
  refine WC.seq ?_
  refine WC.region ?_
  refine seg 2 [.v (.int .i64 p1.Width), .v (.int .i64 p1.Height), .v (.slice A_p1_Cells p1.Cells.length c_p1_Cells)] [0, 3, 5, 6] [(0, (.slice A_p0 p0.length c_p0)), (3, (.pointer (some ⟨g518, 0, none⟩))), (5, (.slice A_p0 p0.length c_p0)), (6, (.agg #[(.int .i64 p1.Width), (.int .i64 p1.Height), (.slice A_p1_Cells p1.Cells.length c_p1_Cells)]))] [.cell ⟨g518, 0, none⟩ (.int .i64 p1.Width), .cell ⟨g518, 1, none⟩ (.int .i64 p1.Height), .cell ⟨g518, 2, none⟩ (.slice A_p1_Cells p1.Cells.length c_p1_Cells)] (fun fb => by kernel_rfl) rfl ⟨hS520.cell 0 rfl 0 rfl, hS520.cell 0 rfl 1 rfl, hS520.cell 0 rfl 2 rfl, trivial⟩ ?_
  obtain ⟨t805, ht806, hf⟩ := bind_some hf
  refine WL.call (some 7) 12 #[(.slice A_p0 p0.length c_p0), (.agg #[(.int .i64 p1.Width), (.int .i64 p1.Height), (.slice A_p1_Cells p1.Cells.length c_p1_Cells)])] (fun fb => by kernel_rfl) (tile_of_calls _ p0 p1 A_p0 c_p0 A_p1_Cells c_p1_Cells t805 _ (hS520.rd 0) (hS520.rd 1) ht806) (fun v w807 hR808 => ?_)
  obtain ⟨rfl, hk_⟩ := hR808
  have hS809 := hS520.keepN hk_
  refine ⟨trivial, ?_⟩
  refine seg 4 [] [0, 3, 8] [(0, (.slice A_p0 p0.length c_p0)), (3, (.pointer (some ⟨g518, 0, none⟩))), (8, (.bool t805))] [] (fun fb => by kernel_rfl) rfl trivial ?_
  obtain ⟨x1082, hx1083, hf⟩ := bind_some hf
  refine WL.cutW (T := Bool) 8 (fun t => [(12, (.bool t))]) (fun t w1 => (St NoS w w1 [rowR enc_Tile A_p0 c_p0 p0, rowR encInt A_p1_Cells c_p1_Cells p1.Cells] [] ∧ x1082 = t) ∧ CellsOK [] w1) (fun K => ?_) ?_
  ·
    rcases br_some hx1083 with ⟨h1084, hx1083⟩ | ⟨h1084, hx1083⟩
    ·
      refine WL.setB 8 h1084 rfl ?_
      refine seg 6 [.v (.int .i64 p1.Width), .v (.int .i64 p1.Height), .v (.slice A_p1_Cells p1.Cells.length c_p1_Cells)] [8, 9, 10] [(8, (.bool true)), (9, (.slice A_p0 p0.length c_p0)), (10, (.agg #[(.int .i64 p1.Width), (.int .i64 p1.Height), (.slice A_p1_Cells p1.Cells.length c_p1_Cells)]))] [.cell ⟨g518, 0, none⟩ (.int .i64 p1.Width), .cell ⟨g518, 1, none⟩ (.int .i64 p1.Height), .cell ⟨g518, 2, none⟩ (.slice A_p1_Cells p1.Cells.length c_p1_Cells)] (fun fb => by kernel_rfl) rfl ⟨hS809.cell 0 rfl 0 rfl, hS809.cell 0 rfl 1 rfl, hS809.cell 0 rfl 2 rfl, trivial⟩ ?_
      obtain ⟨t1085, ht1086, hx1083⟩ := bind_some hx1083
      refine WL.call (some 11) 13 #[(.slice A_p0 p0.length c_p0), (.agg #[(.int .i64 p1.Width), (.int .i64 p1.Height), (.slice A_p1_Cells p1.Cells.length c_p1_Cells)]), (.bool true)] (fun fb => by kernel_rfl) (tile_joins_calls _ p0 p1 true A_p0 c_p0 A_p1_Cells c_p1_Cells t1085 _ (hS809.rd 0) (hS809.rd 1) ht1086) (fun v w1087 hR1088 => ?_)
      obtain ⟨rfl, hk_⟩ := hR1088
      have hS1089 := hS809.keepN hk_
      refine ⟨trivial, ?_⟩
      refine seg 8 [] [12] [(12, (.bool t1085))] [] (fun fb => by kernel_rfl) rfl trivial ?_
      injection hx1083 with hx1083
      exact WL.to K t1085 [12] rfl ⟨⟨(hS1089.subR [0, 1]).sub [] (by decide), hx1083.symm⟩, trivial⟩
    refine WL.setB 8 h1084 rfl ?_
    refine seg 8 [] [12] [(12, (.bool false))] [] (fun fb => by kernel_rfl) rfl trivial ?_
    injection hx1083 with hx1083
    exact WL.to K false [12] rfl ⟨⟨(hS809.subR [0, 1]).sub [] (by decide), hx1083.symm⟩, trivial⟩
  rintro y1090 w1092 ⟨⟨hS1093, hq1091⟩, hF1094⟩
  subst hq1091
  refine seg 9 [] [4] [(4, (.bool x1082))] [] (fun fb => by kernel_rfl) rfl trivial ?_
  refine WL.done rfl ?_
  refine WX.next ?_
  refine WC.ret ?_
  injection hf with hf
  subst hf
  exact WX.ret_ [] (.bool x1082) [] (fun fb => by kernel_rfl) trivial ⟨_, rfl, rfl, hS1093.keep⟩
theorem top_sameInts_calls (k : Nat) (p0 : List Int) (p1 : List Int) (A_p0 : Option Addr) (c_p0 : Nat) (A_p1 : Option Addr) (c_p1 : Nat) (r : Bool) (w : World) (hR0 : RO NoS w (rowR encInt A_p0 c_p0 p0)) (hR1 : RO NoS w (rowR encInt A_p1 c_p1 p1)) (hf : top_sameInts k p0 p1 = some r) :
    CallsR Try.prog 11 #[(.slice A_p0 p0.length c_p0), (.slice A_p1 p1.length c_p1)] w (fun v w' => v = (.bool r) ∧ Keeps NoS w w') := by
  have hS : St NoS w w [rowR encInt A_p0 c_p0 p0, rowR encInt A_p1 c_p1 p1] [] := St.init (ro_cons hR0 (ro_cons hR1 (ro_nil _ _)))
  refine enter 26 Try.func11 rfl Try.ntmps11 rfl ?_
  unfold top_sameInts at hf
  refine WC.seq ?_
  refine WC.region ?_
  refine seg 1 [] [0, 1] [(0, (.slice A_p0 p0.length c_p0)), (1, (.slice A_p1 p1.length c_p1))] [] (fun fb => by kernel_rfl) rfl trivial ?_
  refine WL.done rfl ?_
  refine WX.next ?_
  refine WC.seq ?_
  refine WC.seq ?_
  refine WC.region ?_
  refine seg 5 [] [0, 1, 10] [(0, (.slice A_p0 p0.length c_p0)), (1, (.slice A_p1 p1.length c_p1)), (10, (.bool ((p0.length : Int) != (p1.length : Int))))] [] (fun fb => by kernel_rfl) rfl trivial ?_
  refine WL.done rfl ?_
  refine WX.next ?_
  rcases br_some hf with ⟨h1150, hf⟩ | ⟨h1150, hf⟩
  · refine WC.condT2 (fun fb => by kernel_rfl) h1150 ?_
    refine WC.seq ?_
    refine WC.region ?_
    refine seg 1 [] [4] [(4, (.bool false))] [] (fun fb => by kernel_rfl) rfl trivial ?_
    refine WL.done rfl ?_
    refine WX.next ?_
    refine WC.ret ?_
    injection hf with hf
    subst hf
    exact WX.thenR (WX.ret_ [] (.bool false) [] (fun fb => by kernel_rfl) trivial ⟨_, rfl, rfl, hS.keep⟩)
  refine WC.condF2 (fun fb => by kernel_rfl) h1150 ?_
  refine WC.skip ?_
  refine WX.next ?_
  refine WC.seq ?_
  refine WC.seq ?_
  refine WC.region ?_
  refine seg 1 [] [0, 1, 5] [(0, (.slice A_p0 p0.length c_p0)), (1, (.slice A_p1 p1.length c_p1)), (5, (.int .i64 0))] [] (fun fb => by kernel_rfl) rfl trivial ?_
  refine WL.done rfl ?_
  refine WX.next ?_
  obtain ⟨x1173, hx1174, hf⟩ := bind_some hf
  refine WC.cutN (T := Unit) (fun t => []) (fun t w1 => St NoS w w1 [rowR encInt A_p0 c_p0 p0, rowR encInt A_p1 c_p1 p1] [] ∧ x1173 = .inr t) (fun Kx1173 => ?_) ?_
  ·
    refine WC.block ?_
    refine WC.loop (T := Int) (fun t => [(0, (.slice A_p0 p0.length c_p0)), (1, (.slice A_p1 p1.length c_p1)), (5, (.int .i64 t))]) (fun n t w1 => St NoS w w1 [rowR encInt A_p0 c_p0 p0, rowR encInt A_p1 c_p1 p1] [] ∧ top_sameInts.l0 n t p0 p1 = some x1173) k 0 [0, 1, 5] rfl ⟨(hS.subR [0, 1]).sub [] (by decide), hx1174⟩ ?_
    rintro k1175 x1172 w1176 ⟨hS1177, hl1178⟩
    cases k1175 with
    | zero => rw [top_sameInts.l0] at hl1178; cases hl1178
    | succ k1175 =>
      rw [top_sameInts.l0] at hl1178
      refine WC.seq ?_
      refine WC.seq ?_
      refine WC.region ?_
      refine seg 4 [] [0, 1, 5, 14] [(0, (.slice A_p0 p0.length c_p0)), (1, (.slice A_p1 p1.length c_p1)), (5, (.int .i64 x1172)), (14, (.bool (decide (x1172 < (p0.length : Int)))))] [] (fun fb => by kernel_rfl) rfl trivial ?_
      refine WL.done rfl ?_
      refine WX.next ?_
      rcases br_some hl1178 with ⟨h1179, hl1178⟩ | ⟨h1179, hl1178⟩
      · refine WC.condT2 (fun fb => by kernel_rfl) h1179 ?_
        refine WC.skip ?_
        refine WX.next ?_
        refine WC.seq ?_
        refine WC.block ?_
        refine WC.seq ?_
        obtain ⟨h1186, hl1178⟩ := as_some hl1178
        obtain ⟨h1187, hl1178⟩ := as_some hl1178
        refine WC.regionD ([(3, ((adr A_p0).add ((x1172).toNat * 1)), (.int .i64 (rdD p0 x1172 0))), (7, ((adr A_p1).add ((x1172).toNat * 1)), (.int .i64 (rdD p1 x1172 0)))], [0, 1, 2, 3, 4, 5, 6, 7, 8], [[], [], [0, 1], [0, 1, 2], [], [], [4, 5], [4, 5, 6], [0, 1, 2, 3, 4, 5, 6, 7]]) [[0, 1, 2, 3, 4, 5, 6, 7, 8]] (by kernel_rfl) (by kernel_rfl) (NoPanic.seq (NoPanic.block (NoPanic.seq (NoPanic.seq (NoPanic.block (NoPanic.seq (NoPanic.body))))))) ?_
        have hS1183 := hS1177.drew
        revert hS1183
        generalize World.drew w1176 = w1182
        intro hS1183
        refine ⟨⟨rowR.cell (hS1183.rd 0).1 0 h1186.1 h1186.2 0 rfl, rowR.cell (hS1183.rd 1).1 0 h1187.1 h1187.2 0 rfl, trivial⟩, forallC ?_ (forallN)⟩
        refine segF 9 [.v (.int .i64 (rdD p0 x1172 0)), .v (.int .i64 (rdD p1 x1172 0))] [0, 1, 5, 25] [(0, (.slice A_p0 p0.length c_p0)), (1, (.slice A_p1 p1.length c_p1)), (5, (.int .i64 x1172)), (25, (.bool ((rdD p0 x1172 0) != (rdD p1 x1172 0))))] [.idx A_p0 x1172 p0.length, .idx A_p1 x1172 p1.length] [0, 1] [(3, ((adr A_p0).add ((x1172).toNat * 1)), (.int .i64 (rdD p0 x1172 0))), (7, ((adr A_p1).add ((x1172).toNat * 1)), (.int .i64 (rdD p1 x1172 0)))] (fun fb => by kernel_rfl) rfl ⟨rowR.adr (hS1183.rd 0).1 h1186.1 h1186.2, rowR.adr (hS1183.rd 1).1 h1187.1 h1187.2, trivial⟩ rfl ?_
        refine WL.done rfl ?_
        refine WX.next ?_
        rcases br_some hl1178 with ⟨h1188, hl1178⟩ | ⟨h1188, hl1178⟩
        · refine WC.condT2 (fun fb => by kernel_rfl) h1188 ?_
          refine WC.seq ?_
          refine WC.region ?_
          refine seg 1 [] [4] [(4, (.bool false))] [] (fun fb => by kernel_rfl) rfl trivial ?_
          refine WL.done rfl ?_
          refine WX.next ?_
          refine WC.ret ?_
          injection hl1178 with hl1178
          subst hl1178
          injection hf with hf
          subst hf
          exact WX.blockR (WX.thenR (WX.thenR (WX.blockR (WX.thenR (WX.ret_ [] (.bool false) [] (fun fb => by kernel_rfl) trivial ⟨_, rfl, rfl, hS1183.keep⟩)))))
        refine WC.condF2 (fun fb => by kernel_rfl) h1188 ?_
        refine WC.skip ?_
        refine WX.blockN (WX.next ?_)
        refine WC.region ?_
        refine seg 3 [] [0, 1, 5] [(0, (.slice A_p0 p0.length c_p0)), (1, (.slice A_p1 p1.length c_p1)), (5, (.int .i64 (w64 (x1172 + 1))))] [] (fun fb => by kernel_rfl) rfl trivial ?_
        refine WL.done rfl ?_
        exact WX.again k1175 (Nat.lt_succ_self _) (w64 (x1172 + 1)) [0, 1, 5] rfl ⟨(hS1183.subR [0, 1]).sub [] (by decide), hl1178⟩
      refine WC.condF2 (fun fb => by kernel_rfl) h1179 ?_
      refine WC.exit ?_
      injection hl1178 with hl1178
      exact WX.thenX (WX.thenX (WX.blockHere (WX.to Kx1173 () [] rfl ⟨(hS1177.subR [0, 1]).sub [] (by decide), hl1178.symm⟩)))
  rintro y1192 w1189 ⟨hS1190, hq1191⟩
  subst hq1191
  have hf := sum_inr hf
  refine WX.next ?_
  refine WC.seq ?_
  refine WC.region ?_
  refine seg 1 [] [4] [(4, (.bool true))] [] (fun fb => by kernel_rfl) rfl trivial ?_
  refine WL.done rfl ?_
  refine WX.next ?_
  refine WC.ret ?_
  injection hf with hf
  subst hf
  exact WX.ret_ [] (.bool true) [] (fun fb => by kernel_rfl) trivial ⟨_, rfl, rfl, hS1190.keep⟩
theorem tile_Fits_calls (k : Nat) (p0 : List Tile) (p1 : Pattern) (A_p0 : Option Addr) (c_p0 : Nat) (A_p1_Cells : Option Addr) (c_p1_Cells : Nat) (r : Bool) (w : World) (hR0 : RO NoS w (rowR enc_Tile A_p0 c_p0 p0)) (hR1 : RO NoS w (rowR encInt A_p1_Cells c_p1_Cells p1.Cells)) (hf : tile_Fits k p0 p1 = some r) :
    CallsR Try.prog 5 #[(.slice A_p0 p0.length c_p0), (.agg #[(.int .i64 p1.Width), (.int .i64 p1.Height), (.slice A_p1_Cells p1.Cells.length c_p1_Cells)])] w (fun v w' => v = (.bool r) ∧ Keeps NoS w w') := by
  have hS : St NoS w w [rowR enc_Tile A_p0 c_p0 p0, rowR encInt A_p1_Cells c_p1_Cells p1.Cells] [] := St.init (ro_cons hR0 (ro_cons hR1 (ro_nil _ _)))
  refine enter 13 Try.func5 rfl Try.ntmps5 rfl ?_
  unfold tile_Fits at hf
  refine WC.seq ?_
  refine WC.region ?_
  refine WL.new hS 3 [] (fun g => (.pointer (some ⟨g, 0, none⟩))) (.cells #[(.int .i64 p1.Width), (.int .i64 p1.Height), (.slice A_p1_Cells p1.Cells.length c_p1_Cells)] 25 (0, 0)) [] (fun fb g => by kernel_rfl) trivial (fun g1225 w1226 hS1227 => ?_)
  refine ⟨trivial, ?_⟩
  refine seg 2 [] [0, 3] [(0, (.slice A_p0 p0.length c_p0)), (3, (.pointer (some ⟨g1225, 0, none⟩)))] [] (fun fb => by kernel_rfl) rfl trivial ?_
  refine WL.done rfl ?_
  refine WX.next ?_
  refine WC.seq ?_
  refine WC.region ?_
  refine seg 2 [.v (.int .i64 p1.Width), .v (.int .i64 p1.Height), .v (.slice A_p1_Cells p1.Cells.length c_p1_Cells)] [0, 3, 5, 6] [(0, (.slice A_p0 p0.length c_p0)), (3, (.pointer (some ⟨g1225, 0, none⟩))), (5, (.slice A_p0 p0.length c_p0)), (6, (.agg #[(.int .i64 p1.Width), (.int .i64 p1.Height), (.slice A_p1_Cells p1.Cells.length c_p1_Cells)]))] [.cell ⟨g1225, 0, none⟩ (.int .i64 p1.Width), .cell ⟨g1225, 1, none⟩ (.int .i64 p1.Height), .cell ⟨g1225, 2, none⟩ (.slice A_p1_Cells p1.Cells.length c_p1_Cells)] (fun fb => by kernel_rfl) rfl ⟨hS1227.cell 0 rfl 0 rfl, hS1227.cell 0 rfl 1 rfl, hS1227.cell 0 rfl 2 rfl, trivial⟩ ?_
  obtain ⟨t1229, ht1230, hf⟩ := bind_some hf
  refine WL.call (some 7) 12 #[(.slice A_p0 p0.length c_p0), (.agg #[(.int .i64 p1.Width), (.int .i64 p1.Height), (.slice A_p1_Cells p1.Cells.length c_p1_Cells)])] (fun fb => by kernel_rfl) (tile_of_calls _ p0 p1 A_p0 c_p0 A_p1_Cells c_p1_Cells t1229 _ (hS1227.rd 0) (hS1227.rd 1) ht1230) (fun v w1231 hR1232 => ?_)
  obtain ⟨rfl, hk_⟩ := hR1232
  have hS1233 := hS1227.keepN hk_
  refine ⟨trivial, ?_⟩
  refine seg 4 [] [0, 3, 8] [(0, (.slice A_p0 p0.length c_p0)), (3, (.pointer (some ⟨g1225, 0, none⟩))), (8, (.bool t1229))] [] (fun fb => by kernel_rfl) rfl trivial ?_
  obtain ⟨x1240, hx1241, hf⟩ := bind_some hf
  refine WL.cutW (T := Bool) 8 (fun t => [(12, (.bool t))]) (fun t w1 => (St NoS w w1 [rowR enc_Tile A_p0 c_p0 p0, rowR encInt A_p1_Cells c_p1_Cells p1.Cells] [] ∧ x1240 = t) ∧ CellsOK [] w1) (fun K => ?_) ?_
  ·
    rcases br_some hx1241 with ⟨h1242, hx1241⟩ | ⟨h1242, hx1241⟩
    ·
      refine WL.setB 8 h1242 rfl ?_
      refine seg 6 [.v (.int .i64 p1.Width), .v (.int .i64 p1.Height), .v (.slice A_p1_Cells p1.Cells.length c_p1_Cells)] [8, 9, 10] [(8, (.bool true)), (9, (.slice A_p0 p0.length c_p0)), (10, (.agg #[(.int .i64 p1.Width), (.int .i64 p1.Height), (.slice A_p1_Cells p1.Cells.length c_p1_Cells)]))] [.cell ⟨g1225, 0, none⟩ (.int .i64 p1.Width), .cell ⟨g1225, 1, none⟩ (.int .i64 p1.Height), .cell ⟨g1225, 2, none⟩ (.slice A_p1_Cells p1.Cells.length c_p1_Cells)] (fun fb => by kernel_rfl) rfl ⟨hS1233.cell 0 rfl 0 rfl, hS1233.cell 0 rfl 1 rfl, hS1233.cell 0 rfl 2 rfl, trivial⟩ ?_
      obtain ⟨t1243, ht1244, hx1241⟩ := bind_some hx1241
      refine WL.call (some 11) 13 #[(.slice A_p0 p0.length c_p0), (.agg #[(.int .i64 p1.Width), (.int .i64 p1.Height), (.slice A_p1_Cells p1.Cells.length c_p1_Cells)]), (.bool false)] (fun fb => by kernel_rfl) (tile_joins_calls _ p0 p1 false A_p0 c_p0 A_p1_Cells c_p1_Cells t1243 _ (hS1233.rd 0) (hS1233.rd 1) ht1244) (fun v w1245 hR1246 => ?_)
      obtain ⟨rfl, hk_⟩ := hR1246
      have hS1247 := hS1233.keepN hk_
      refine ⟨trivial, ?_⟩
      refine seg 8 [] [12] [(12, (.bool t1243))] [] (fun fb => by kernel_rfl) rfl trivial ?_
      injection hx1241 with hx1241
      exact WL.to K t1243 [12] rfl ⟨⟨(hS1247.subR [0, 1]).sub [] (by decide), hx1241.symm⟩, trivial⟩
    refine WL.setB 8 h1242 rfl ?_
    refine seg 8 [] [12] [(12, (.bool false))] [] (fun fb => by kernel_rfl) rfl trivial ?_
    injection hx1241 with hx1241
    exact WL.to K false [12] rfl ⟨⟨(hS1233.subR [0, 1]).sub [] (by decide), hx1241.symm⟩, trivial⟩
  rintro y1248 w1250 ⟨⟨hS1251, hq1249⟩, hF1252⟩
  subst hq1249
  refine seg 9 [] [4] [(4, (.bool x1240))] [] (fun fb => by kernel_rfl) rfl trivial ?_
  refine WL.done rfl ?_
  refine WX.next ?_
  refine WC.ret ?_
  injection hf with hf
  subst hf
  exact WX.ret_ [] (.bool x1240) [] (fun fb => by kernel_rfl) trivial ⟨_, rfl, rfl, hS1251.keep⟩
theorem top_lives_calls (k : Nat)   (r : Bool) (w : World)  (hf : top_lives k = some r) :
    CallsR Try.prog 4 #[] w (fun v w' => v = (.bool r) ∧ Keeps NoS w w') := by
  have hS : St NoS w w [] [] := St.init (ro_nil _ _)
  refine enter 36 Try.func4 rfl Try.ntmps4 rfl ?_
  unfold top_lives at hf
  refine WC.seq ?_
  refine WC.region ?_
  refine seg 1 [] [] [] [] (fun fb => by kernel_rfl) rfl trivial ?_
  refine WL.done rfl ?_
  refine WX.next ?_
  refine WC.seq ?_
  refine WC.region ?_
  refine WL.new hS 4 [] (fun g => (.slice (some ⟨g, 0, none⟩) 4 4)) (.cells #[(.int .i64 0), (.int .i64 1), (.int .i64 1), (.int .i64 0)] 3 (0, 0)) [] (fun fb g => by kernel_rfl) trivial (fun g12 w13 hS14 => ?_)
  refine ⟨trivial, ?_⟩
  have hS16 : St NoS w w13 [] [rowO 3 encInt (some ⟨g12, 0, none⟩) 4 [0, 1, 1, 0]] := hS14.map1 0 _ (fun h => rowO.ofBlk h rfl (Nat.le_of_ble_eq_true (by kernel_rfl))) (fun _ h => by obtain ⟨_, h1, h2⟩ := h; injection h1 with h1; subst h1; exact h2) [] (by decide) (by decide)
  refine seg 2 [] [5] [(5, (.agg #[(.int .i64 2), (.int .i64 2), (.slice (some ⟨g12, 0, none⟩) [0, 1, 1, 0].length 4)]))] [] (fun fb => by kernel_rfl) rfl trivial ?_
  refine WL.new hS16 1 [] (fun g => (.pointer (some ⟨g, 0, none⟩))) (.cells #[(.int .i64 0), (.int .i64 0), (.slice none 0 0)] 25 (0, 0)) [] (fun fb g => by kernel_rfl) trivial (fun g17 w18 hS19 => ?_)
  refine ⟨trivial, ?_⟩
  refine WL.store hS19 0 rfl [(0, (.int .i64 2)), (1, (.int .i64 2)), (2, (.slice (some ⟨g12, 0, none⟩) [0, 1, 1, 0].length 4))] #[(.int .i64 2), (.int .i64 2), (.slice (some ⟨g12, 0, none⟩) [0, 1, 1, 0].length 4)] (fun fb => by kernel_rfl) (by kernel_rfl) rfl [1] (by decide) (by decide) (fun w21 hS22 => ?_)
  refine ⟨trivial, ?_⟩
  refine WL.done rfl ?_
  refine WX.next ?_
  refine WC.seq ?_
  refine WC.region ?_
  refine seg 1 [.v (.int .i64 2), .v (.int .i64 2), .v (.slice (some ⟨g12, 0, none⟩) [0, 1, 1, 0].length 4)] [1, 7] [(1, (.pointer (some ⟨g17, 0, none⟩))), (7, (.agg #[(.int .i64 2), (.int .i64 2), (.slice (some ⟨g12, 0, none⟩) [0, 1, 1, 0].length 4)]))] [.cell ⟨g17, 0, none⟩ (.int .i64 2), .cell ⟨g17, 1, none⟩ (.int .i64 2), .cell ⟨g17, 2, none⟩ (.slice (some ⟨g12, 0, none⟩) [0, 1, 1, 0].length 4)] (fun fb => by kernel_rfl) rfl ⟨hS22.cell 0 rfl 0 rfl, hS22.cell 0 rfl 1 rfl, hS22.cell 0 rfl 2 rfl, trivial⟩ ?_
  obtain ⟨t493, ht494, hf⟩ := bind_some hf
  refine WL.call (some 8) 9 #[(.agg #[(.int .i64 2), (.int .i64 2), (.slice (some ⟨g12, 0, none⟩) [0, 1, 1, 0].length 4)]), (.int .i64 3), (.int .i64 1)] (fun fb => by kernel_rfl) (tile_Repeat_calls _ (Pattern.mk 2 2 [0, 1, 1, 0]) 3 1 (some ⟨g12, 0, none⟩) 4 t493 _ (hS22.ow 1).ofO ht494) (fun v w495 hR496 => ?_)
  obtain ⟨A498, c499, rfl, hk_⟩ := hR496
  have hS497 : St NoS w w495 [] [rowO 3 encInt A498 c499 t493.1.Cells, blk g17 (.cells #[(.int .i64 2), (.int .i64 2), (.slice (some ⟨g12, 0, none⟩) [0, 1, 1, 0].length 4)] 25 (0, 0)), rowO 3 encInt (some ⟨g12, 0, none⟩) 4 [0, 1, 1, 0]] := hS22.call hk_ [] [0, 1] (fun g hg => hg.elim) (by simp) (by decide)
  refine ⟨trivial, ?_⟩
  refine seg 5 [] [1, 9, 10] [(1, (.pointer (some ⟨g17, 0, none⟩))), (9, (.agg #[(.int .i64 t493.1.Width), (.int .i64 t493.1.Height), (.slice A498 t493.1.Cells.length c499)])), (10, (.int .i64 t493.2))] [] (fun fb => by kernel_rfl) rfl trivial ?_
  refine WL.new hS497 2 [] (fun g => (.pointer (some ⟨g, 0, none⟩))) (.cells #[(.int .i64 0), (.int .i64 0), (.slice none 0 0)] 25 (0, 0)) [] (fun fb g => by kernel_rfl) trivial (fun g500 w501 hS502 => ?_)
  refine ⟨trivial, ?_⟩
  refine WL.store hS502 0 rfl [(0, (.int .i64 t493.1.Width)), (1, (.int .i64 t493.1.Height)), (2, (.slice A498 t493.1.Cells.length c499))] #[(.int .i64 t493.1.Width), (.int .i64 t493.1.Height), (.slice A498 t493.1.Cells.length c499)] (fun fb => by kernel_rfl) (by kernel_rfl) rfl [1, 2, 3] (by decide) (by decide) (fun w504 hS505 => ?_)
  refine ⟨trivial, ?_⟩
  refine seg 8 [] [1, 2, 3] [(1, (.pointer (some ⟨g17, 0, none⟩))), (2, (.pointer (some ⟨g500, 0, none⟩))), (3, (.int .i64 t493.2))] [] (fun fb => by kernel_rfl) rfl trivial ?_
  refine WL.done rfl ?_
  refine WX.next ?_
  refine WC.seq ?_
  obtain ⟨x1520, hx1521, hf⟩ := bind_some hf
  refine WC.cutN (T := Bool) (fun t => [(0, (.bool t))]) (fun t w1 => St NoS w w1 [] [] ∧ x1520 = t) (fun Kx1520 => ?_) ?_
  ·
    refine WC.regionD ([(1, ⟨g17, 0, none⟩, (.int .i64 2)), (1, ⟨g17, 1, none⟩, (.int .i64 2)), (1, ⟨g17, 2, none⟩, (.slice (some ⟨g12, 0, none⟩) [0, 1, 1, 0].length 4)), (16, ⟨g500, 2, none⟩, (.slice A498 t493.1.Cells.length c499)), (22, ⟨g500, 0, none⟩, (.int .i64 t493.1.Width)), (22, ⟨g500, 1, none⟩, (.int .i64 t493.1.Height)), (22, ⟨g500, 2, none⟩, (.slice A498 t493.1.Cells.length c499))], [1, 3, 6, 8, 9, 10, 11, 12, 13, 14, 15, 16, 19, 20, 22, 24, 25], [[], [], [0, 1], [0, 1, 2], [0, 1, 2, 3], [0, 1, 2, 3], [0, 1, 2, 3, 5], [0, 1, 2, 3, 4, 5, 6], [0, 1, 2, 3, 4, 5, 6, 7], [0, 1, 2, 3, 4, 5, 6, 7, 8], [0, 1, 2, 3, 4, 5, 6, 7, 8, 9], [0, 1, 2, 3, 4, 5, 6, 7, 8, 9, 10], [0, 1, 2, 3, 4, 5, 6, 7, 8, 9, 10, 11], [0, 1, 2, 3, 4, 5, 6, 7, 8, 9, 10, 11, 12], [0, 1, 2, 3, 4, 5, 6, 7, 8, 9, 10, 11, 12, 13], [0, 1, 2, 3, 4, 5, 6, 7, 8, 9, 10, 11, 12, 13, 14], [0, 1, 2, 3, 4, 5, 6, 7, 8, 9, 10, 11, 12, 13, 14, 15], [0, 1, 2, 3, 4, 5, 6, 7, 8, 9, 10, 11, 12, 13, 14], [0, 1, 2, 3, 4, 5, 6, 7, 8, 9, 10, 11, 12, 13, 14, 15, 16, 17], [0, 1, 2, 3, 4, 5, 6, 7, 8, 9, 10, 11, 12, 13, 14, 15, 16, 17, 18], [0, 1, 2, 3, 4, 5, 6, 7, 8, 9, 10, 11, 12, 13, 14, 15, 16, 17, 18, 19], [0, 1, 2, 3, 4, 5, 6, 7, 8, 9, 10, 11, 12, 13, 14, 15, 16, 17, 18, 19, 20], [0, 1, 2, 3, 4, 5, 6, 7, 8, 9, 10, 11, 12, 13, 14, 15, 16, 17, 18, 19, 20], [0, 1, 2, 3, 4, 5, 6, 7, 8, 9, 10, 11, 12, 13, 14, 15, 16, 17, 18, 19, 20, 21, 22], [0, 1, 2, 3, 4, 5, 6, 7, 8, 9, 10, 11, 12, 13, 14, 15, 16, 17, 18, 19, 20, 21, 22, 23], [0, 1, 2, 3, 4, 5, 6, 7, 8, 9, 10, 11, 12, 13, 14, 15, 16, 17, 18, 19, 20, 21, 22, 23, 24]]) [[1, 0, 2, 3, 4, 5, 6, 7, 8, 9, 10, 11, 12, 13, 14, 15, 16, 17, 18, 19, 20, 22, 21, 23, 24, 25], [1, 0, 2, 3, 5, 6, 4, 7, 8, 9, 10, 11, 12, 13, 14, 15, 16, 17, 18, 19, 20, 22, 21, 23, 24, 25]] (by kernel_rfl) (by kernel_rfl) (NoPanic.seq (NoPanic.body)) ?_
    have hS1523 := hS505.drew
    revert hS1523
    generalize World.drew w504 = w1522
    intro hS1523
    refine ⟨⟨hS1523.cell 2 rfl 0 rfl, hS1523.cell 2 rfl 1 rfl, hS1523.cell 2 rfl 2 rfl, hS1523.cell 0 rfl 2 rfl, hS1523.cell 0 rfl 0 rfl, hS1523.cell 0 rfl 1 rfl, hS1523.cell 0 rfl 2 rfl, trivial⟩, forallC ?_ (forallC ?_ (forallN))⟩
    ·
      refine segF 1 [.v (.int .i64 2), .v (.int .i64 2), .v (.slice (some ⟨g12, 0, none⟩) [0, 1, 1, 0].length 4)] [2, 3, 12] [(2, (.pointer (some ⟨g500, 0, none⟩))), (3, (.int .i64 t493.2)), (12, (.agg #[(.int .i64 2), (.int .i64 2), (.slice (some ⟨g12, 0, none⟩) [0, 1, 1, 0].length 4)]))] [] [0, 1, 2] [(1, ⟨g17, 0, none⟩, (.int .i64 2)), (1, ⟨g17, 1, none⟩, (.int .i64 2)), (1, ⟨g17, 2, none⟩, (.slice (some ⟨g12, 0, none⟩) [0, 1, 1, 0].length 4))] (fun fb => by kernel_rfl) rfl trivial rfl ?_
      obtain ⟨t1524, ht1525, hx1521⟩ := bind_some hx1521
      refine WL.call (some 11) 10 #[] (fun fb => by kernel_rfl) (top_chess_calls t1524 _ ht1525) (fun v w1526 hR1527 => ?_)
      obtain ⟨A1529, c1530, rfl, hk_⟩ := hR1527
      have hS1528 : St NoS w w1526 [] [rowO 38 enc_Tile A1529 c1530 t1524, blk g500 (.cells #[(.int .i64 t493.1.Width), (.int .i64 t493.1.Height), (.slice A498 t493.1.Cells.length c499)] 25 (0, 0)), rowO 3 encInt A498 c499 t493.1.Cells, blk g17 (.cells #[(.int .i64 2), (.int .i64 2), (.slice (some ⟨g12, 0, none⟩) [0, 1, 1, 0].length 4)] 25 (0, 0)), rowO 3 encInt (some ⟨g12, 0, none⟩) 4 [0, 1, 1, 0]] := hS1523.call hk_ [] [0, 1, 2, 3] (fun g hg => hg.elim) (by simp) (by decide)
      refine ⟨⟨hS1528.cell 3 rfl 0 rfl, hS1528.cell 3 rfl 1 rfl, hS1528.cell 3 rfl 2 rfl, hS1528.cell 1 rfl 2 rfl, hS1528.cell 1 rfl 0 rfl, hS1528.cell 1 rfl 1 rfl, hS1528.cell 1 rfl 2 rfl, trivial⟩, ?_⟩
      obtain ⟨t1531, ht1532, hx1521⟩ := bind_some hx1521
      refine WL.call (some 13) 7 #[(.slice A1529 t1524.length c1530), (.agg #[(.int .i64 2), (.int .i64 2), (.slice (some ⟨g12, 0, none⟩) [0, 1, 1, 0].length 4)])] (fun fb => by kernel_rfl) (tile_Repeats_calls _ t1524 (Pattern.mk 2 2 [0, 1, 1, 0]) A1529 c1530 (some ⟨g12, 0, none⟩) 4 t1531 _ (hS1528.ow 0).ofO (hS1528.ow 4).ofO ht1532) (fun v w1533 hR1534 => ?_)
      obtain ⟨rfl, hk_⟩ := hR1534
      have hS1535 := hS1528.keepN hk_
      refine ⟨⟨hS1535.cell 1 rfl 2 rfl, hS1535.cell 1 rfl 0 rfl, hS1535.cell 1 rfl 1 rfl, hS1535.cell 1 rfl 2 rfl, trivial⟩, ?_⟩
      refine seg 4 [] [2, 3, 14] [(2, (.pointer (some ⟨g500, 0, none⟩))), (3, (.int .i64 t493.2)), (14, (.bool t1531))] [] (fun fb => by kernel_rfl) rfl trivial ?_
      obtain ⟨x1554, hx1555, hx1521⟩ := bind_some hx1521
      refine WL.cutW (T := Bool) 10 (fun t => [(2, (.pointer (some ⟨g500, 0, none⟩))), (3, (.int .i64 t493.2)), (20, (.bool t))]) (fun t w1 => (St NoS w w1 [] [blk g500 (.cells #[(.int .i64 t493.1.Width), (.int .i64 t493.1.Height), (.slice A498 t493.1.Cells.length c499)] 25 (0, 0)), rowO 3 encInt A498 c499 t493.1.Cells] ∧ x1554 = t) ∧ CellsOK [] w1) (fun K => ?_) ?_
      ·
        rcases br_some hx1555 with ⟨h1556, hx1555⟩ | ⟨h1556, hx1555⟩
        ·
          refine WL.setB 14 h1556 rfl ?_
          obtain ⟨t1557, ht1558, hx1555⟩ := bind_some hx1555
          refine WL.call (some 15) 10 #[] (fun fb => by kernel_rfl) (top_chess_calls t1557 _ ht1558) (fun v w1559 hR1560 => ?_)
          obtain ⟨A1562, c1563, rfl, hk_⟩ := hR1560
          have hS1561 : St NoS w w1559 [] [rowO 38 enc_Tile A1562 c1563 t1557, rowO 38 enc_Tile A1529 c1530 t1524, blk g500 (.cells #[(.int .i64 t493.1.Width), (.int .i64 t493.1.Height), (.slice A498 t493.1.Cells.length c499)] 25 (0, 0)), rowO 3 encInt A498 c499 t493.1.Cells, blk g17 (.cells #[(.int .i64 2), (.int .i64 2), (.slice (some ⟨g12, 0, none⟩) [0, 1, 1, 0].length 4)] 25 (0, 0)), rowO 3 encInt (some ⟨g12, 0, none⟩) 4 [0, 1, 1, 0]] := hS1535.call hk_ [] [0, 1, 2, 3, 4] (fun g hg => hg.elim) (by simp) (by decide)
          refine ⟨⟨hS1561.cell 2 rfl 2 rfl, hS1561.cell 2 rfl 0 rfl, hS1561.cell 2 rfl 1 rfl, hS1561.cell 2 rfl 2 rfl, trivial⟩, ?_⟩
          refine WL.new hS1561 16 [] (fun g => (.slice (some ⟨g, 0, none⟩) 1 1)) (.cells #[(.int .i64 0)] 3 (0, 0)) [] (fun fb g => by kernel_rfl) trivial (fun g1564 w1565 hS1566 => ?_)
          refine ⟨⟨hS1566.cell 3 rfl 2 rfl, hS1566.cell 3 rfl 0 rfl, hS1566.cell 3 rfl 1 rfl, hS1566.cell 3 rfl 2 rfl, trivial⟩, ?_⟩
          have hS1568 : St NoS w w1565 [] [rowO 3 encInt (some ⟨g1564, 0, none⟩) 1 [0], rowO 38 enc_Tile A1562 c1563 t1557, rowO 38 enc_Tile A1529 c1530 t1524, blk g500 (.cells #[(.int .i64 t493.1.Width), (.int .i64 t493.1.Height), (.slice A498 t493.1.Cells.length c499)] 25 (0, 0)), rowO 3 encInt A498 c499 t493.1.Cells, blk g17 (.cells #[(.int .i64 2), (.int .i64 2), (.slice (some ⟨g12, 0, none⟩) [0, 1, 1, 0].length 4)] 25 (0, 0)), rowO 3 encInt (some ⟨g12, 0, none⟩) 4 [0, 1, 1, 0]] := hS1566.map1 0 _ (fun h => rowO.ofBlk h rfl (Nat.le_of_ble_eq_true (by kernel_rfl))) (fun _ h => by obtain ⟨_, h1, h2⟩ := h; injection h1 with h1; subst h1; exact h2) [1, 2, 3, 4, 5, 6] (by decide) (by decide)
          refine seg 7 [] [2, 3, 14, 15, 17] [(2, (.pointer (some ⟨g500, 0, none⟩))), (3, (.int .i64 t493.2)), (14, (.bool true)), (15, (.slice A1562 t1557.length c1563)), (17, (.agg #[(.int .i64 1), (.int .i64 1), (.slice (some ⟨g1564, 0, none⟩) [0].length 1)]))] [] (fun fb => by kernel_rfl) rfl trivial ?_
          obtain ⟨t1569, ht1570, hx1555⟩ := bind_some hx1555
          refine WL.call (some 18) 7 #[(.slice A1562 t1557.length c1563), (.agg #[(.int .i64 1), (.int .i64 1), (.slice (some ⟨g1564, 0, none⟩) [0].length 1)])] (fun fb => by kernel_rfl) (tile_Repeats_calls _ t1557 (Pattern.mk 1 1 [0]) A1562 c1563 (some ⟨g1564, 0, none⟩) 1 t1569 _ (hS1568.ow 1).ofO (hS1568.ow 0).ofO ht1570) (fun v w1571 hR1572 => ?_)
          obtain ⟨rfl, hk_⟩ := hR1572
          have hS1573 := hS1568.keepN hk_
          refine ⟨⟨hS1573.cell 3 rfl 2 rfl, hS1573.cell 3 rfl 0 rfl, hS1573.cell 3 rfl 1 rfl, hS1573.cell 3 rfl 2 rfl, trivial⟩, ?_⟩
          refine seg 10 [] [2, 3, 20] [(2, (.pointer (some ⟨g500, 0, none⟩))), (3, (.int .i64 t493.2)), (20, (.bool (!t1569)))] [] (fun fb => by kernel_rfl) rfl trivial ?_
          injection hx1555 with hx1555
          exact WL.to K (!t1569) [2, 3, 20] rfl ⟨⟨(hS1573.subR []).sub [3, 4] (by decide), hx1555.symm⟩, trivial⟩
        refine WL.setB 14 h1556 rfl ?_
        refine seg 10 [] [2, 3, 20] [(2, (.pointer (some ⟨g500, 0, none⟩))), (3, (.int .i64 t493.2)), (20, (.bool false))] [] (fun fb => by kernel_rfl) rfl trivial ?_
        injection hx1555 with hx1555
        exact WL.to K false [2, 3, 20] rfl ⟨⟨(hS1535.subR []).sub [1, 2] (by decide), hx1555.symm⟩, trivial⟩
      rintro y1574 w1576 ⟨⟨hS1577, hq1575⟩, hF1578⟩
      subst hq1575
      refine seg 11 [] [2, 3, 21] [(2, (.pointer (some ⟨g500, 0, none⟩))), (3, (.int .i64 t493.2)), (21, (.bool x1554))] [] (fun fb => by kernel_rfl) rfl trivial ?_
      refine WL.cutV (T := Bool) 14 (fun t => [(24, (.bool t)), (2, (.pointer (some ⟨g500, 0, none⟩)))]) (fun t => t = (x1554 && (t493.2 == 0))) (fun K => ?_) ?_
      ·
        rcases Bool.eq_false_or_eq_true x1554 with h1579 | h1579
        ·
          refine WL.setB 21 h1579 rfl ?_
          refine seg 14 [] [2, 24] [(2, (.pointer (some ⟨g500, 0, none⟩))), (24, (.bool (t493.2 == 0)))] [] (fun fb => by kernel_rfl) rfl trivial ?_
          exact WL.toV K (t493.2 == 0) [24, 2] rfl (by rw [h1579]; rfl)
        refine WL.setB 21 h1579 rfl ?_
        refine seg 14 [] [2, 24] [(2, (.pointer (some ⟨g500, 0, none⟩))), (24, (.bool false))] [] (fun fb => by kernel_rfl) rfl trivial ?_
        exact WL.toV K false [24, 2] rfl (by rw [h1579]; rfl)
      rintro b1580 rfl
      refine seg 15 [] [2, 25] [(2, (.pointer (some ⟨g500, 0, none⟩))), (25, (.bool (x1554 && (t493.2 == 0))))] [] (fun fb => by kernel_rfl) rfl trivial ?_
      obtain ⟨x1592, hx1593, hx1521⟩ := bind_some hx1521
      refine WL.cutW (T := Bool) 20 (fun t => [(2, (.pointer (some ⟨g500, 0, none⟩))), (30, (.bool t))]) (fun t w1 => (St NoS w w1 [] [blk g500 (.cells #[(.int .i64 t493.1.Width), (.int .i64 t493.1.Height), (.slice A498 t493.1.Cells.length c499)] 25 (0, 0)), rowO 3 encInt A498 c499 t493.1.Cells] ∧ x1592 = t) ∧ CellsOK [] w1) (fun K => ?_) ?_
      ·
        rcases br_some hx1593 with ⟨h1594, hx1593⟩ | ⟨h1594, hx1593⟩
        ·
          refine WL.setB 25 h1594 rfl ?_
          refine segF 17 [.v (.slice A498 t493.1.Cells.length c499)] [2, 25, 27] [(2, (.pointer (some ⟨g500, 0, none⟩))), (25, (.bool true)), (27, (.slice A498 t493.1.Cells.length c499))] [] [3] [(16, ⟨g500, 2, none⟩, (.slice A498 t493.1.Cells.length c499))] (fun fb => by kernel_rfl) rfl trivial rfl ?_
          refine WL.new hS1577 28 [] (fun g => (.slice (some ⟨g, 0, none⟩) 3 3)) (.cells #[(.int .i64 0), (.int .i64 1), (.int .i64 0)] 3 (0, 0)) [] (fun fb g => by kernel_rfl) trivial (fun g1595 w1596 hS1597 => ?_)
          refine ⟨⟨hS1597.cell 1 rfl 2 rfl, hS1597.cell 1 rfl 0 rfl, hS1597.cell 1 rfl 1 rfl, hS1597.cell 1 rfl 2 rfl, trivial⟩, ?_⟩
          have hS1599 : St NoS w w1596 [] [rowO 3 encInt (some ⟨g1595, 0, none⟩) 3 [0, 1, 0], blk g500 (.cells #[(.int .i64 t493.1.Width), (.int .i64 t493.1.Height), (.slice A498 t493.1.Cells.length c499)] 25 (0, 0)), rowO 3 encInt A498 c499 t493.1.Cells] := hS1597.map1 0 _ (fun h => rowO.ofBlk h rfl (Nat.le_of_ble_eq_true (by kernel_rfl))) (fun _ h => by obtain ⟨_, h1, h2⟩ := h; injection h1 with h1; subst h1; exact h2) [1, 2] (by decide) (by decide)
          obtain ⟨t1600, ht1601, hx1593⟩ := bind_some hx1593
          refine WL.call (some 29) 11 #[(.slice A498 t493.1.Cells.length c499), (.slice (some ⟨g1595, 0, none⟩) [0, 1, 0].length 3)] (fun fb => by kernel_rfl) (top_sameInts_calls _ t493.1.Cells [0, 1, 0] A498 c499 (some ⟨g1595, 0, none⟩) 3 t1600 _ (hS1599.ow 2).ofO (hS1599.ow 0).ofO ht1601) (fun v w1602 hR1603 => ?_)
          obtain ⟨rfl, hk_⟩ := hR1603
          have hS1604 := hS1599.keepN hk_
          refine ⟨⟨hS1604.cell 1 rfl 0 rfl, hS1604.cell 1 rfl 1 rfl, hS1604.cell 1 rfl 2 rfl, trivial⟩, ?_⟩
          refine seg 20 [] [2, 30] [(2, (.pointer (some ⟨g500, 0, none⟩))), (30, (.bool t1600))] [] (fun fb => by kernel_rfl) rfl trivial ?_
          injection hx1593 with hx1593
          exact WL.to K t1600 [2, 30] rfl ⟨⟨(hS1604.subR []).sub [1, 2] (by decide), hx1593.symm⟩, trivial⟩
        refine WL.setB 25 h1594 rfl ?_
        refine seg 20 [] [2, 30] [(2, (.pointer (some ⟨g500, 0, none⟩))), (30, (.bool false))] [] (fun fb => by kernel_rfl) rfl trivial ?_
        injection hx1593 with hx1593
        exact WL.to K false [2, 30] rfl ⟨⟨(hS1577.subR []).sub [0, 1] (by decide), hx1593.symm⟩, trivial⟩
      rintro y1605 w1607 ⟨⟨hS1608, hq1606⟩, hF1609⟩
      subst hq1606
      refine seg 21 [] [2, 31] [(2, (.pointer (some ⟨g500, 0, none⟩))), (31, (.bool x1592))] [] (fun fb => by kernel_rfl) rfl trivial ?_
      obtain ⟨x1623, hx1624, hx1521⟩ := bind_some hx1521
      refine WL.cutW (T := Bool) 25 (fun t => [(35, (.bool t))]) (fun t w1 => (St NoS w w1 [] [] ∧ x1623 = t) ∧ CellsOK [] w1) (fun K => ?_) ?_
      ·
        rcases br_some hx1624 with ⟨h1625, hx1624⟩ | ⟨h1625, hx1624⟩
        ·
          refine WL.setB 31 h1625 rfl ?_
          refine segF 22 [.v (.int .i64 t493.1.Width), .v (.int .i64 t493.1.Height), .v (.slice A498 t493.1.Cells.length c499)] [31, 33] [(31, (.bool true)), (33, (.agg #[(.int .i64 t493.1.Width), (.int .i64 t493.1.Height), (.slice A498 t493.1.Cells.length c499)]))] [] [4, 5, 6] [(22, ⟨g500, 0, none⟩, (.int .i64 t493.1.Width)), (22, ⟨g500, 1, none⟩, (.int .i64 t493.1.Height)), (22, ⟨g500, 2, none⟩, (.slice A498 t493.1.Cells.length c499))] (fun fb => by kernel_rfl) rfl trivial rfl ?_
          obtain ⟨t1626, ht1627, hx1624⟩ := bind_some hx1624
          refine WL.call (some 32) 10 #[] (fun fb => by kernel_rfl) (top_chess_calls t1626 _ ht1627) (fun v w1628 hR1629 => ?_)
          obtain ⟨A1631, c1632, rfl, hk_⟩ := hR1629
          have hS1630 : St NoS w w1628 [] [rowO 38 enc_Tile A1631 c1632 t1626, blk g500 (.cells #[(.int .i64 t493.1.Width), (.int .i64 t493.1.Height), (.slice A498 t493.1.Cells.length c499)] 25 (0, 0)), rowO 3 encInt A498 c499 t493.1.Cells] := hS1608.call hk_ [] [0, 1] (fun g hg => hg.elim) (by simp) (by decide)
          refine ⟨⟨hS1630.cell 1 rfl 0 rfl, hS1630.cell 1 rfl 1 rfl, hS1630.cell 1 rfl 2 rfl, trivial⟩, ?_⟩
          obtain ⟨t1633, ht1634, hx1624⟩ := bind_some hx1624
          refine WL.call (some 34) 5 #[(.slice A1631 t1626.length c1632), (.agg #[(.int .i64 t493.1.Width), (.int .i64 t493.1.Height), (.slice A498 t493.1.Cells.length c499)])] (fun fb => by kernel_rfl) (tile_Fits_calls _ t1626 t493.1 A1631 c1632 A498 c499 t1633 _ (hS1630.ow 0).ofO (hS1630.ow 2).ofO ht1634) (fun v w1635 hR1636 => ?_)
          obtain ⟨rfl, hk_⟩ := hR1636
          have hS1637 := hS1630.keepN hk_
          refine ⟨trivial, ?_⟩
          refine seg 25 [] [35] [(35, (.bool t1633))] [] (fun fb => by kernel_rfl) rfl trivial ?_
          injection hx1624 with hx1624
          exact WL.to K t1633 [35] rfl ⟨⟨(hS1637.subR []).sub [] (by decide), hx1624.symm⟩, trivial⟩
        refine WL.setB 31 h1625 rfl ?_
        refine seg 25 [] [35] [(35, (.bool false))] [] (fun fb => by kernel_rfl) rfl trivial ?_
        injection hx1624 with hx1624
        exact WL.to K false [35] rfl ⟨⟨(hS1608.subR []).sub [] (by decide), hx1624.symm⟩, trivial⟩
      rintro y1638 w1640 ⟨⟨hS1641, hq1639⟩, hF1642⟩
      subst hq1639
      refine seg 26 [] [0] [(0, (.bool x1623))] [] (fun fb => by kernel_rfl) rfl trivial ?_
      refine WL.done rfl ?_
      injection hx1521 with hx1521
      exact WX.to Kx1520 x1623 [0] rfl ⟨(hS1641.subR []).sub [] (by decide), hx1521.symm⟩
    refine segF 1 [.v (.int .i64 2), .v (.int .i64 2), .v (.slice (some ⟨g12, 0, none⟩) [0, 1, 1, 0].length 4)] [2, 3, 12] [(2, (.pointer (some ⟨g500, 0, none⟩))), (3, (.int .i64 t493.2)), (12, (.agg #[(.int .i64 2), (.int .i64 2), (.slice (some ⟨g12, 0, none⟩) [0, 1, 1, 0].length 4)]))] [] [0, 1, 2] [(1, ⟨g17, 0, none⟩, (.int .i64 2)), (1, ⟨g17, 1, none⟩, (.int .i64 2)), (1, ⟨g17, 2, none⟩, (.slice (some ⟨g12, 0, none⟩) [0, 1, 1, 0].length 4))] (fun fb => by kernel_rfl) rfl trivial rfl ?_
    obtain ⟨t1643, ht1644, hx1521⟩ := bind_some hx1521
    refine WL.call (some 11) 10 #[] (fun fb => by kernel_rfl) (top_chess_calls t1643 _ ht1644) (fun v w1645 hR1646 => ?_)
    obtain ⟨A1648, c1649, rfl, hk_⟩ := hR1646
    have hS1647 : St NoS w w1645 [] [rowO 38 enc_Tile A1648 c1649 t1643, blk g500 (.cells #[(.int .i64 t493.1.Width), (.int .i64 t493.1.Height), (.slice A498 t493.1.Cells.length c499)] 25 (0, 0)), rowO 3 encInt A498 c499 t493.1.Cells, blk g17 (.cells #[(.int .i64 2), (.int .i64 2), (.slice (some ⟨g12, 0, none⟩) [0, 1, 1, 0].length 4)] 25 (0, 0)), rowO 3 encInt (some ⟨g12, 0, none⟩) 4 [0, 1, 1, 0]] := hS1523.call hk_ [] [0, 1, 2, 3] (fun g hg => hg.elim) (by simp) (by decide)
    refine ⟨⟨hS1647.cell 3 rfl 0 rfl, hS1647.cell 3 rfl 1 rfl, hS1647.cell 3 rfl 2 rfl, hS1647.cell 1 rfl 2 rfl, hS1647.cell 1 rfl 0 rfl, hS1647.cell 1 rfl 1 rfl, hS1647.cell 1 rfl 2 rfl, trivial⟩, ?_⟩
    obtain ⟨t1650, ht1651, hx1521⟩ := bind_some hx1521
    refine WL.call (some 13) 7 #[(.slice A1648 t1643.length c1649), (.agg #[(.int .i64 2), (.int .i64 2), (.slice (some ⟨g12, 0, none⟩) [0, 1, 1, 0].length 4)])] (fun fb => by kernel_rfl) (tile_Repeats_calls _ t1643 (Pattern.mk 2 2 [0, 1, 1, 0]) A1648 c1649 (some ⟨g12, 0, none⟩) 4 t1650 _ (hS1647.ow 0).ofO (hS1647.ow 4).ofO ht1651) (fun v w1652 hR1653 => ?_)
    obtain ⟨rfl, hk_⟩ := hR1653
    have hS1654 := hS1647.keepN hk_
    refine ⟨⟨hS1654.cell 1 rfl 2 rfl, hS1654.cell 1 rfl 0 rfl, hS1654.cell 1 rfl 1 rfl, hS1654.cell 1 rfl 2 rfl, trivial⟩, ?_⟩
    refine seg 4 [] [2, 3, 14] [(2, (.pointer (some ⟨g500, 0, none⟩))), (3, (.int .i64 t493.2)), (14, (.bool t1650))] [] (fun fb => by kernel_rfl) rfl trivial ?_
    obtain ⟨x1673, hx1674, hx1521⟩ := bind_some hx1521
    refine WL.cutW (T := Bool) 10 (fun t => [(2, (.pointer (some ⟨g500, 0, none⟩))), (3, (.int .i64 t493.2)), (20, (.bool t))]) (fun t w1 => (St NoS w w1 [] [blk g500 (.cells #[(.int .i64 t493.1.Width), (.int .i64 t493.1.Height), (.slice A498 t493.1.Cells.length c499)] 25 (0, 0)), rowO 3 encInt A498 c499 t493.1.Cells] ∧ x1673 = t) ∧ CellsOK [] w1) (fun K => ?_) ?_
    ·
      rcases br_some hx1674 with ⟨h1675, hx1674⟩ | ⟨h1675, hx1674⟩
      ·
        refine WL.setB 14 h1675 rfl ?_
        refine WL.new hS1654 16 [] (fun g => (.slice (some ⟨g, 0, none⟩) 1 1)) (.cells #[(.int .i64 0)] 3 (0, 0)) [] (fun fb g => by kernel_rfl) trivial (fun g1676 w1677 hS1678 => ?_)
        refine ⟨⟨hS1678.cell 2 rfl 2 rfl, hS1678.cell 2 rfl 0 rfl, hS1678.cell 2 rfl 1 rfl, hS1678.cell 2 rfl 2 rfl, trivial⟩, ?_⟩
        have hS1680 : St NoS w w1677 [] [rowO 3 encInt (some ⟨g1676, 0, none⟩) 1 [0], rowO 38 enc_Tile A1648 c1649 t1643, blk g500 (.cells #[(.int .i64 t493.1.Width), (.int .i64 t493.1.Height), (.slice A498 t493.1.Cells.length c499)] 25 (0, 0)), rowO 3 encInt A498 c499 t493.1.Cells, blk g17 (.cells #[(.int .i64 2), (.int .i64 2), (.slice (some ⟨g12, 0, none⟩) [0, 1, 1, 0].length 4)] 25 (0, 0)), rowO 3 encInt (some ⟨g12, 0, none⟩) 4 [0, 1, 1, 0]] := hS1678.map1 0 _ (fun h => rowO.ofBlk h rfl (Nat.le_of_ble_eq_true (by kernel_rfl))) (fun _ h => by obtain ⟨_, h1, h2⟩ := h; injection h1 with h1; subst h1; exact h2) [1, 2, 3, 4, 5] (by decide) (by decide)
        refine seg 6 [] [2, 3, 14, 17] [(2, (.pointer (some ⟨g500, 0, none⟩))), (3, (.int .i64 t493.2)), (14, (.bool true)), (17, (.agg #[(.int .i64 1), (.int .i64 1), (.slice (some ⟨g1676, 0, none⟩) [0].length 1)]))] [] (fun fb => by kernel_rfl) rfl trivial ?_
        obtain ⟨t1681, ht1682, hx1674⟩ := bind_some hx1674
        refine WL.call (some 15) 10 #[] (fun fb => by kernel_rfl) (top_chess_calls t1681 _ ht1682) (fun v w1683 hR1684 => ?_)
        obtain ⟨A1686, c1687, rfl, hk_⟩ := hR1684
        have hS1685 : St NoS w w1683 [] [rowO 38 enc_Tile A1686 c1687 t1681, rowO 3 encInt (some ⟨g1676, 0, none⟩) 1 [0], rowO 38 enc_Tile A1648 c1649 t1643, blk g500 (.cells #[(.int .i64 t493.1.Width), (.int .i64 t493.1.Height), (.slice A498 t493.1.Cells.length c499)] 25 (0, 0)), rowO 3 encInt A498 c499 t493.1.Cells, blk g17 (.cells #[(.int .i64 2), (.int .i64 2), (.slice (some ⟨g12, 0, none⟩) [0, 1, 1, 0].length 4)] 25 (0, 0)), rowO 3 encInt (some ⟨g12, 0, none⟩) 4 [0, 1, 1, 0]] := hS1680.call hk_ [] [0, 1, 2, 3, 4, 5] (fun g hg => hg.elim) (by simp) (by decide)
        refine ⟨⟨hS1685.cell 3 rfl 2 rfl, hS1685.cell 3 rfl 0 rfl, hS1685.cell 3 rfl 1 rfl, hS1685.cell 3 rfl 2 rfl, trivial⟩, ?_⟩
        obtain ⟨t1688, ht1689, hx1674⟩ := bind_some hx1674
        refine WL.call (some 18) 7 #[(.slice A1686 t1681.length c1687), (.agg #[(.int .i64 1), (.int .i64 1), (.slice (some ⟨g1676, 0, none⟩) [0].length 1)])] (fun fb => by kernel_rfl) (tile_Repeats_calls _ t1681 (Pattern.mk 1 1 [0]) A1686 c1687 (some ⟨g1676, 0, none⟩) 1 t1688 _ (hS1685.ow 0).ofO (hS1685.ow 1).ofO ht1689) (fun v w1690 hR1691 => ?_)
        obtain ⟨rfl, hk_⟩ := hR1691
        have hS1692 := hS1685.keepN hk_
        refine ⟨⟨hS1692.cell 3 rfl 2 rfl, hS1692.cell 3 rfl 0 rfl, hS1692.cell 3 rfl 1 rfl, hS1692.cell 3 rfl 2 rfl, trivial⟩, ?_⟩
        refine seg 10 [] [2, 3, 20] [(2, (.pointer (some ⟨g500, 0, none⟩))), (3, (.int .i64 t493.2)), (20, (.bool (!t1688)))] [] (fun fb => by kernel_rfl) rfl trivial ?_
        injection hx1674 with hx1674
        exact WL.to K (!t1688) [2, 3, 20] rfl ⟨⟨(hS1692.subR []).sub [3, 4] (by decide), hx1674.symm⟩, trivial⟩
      refine WL.setB 14 h1675 rfl ?_
      refine seg 10 [] [2, 3, 20] [(2, (.pointer (some ⟨g500, 0, none⟩))), (3, (.int .i64 t493.2)), (20, (.bool false))] [] (fun fb => by kernel_rfl) rfl trivial ?_
      injection hx1674 with hx1674
      exact WL.to K false [2, 3, 20] rfl ⟨⟨(hS1654.subR []).sub [1, 2] (by decide), hx1674.symm⟩, trivial⟩
    rintro y1693 w1695 ⟨⟨hS1696, hq1694⟩, hF1697⟩
    subst hq1694
    refine seg 11 [] [2, 3, 21] [(2, (.pointer (some ⟨g500, 0, none⟩))), (3, (.int .i64 t493.2)), (21, (.bool x1673))] [] (fun fb => by kernel_rfl) rfl trivial ?_
    refine WL.cutV (T := Bool) 14 (fun t => [(24, (.bool t)), (2, (.pointer (some ⟨g500, 0, none⟩)))]) (fun t => t = (x1673 && (t493.2 == 0))) (fun K => ?_) ?_
    ·
      rcases Bool.eq_false_or_eq_true x1673 with h1698 | h1698
      ·
        refine WL.setB 21 h1698 rfl ?_
        refine seg 14 [] [2, 24] [(2, (.pointer (some ⟨g500, 0, none⟩))), (24, (.bool (t493.2 == 0)))] [] (fun fb => by kernel_rfl) rfl trivial ?_
        exact WL.toV K (t493.2 == 0) [24, 2] rfl (by rw [h1698]; rfl)
      refine WL.setB 21 h1698 rfl ?_
      refine seg 14 [] [2, 24] [(2, (.pointer (some ⟨g500, 0, none⟩))), (24, (.bool false))] [] (fun fb => by kernel_rfl) rfl trivial ?_
      exact WL.toV K false [24, 2] rfl (by rw [h1698]; rfl)
    rintro b1699 rfl
    refine seg 15 [] [2, 25] [(2, (.pointer (some ⟨g500, 0, none⟩))), (25, (.bool (x1673 && (t493.2 == 0))))] [] (fun fb => by kernel_rfl) rfl trivial ?_
    obtain ⟨x1711, hx1712, hx1521⟩ := bind_some hx1521
    refine WL.cutW (T := Bool) 20 (fun t => [(2, (.pointer (some ⟨g500, 0, none⟩))), (30, (.bool t))]) (fun t w1 => (St NoS w w1 [] [blk g500 (.cells #[(.int .i64 t493.1.Width), (.int .i64 t493.1.Height), (.slice A498 t493.1.Cells.length c499)] 25 (0, 0)), rowO 3 encInt A498 c499 t493.1.Cells] ∧ x1711 = t) ∧ CellsOK [] w1) (fun K => ?_) ?_
    ·
      rcases br_some hx1712 with ⟨h1713, hx1712⟩ | ⟨h1713, hx1712⟩
      ·
        refine WL.setB 25 h1713 rfl ?_
        refine segF 17 [.v (.slice A498 t493.1.Cells.length c499)] [2, 25, 27] [(2, (.pointer (some ⟨g500, 0, none⟩))), (25, (.bool true)), (27, (.slice A498 t493.1.Cells.length c499))] [] [3] [(16, ⟨g500, 2, none⟩, (.slice A498 t493.1.Cells.length c499))] (fun fb => by kernel_rfl) rfl trivial rfl ?_
        refine WL.new hS1696 28 [] (fun g => (.slice (some ⟨g, 0, none⟩) 3 3)) (.cells #[(.int .i64 0), (.int .i64 1), (.int .i64 0)] 3 (0, 0)) [] (fun fb g => by kernel_rfl) trivial (fun g1714 w1715 hS1716 => ?_)
        refine ⟨⟨hS1716.cell 1 rfl 2 rfl, hS1716.cell 1 rfl 0 rfl, hS1716.cell 1 rfl 1 rfl, hS1716.cell 1 rfl 2 rfl, trivial⟩, ?_⟩
        have hS1718 : St NoS w w1715 [] [rowO 3 encInt (some ⟨g1714, 0, none⟩) 3 [0, 1, 0], blk g500 (.cells #[(.int .i64 t493.1.Width), (.int .i64 t493.1.Height), (.slice A498 t493.1.Cells.length c499)] 25 (0, 0)), rowO 3 encInt A498 c499 t493.1.Cells] := hS1716.map1 0 _ (fun h => rowO.ofBlk h rfl (Nat.le_of_ble_eq_true (by kernel_rfl))) (fun _ h => by obtain ⟨_, h1, h2⟩ := h; injection h1 with h1; subst h1; exact h2) [1, 2] (by decide) (by decide)
        obtain ⟨t1719, ht1720, hx1712⟩ := bind_some hx1712
        refine WL.call (some 29) 11 #[(.slice A498 t493.1.Cells.length c499), (.slice (some ⟨g1714, 0, none⟩) [0, 1, 0].length 3)] (fun fb => by kernel_rfl) (top_sameInts_calls _ t493.1.Cells [0, 1, 0] A498 c499 (some ⟨g1714, 0, none⟩) 3 t1719 _ (hS1718.ow 2).ofO (hS1718.ow 0).ofO ht1720) (fun v w1721 hR1722 => ?_)
        obtain ⟨rfl, hk_⟩ := hR1722
        have hS1723 := hS1718.keepN hk_
        refine ⟨⟨hS1723.cell 1 rfl 0 rfl, hS1723.cell 1 rfl 1 rfl, hS1723.cell 1 rfl 2 rfl, trivial⟩, ?_⟩
        refine seg 20 [] [2, 30] [(2, (.pointer (some ⟨g500, 0, none⟩))), (30, (.bool t1719))] [] (fun fb => by kernel_rfl) rfl trivial ?_
        injection hx1712 with hx1712
        exact WL.to K t1719 [2, 30] rfl ⟨⟨(hS1723.subR []).sub [1, 2] (by decide), hx1712.symm⟩, trivial⟩
      refine WL.setB 25 h1713 rfl ?_
      refine seg 20 [] [2, 30] [(2, (.pointer (some ⟨g500, 0, none⟩))), (30, (.bool false))] [] (fun fb => by kernel_rfl) rfl trivial ?_
      injection hx1712 with hx1712
      exact WL.to K false [2, 30] rfl ⟨⟨(hS1696.subR []).sub [0, 1] (by decide), hx1712.symm⟩, trivial⟩
    rintro y1724 w1726 ⟨⟨hS1727, hq1725⟩, hF1728⟩
    subst hq1725
    refine seg 21 [] [2, 31] [(2, (.pointer (some ⟨g500, 0, none⟩))), (31, (.bool x1711))] [] (fun fb => by kernel_rfl) rfl trivial ?_
    obtain ⟨x1742, hx1743, hx1521⟩ := bind_some hx1521
    refine WL.cutW (T := Bool) 25 (fun t => [(35, (.bool t))]) (fun t w1 => (St NoS w w1 [] [] ∧ x1742 = t) ∧ CellsOK [] w1) (fun K => ?_) ?_
    ·
      rcases br_some hx1743 with ⟨h1744, hx1743⟩ | ⟨h1744, hx1743⟩
      ·
        refine WL.setB 31 h1744 rfl ?_
        refine segF 22 [.v (.int .i64 t493.1.Width), .v (.int .i64 t493.1.Height), .v (.slice A498 t493.1.Cells.length c499)] [31, 33] [(31, (.bool true)), (33, (.agg #[(.int .i64 t493.1.Width), (.int .i64 t493.1.Height), (.slice A498 t493.1.Cells.length c499)]))] [] [4, 5, 6] [(22, ⟨g500, 0, none⟩, (.int .i64 t493.1.Width)), (22, ⟨g500, 1, none⟩, (.int .i64 t493.1.Height)), (22, ⟨g500, 2, none⟩, (.slice A498 t493.1.Cells.length c499))] (fun fb => by kernel_rfl) rfl trivial rfl ?_
        obtain ⟨t1745, ht1746, hx1743⟩ := bind_some hx1743
        refine WL.call (some 32) 10 #[] (fun fb => by kernel_rfl) (top_chess_calls t1745 _ ht1746) (fun v w1747 hR1748 => ?_)
        obtain ⟨A1750, c1751, rfl, hk_⟩ := hR1748
        have hS1749 : St NoS w w1747 [] [rowO 38 enc_Tile A1750 c1751 t1745, blk g500 (.cells #[(.int .i64 t493.1.Width), (.int .i64 t493.1.Height), (.slice A498 t493.1.Cells.length c499)] 25 (0, 0)), rowO 3 encInt A498 c499 t493.1.Cells] := hS1727.call hk_ [] [0, 1] (fun g hg => hg.elim) (by simp) (by decide)
        refine ⟨⟨hS1749.cell 1 rfl 0 rfl, hS1749.cell 1 rfl 1 rfl, hS1749.cell 1 rfl 2 rfl, trivial⟩, ?_⟩
        obtain ⟨t1752, ht1753, hx1743⟩ := bind_some hx1743
        refine WL.call (some 34) 5 #[(.slice A1750 t1745.length c1751), (.agg #[(.int .i64 t493.1.Width), (.int .i64 t493.1.Height), (.slice A498 t493.1.Cells.length c499)])] (fun fb => by kernel_rfl) (tile_Fits_calls _ t1745 t493.1 A1750 c1751 A498 c499 t1752 _ (hS1749.ow 0).ofO (hS1749.ow 2).ofO ht1753) (fun v w1754 hR1755 => ?_)
        obtain ⟨rfl, hk_⟩ := hR1755
        have hS1756 := hS1749.keepN hk_
        refine ⟨trivial, ?_⟩
        refine seg 25 [] [35] [(35, (.bool t1752))] [] (fun fb => by kernel_rfl) rfl trivial ?_
        injection hx1743 with hx1743
        exact WL.to K t1752 [35] rfl ⟨⟨(hS1756.subR []).sub [] (by decide), hx1743.symm⟩, trivial⟩
      refine WL.setB 31 h1744 rfl ?_
      refine seg 25 [] [35] [(35, (.bool false))] [] (fun fb => by kernel_rfl) rfl trivial ?_
      injection hx1743 with hx1743
      exact WL.to K false [35] rfl ⟨⟨(hS1727.subR []).sub [] (by decide), hx1743.symm⟩, trivial⟩
    rintro y1757 w1759 ⟨⟨hS1760, hq1758⟩, hF1761⟩
    subst hq1758
    refine seg 26 [] [0] [(0, (.bool x1742))] [] (fun fb => by kernel_rfl) rfl trivial ?_
    refine WL.done rfl ?_
    injection hx1521 with hx1521
    exact WX.to Kx1520 x1742 [0] rfl ⟨(hS1760.subR []).sub [] (by decide), hx1521.symm⟩
  rintro y1765 w1762 ⟨hS1763, hq1764⟩
  subst hq1764
  refine WX.next ?_
  refine WC.ret ?_
  injection hf with hf
  subst hf
  exact WX.ret_ [] (.bool x1520) [] (fun fb => by kernel_rfl) trivial ⟨_, rfl, rfl, hS1763.keep⟩
end Gp
