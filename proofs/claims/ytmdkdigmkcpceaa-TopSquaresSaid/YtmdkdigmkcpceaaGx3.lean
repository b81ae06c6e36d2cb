/- Walks: each function of the program computes its plain function. -/
import Derived.Test.YtmdkdigmkcpceaaGx2
set_option linter.unusedVariables false
set_option linter.unusedSimpArgs false
set_option maxHeartbeats 4000000
namespace Gp
open Go Gw Go.Proofs
theorem top_of_calls (k : Nat) (p0 : List Tile) (p1 : Pattern) (p2 : Bool) (A_p0 : Option Addr) (c_p0 : Nat) (A_p1_Cells : Option Addr) (c_p1_Cells : Nat) (r : Bool) (w : World) (hR0 : RO NoS w (rowR enc_Tile A_p0 c_p0 p0)) (hR1 : RO NoS w (rowR encInt A_p1_Cells c_p1_Cells p1.Cells)) (hf : top_of k p0 p1 p2 = some r) :
    CallsR Try.prog 29 #[(.slice A_p0 p0.length c_p0), (.agg #[(.int .i64 p1.Width), (.int .i64 p1.Height), (.slice A_p1_Cells p1.Cells.length c_p1_Cells)]), (.bool p2)] w (fun v w' => v = (.bool r) ∧ Keeps NoS w w') := by
  have hS : St NoS w w [rowR enc_Tile A_p0 c_p0 p0, rowR encInt A_p1_Cells c_p1_Cells p1.Cells] [] := St.init (ro_cons hR0 (ro_cons hR1 (ro_nil _ _)))
  refine enter 225 Try.func29 rfl Try.ntmps29 rfl ?_
  unfold top_of at hf
  refine WC.seq ?_
  refine WC.region ?_
  refine WL.new hS 4 [] (fun g => (.pointer (some ⟨g, 0, none⟩))) (.cells #[(.int .i64 p1.Width), (.int .i64 p1.Height), (.slice A_p1_Cells p1.Cells.length c_p1_Cells)] 38 (0, 0)) [] (fun fb g => by kernel_rfl) trivial (fun g7360 w7361 hS7362 => ?_)
  refine ⟨trivial, ?_⟩
  refine seg 2 [] [0, 2, 4] [(0, (.slice A_p0 p0.length c_p0)), (2, (.bool p2)), (4, (.pointer (some ⟨g7360, 0, none⟩)))] [] (fun fb => by kernel_rfl) rfl trivial ?_
  refine WL.done rfl ?_
  refine WX.next ?_
  refine WC.seq ?_
  refine WC.seq ?_
  refine WC.region ?_
  refine seg 4 [] [0, 2, 4, 17] [(0, (.slice A_p0 p0.length c_p0)), (2, (.bool p2)), (4, (.pointer (some ⟨g7360, 0, none⟩))), (17, (.bool (decide ((p0.length : Int) > 1000))))] [] (fun fb => by kernel_rfl) rfl trivial ?_
  refine WL.cutV (T := Bool) 8 (fun t => [(21, (.bool t)), (0, (.slice A_p0 p0.length c_p0)), (2, (.bool p2)), (4, (.pointer (some ⟨g7360, 0, none⟩)))]) (fun t => ((decide ((p0.length : Int) > 1000)) || (decide (p1.Width < 1))) = t) (fun K => ?_) ?_
  ·
    rcases Bool.eq_false_or_eq_true (decide ((p0.length : Int) > 1000)) with h7364 | h7364
    ·
      refine WL.setB 17 h7364 rfl ?_
      refine seg 8 [] [0, 2, 4, 21] [(0, (.slice A_p0 p0.length c_p0)), (2, (.bool p2)), (4, (.pointer (some ⟨g7360, 0, none⟩))), (21, (.bool true))] [] (fun fb => by kernel_rfl) rfl trivial ?_
      exact WL.toV K true [21, 0, 2, 4] rfl (by first | (rw [h7364]; done) | (rw [h7364]; rfl))
    refine WL.setB 17 h7364 rfl ?_
    refine seg 8 [.v (.int .i64 p1.Width)] [0, 2, 4, 21] [(0, (.slice A_p0 p0.length c_p0)), (2, (.bool p2)), (4, (.pointer (some ⟨g7360, 0, none⟩))), (21, (.bool (decide (p1.Width < 1))))] [.cell ⟨g7360, 0, none⟩ (.int .i64 p1.Width)] (fun fb => by kernel_rfl) rfl ⟨hS7362.cell 0 rfl 0 rfl, trivial⟩ ?_
    exact WL.toV K (decide (p1.Width < 1)) [21, 0, 2, 4] rfl (by first | (rw [h7364]; done) | (rw [h7364]; rfl))
  rintro b7365 rfl
  refine seg 9 [] [0, 2, 4, 22] [(0, (.slice A_p0 p0.length c_p0)), (2, (.bool p2)), (4, (.pointer (some ⟨g7360, 0, none⟩))), (22, (.bool ((decide ((p0.length : Int) > 1000)) || (decide (p1.Width < 1)))))] [] (fun fb => by kernel_rfl) rfl trivial ?_
  refine WL.cutV (T := Bool) 13 (fun t => [(26, (.bool t)), (0, (.slice A_p0 p0.length c_p0)), (2, (.bool p2)), (4, (.pointer (some ⟨g7360, 0, none⟩)))]) (fun t => (((decide ((p0.length : Int) > 1000)) || (decide (p1.Width < 1))) || (decide (p1.Height < 1))) = t) (fun K => ?_) ?_
  ·
    rcases Bool.eq_false_or_eq_true ((decide ((p0.length : Int) > 1000)) || (decide (p1.Width < 1))) with h7366 | h7366
    ·
      refine WL.setB 22 h7366 rfl ?_
      refine seg 13 [] [0, 2, 4, 26] [(0, (.slice A_p0 p0.length c_p0)), (2, (.bool p2)), (4, (.pointer (some ⟨g7360, 0, none⟩))), (26, (.bool true))] [] (fun fb => by kernel_rfl) rfl trivial ?_
      exact WL.toV K true [26, 0, 2, 4] rfl (by first | (rw [h7366]; done) | (rw [h7366]; rfl))
    refine WL.setB 22 h7366 rfl ?_
    refine seg 13 [.v (.int .i64 p1.Height)] [0, 2, 4, 26] [(0, (.slice A_p0 p0.length c_p0)), (2, (.bool p2)), (4, (.pointer (some ⟨g7360, 0, none⟩))), (26, (.bool (decide (p1.Height < 1))))] [.cell ⟨g7360, 1, none⟩ (.int .i64 p1.Height)] (fun fb => by kernel_rfl) rfl ⟨hS7362.cell 0 rfl 1 rfl, trivial⟩ ?_
    exact WL.toV K (decide (p1.Height < 1)) [26, 0, 2, 4] rfl (by first | (rw [h7366]; done) | (rw [h7366]; rfl))
  rintro b7367 rfl
  refine seg 14 [] [0, 2, 4, 27] [(0, (.slice A_p0 p0.length c_p0)), (2, (.bool p2)), (4, (.pointer (some ⟨g7360, 0, none⟩))), (27, (.bool (((decide ((p0.length : Int) > 1000)) || (decide (p1.Width < 1))) || (decide (p1.Height < 1)))))] [] (fun fb => by kernel_rfl) rfl trivial ?_
  refine WL.cutV (T := Bool) 18 (fun t => [(31, (.bool t)), (0, (.slice A_p0 p0.length c_p0)), (2, (.bool p2)), (4, (.pointer (some ⟨g7360, 0, none⟩)))]) (fun t => ((((decide ((p0.length : Int) > 1000)) || (decide (p1.Width < 1))) || (decide (p1.Height < 1))) || (decide (p1.Width > 40000))) = t) (fun K => ?_) ?_
  ·
    rcases Bool.eq_false_or_eq_true (((decide ((p0.length : Int) > 1000)) || (decide (p1.Width < 1))) || (decide (p1.Height < 1))) with h7368 | h7368
    ·
      refine WL.setB 27 h7368 rfl ?_
      refine seg 18 [] [0, 2, 4, 31] [(0, (.slice A_p0 p0.length c_p0)), (2, (.bool p2)), (4, (.pointer (some ⟨g7360, 0, none⟩))), (31, (.bool true))] [] (fun fb => by kernel_rfl) rfl trivial ?_
      exact WL.toV K true [31, 0, 2, 4] rfl (by first | (rw [h7368]; done) | (rw [h7368]; rfl))
    refine WL.setB 27 h7368 rfl ?_
    refine seg 18 [.v (.int .i64 p1.Width)] [0, 2, 4, 31] [(0, (.slice A_p0 p0.length c_p0)), (2, (.bool p2)), (4, (.pointer (some ⟨g7360, 0, none⟩))), (31, (.bool (decide (p1.Width > 40000))))] [.cell ⟨g7360, 0, none⟩ (.int .i64 p1.Width)] (fun fb => by kernel_rfl) rfl ⟨hS7362.cell 0 rfl 0 rfl, trivial⟩ ?_
    exact WL.toV K (decide (p1.Width > 40000)) [31, 0, 2, 4] rfl (by first | (rw [h7368]; done) | (rw [h7368]; rfl))
  rintro b7369 rfl
  refine seg 19 [] [0, 2, 4, 32] [(0, (.slice A_p0 p0.length c_p0)), (2, (.bool p2)), (4, (.pointer (some ⟨g7360, 0, none⟩))), (32, (.bool ((((decide ((p0.length : Int) > 1000)) || (decide (p1.Width < 1))) || (decide (p1.Height < 1))) || (decide (p1.Width > 40000)))))] [] (fun fb => by kernel_rfl) rfl trivial ?_
  refine WL.cutV (T := Bool) 23 (fun t => [(36, (.bool t)), (0, (.slice A_p0 p0.length c_p0)), (2, (.bool p2)), (4, (.pointer (some ⟨g7360, 0, none⟩)))]) (fun t => (((((decide ((p0.length : Int) > 1000)) || (decide (p1.Width < 1))) || (decide (p1.Height < 1))) || (decide (p1.Width > 40000))) || (decide (p1.Height > 40000))) = t) (fun K => ?_) ?_
  ·
    rcases Bool.eq_false_or_eq_true ((((decide ((p0.length : Int) > 1000)) || (decide (p1.Width < 1))) || (decide (p1.Height < 1))) || (decide (p1.Width > 40000))) with h7370 | h7370
    ·
      refine WL.setB 32 h7370 rfl ?_
      refine seg 23 [] [0, 2, 4, 36] [(0, (.slice A_p0 p0.length c_p0)), (2, (.bool p2)), (4, (.pointer (some ⟨g7360, 0, none⟩))), (36, (.bool true))] [] (fun fb => by kernel_rfl) rfl trivial ?_
      exact WL.toV K true [36, 0, 2, 4] rfl (by first | (rw [h7370]; done) | (rw [h7370]; rfl))
    refine WL.setB 32 h7370 rfl ?_
    refine seg 23 [.v (.int .i64 p1.Height)] [0, 2, 4, 36] [(0, (.slice A_p0 p0.length c_p0)), (2, (.bool p2)), (4, (.pointer (some ⟨g7360, 0, none⟩))), (36, (.bool (decide (p1.Height > 40000))))] [.cell ⟨g7360, 1, none⟩ (.int .i64 p1.Height)] (fun fb => by kernel_rfl) rfl ⟨hS7362.cell 0 rfl 1 rfl, trivial⟩ ?_
    exact WL.toV K (decide (p1.Height > 40000)) [36, 0, 2, 4] rfl (by first | (rw [h7370]; done) | (rw [h7370]; rfl))
  rintro b7371 rfl
  refine seg 24 [] [0, 2, 4, 37] [(0, (.slice A_p0 p0.length c_p0)), (2, (.bool p2)), (4, (.pointer (some ⟨g7360, 0, none⟩))), (37, (.bool (((((decide ((p0.length : Int) > 1000)) || (decide (p1.Width < 1))) || (decide (p1.Height < 1))) || (decide (p1.Width > 40000))) || (decide (p1.Height > 40000)))))] [] (fun fb => by kernel_rfl) rfl trivial ?_
  refine WL.cutV (T := Bool) 31 (fun t => [(44, (.bool t)), (0, (.slice A_p0 p0.length c_p0)), (2, (.bool p2)), (4, (.pointer (some ⟨g7360, 0, none⟩)))]) (fun t => ((((((decide ((p0.length : Int) > 1000)) || (decide (p1.Width < 1))) || (decide (p1.Height < 1))) || (decide (p1.Width > 40000))) || (decide (p1.Height > 40000))) || (decide (w64 (p1.Width * p1.Height) > 40000))) = t) (fun K => ?_) ?_
  ·
    rcases Bool.eq_false_or_eq_true (((((decide ((p0.length : Int) > 1000)) || (decide (p1.Width < 1))) || (decide (p1.Height < 1))) || (decide (p1.Width > 40000))) || (decide (p1.Height > 40000))) with h7372 | h7372
    ·
      refine WL.setB 37 h7372 rfl ?_
      refine seg 31 [] [0, 2, 4, 44] [(0, (.slice A_p0 p0.length c_p0)), (2, (.bool p2)), (4, (.pointer (some ⟨g7360, 0, none⟩))), (44, (.bool true))] [] (fun fb => by kernel_rfl) rfl trivial ?_
      exact WL.toV K true [44, 0, 2, 4] rfl (by first | (rw [h7372]; done) | (rw [h7372]; rfl))
    refine WL.setB 37 h7372 rfl ?_
    refine seg 31 [.v (.int .i64 p1.Width), .v (.int .i64 p1.Height)] [0, 2, 4, 44] [(0, (.slice A_p0 p0.length c_p0)), (2, (.bool p2)), (4, (.pointer (some ⟨g7360, 0, none⟩))), (44, (.bool (decide (w64 (p1.Width * p1.Height) > 40000))))] [.cell ⟨g7360, 0, none⟩ (.int .i64 p1.Width), .cell ⟨g7360, 1, none⟩ (.int .i64 p1.Height)] (fun fb => by kernel_rfl) rfl ⟨hS7362.cell 0 rfl 0 rfl, hS7362.cell 0 rfl 1 rfl, trivial⟩ ?_
    exact WL.toV K (decide (w64 (p1.Width * p1.Height) > 40000)) [44, 0, 2, 4] rfl (by first | (rw [h7372]; done) | (rw [h7372]; rfl))
  rintro b7373 rfl
  refine seg 32 [] [0, 2, 4, 45] [(0, (.slice A_p0 p0.length c_p0)), (2, (.bool p2)), (4, (.pointer (some ⟨g7360, 0, none⟩))), (45, (.bool ((((((decide ((p0.length : Int) > 1000)) || (decide (p1.Width < 1))) || (decide (p1.Height < 1))) || (decide (p1.Width > 40000))) || (decide (p1.Height > 40000))) || (decide (w64 (p1.Width * p1.Height) > 40000)))))] [] (fun fb => by kernel_rfl) rfl trivial ?_
  refine WL.cutV (T := Bool) 42 (fun t => [(55, (.bool t)), (0, (.slice A_p0 p0.length c_p0)), (2, (.bool p2)), (4, (.pointer (some ⟨g7360, 0, none⟩)))]) (fun t => (((((((decide ((p0.length : Int) > 1000)) || (decide (p1.Width < 1))) || (decide (p1.Height < 1))) || (decide (p1.Width > 40000))) || (decide (p1.Height > 40000))) || (decide (w64 (p1.Width * p1.Height) > 40000))) || ((p1.Cells.length : Int) != (w64 (p1.Width * p1.Height)))) = t) (fun K => ?_) ?_
  ·
    rcases Bool.eq_false_or_eq_true ((((((decide ((p0.length : Int) > 1000)) || (decide (p1.Width < 1))) || (decide (p1.Height < 1))) || (decide (p1.Width > 40000))) || (decide (p1.Height > 40000))) || (decide (w64 (p1.Width * p1.Height) > 40000))) with h7374 | h7374
    ·
      refine WL.setB 45 h7374 rfl ?_
      refine seg 42 [] [0, 2, 4, 55] [(0, (.slice A_p0 p0.length c_p0)), (2, (.bool p2)), (4, (.pointer (some ⟨g7360, 0, none⟩))), (55, (.bool true))] [] (fun fb => by kernel_rfl) rfl trivial ?_
      exact WL.toV K true [55, 0, 2, 4] rfl (by first | (rw [h7374]; done) | (rw [h7374]; rfl))
    refine WL.setB 45 h7374 rfl ?_
    refine seg 42 [.v (.slice A_p1_Cells p1.Cells.length c_p1_Cells), .v (.int .i64 p1.Width), .v (.int .i64 p1.Height)] [0, 2, 4, 55] [(0, (.slice A_p0 p0.length c_p0)), (2, (.bool p2)), (4, (.pointer (some ⟨g7360, 0, none⟩))), (55, (.bool ((p1.Cells.length : Int) != (w64 (p1.Width * p1.Height)))))] [.cell ⟨g7360, 2, none⟩ (.slice A_p1_Cells p1.Cells.length c_p1_Cells), .cell ⟨g7360, 0, none⟩ (.int .i64 p1.Width), .cell ⟨g7360, 1, none⟩ (.int .i64 p1.Height)] (fun fb => by kernel_rfl) rfl ⟨hS7362.cell 0 rfl 2 rfl, hS7362.cell 0 rfl 0 rfl, hS7362.cell 0 rfl 1 rfl, trivial⟩ ?_
    exact WL.toV K ((p1.Cells.length : Int) != (w64 (p1.Width * p1.Height))) [55, 0, 2, 4] rfl (by first | (rw [h7374]; done) | (rw [h7374]; rfl))
  rintro b7375 rfl
  refine WL.done rfl ?_
  refine WX.next ?_
  rcases br_some hf with ⟨h7376, hf⟩ | ⟨h7376, hf⟩
  · refine WC.condT2 (fun fb => by kernel_rfl) h7376 ?_
    refine WC.seq ?_
    refine WC.region ?_
    refine seg 1 [] [6] [(6, (.bool false))] [] (fun fb => by kernel_rfl) rfl trivial ?_
    refine WL.done rfl ?_
    refine WX.next ?_
    refine WC.ret ?_
    injection hf with hf
    subst hf
    exact WX.thenR (WX.ret_ [] (.bool false) [] (fun fb => by kernel_rfl) trivial ⟨_, rfl, rfl, hS7362.keep⟩)
  refine WC.condF2 (fun fb => by kernel_rfl) h7376 ?_
  refine WC.skip ?_
  refine WX.next ?_
  refine WC.seq ?_
  refine WC.seq ?_
  refine WC.region ?_
  refine seg 1 [] [0, 2, 4, 7] [(0, (.slice A_p0 p0.length c_p0)), (2, (.bool p2)), (4, (.pointer (some ⟨g7360, 0, none⟩))), (7, (.int .i64 0))] [] (fun fb => by kernel_rfl) rfl trivial ?_
  refine WL.done rfl ?_
  refine WX.next ?_
  obtain ⟨x7490, hx7491, hf⟩ := bind_some hf
  refine WC.cutN (T := Unit) (fun t => [(0, (.slice A_p0 p0.length c_p0)), (2, (.bool p2)), (4, (.pointer (some ⟨g7360, 0, none⟩)))]) (fun t w1 => St NoS w w1 [rowR enc_Tile A_p0 c_p0 p0, rowR encInt A_p1_Cells c_p1_Cells p1.Cells] [blk g7360 (.cells #[(.int .i64 p1.Width), (.int .i64 p1.Height), (.slice A_p1_Cells p1.Cells.length c_p1_Cells)] 38 (0, 0))] ∧ x7490 = .inr t) (fun Kx7490 => ?_) ?_
  ·
    refine WC.block ?_
    refine WC.loop (T := Int) (fun t => [(0, (.slice A_p0 p0.length c_p0)), (2, (.bool p2)), (4, (.pointer (some ⟨g7360, 0, none⟩))), (7, (.int .i64 t))]) (fun n t w1 => St NoS w w1 [rowR enc_Tile A_p0 c_p0 p0, rowR encInt A_p1_Cells c_p1_Cells p1.Cells] [blk g7360 (.cells #[(.int .i64 p1.Width), (.int .i64 p1.Height), (.slice A_p1_Cells p1.Cells.length c_p1_Cells)] 38 (0, 0))] ∧ top_of.l0 n t p0 = some x7490) k 0 [0, 2, 4, 7] rfl ⟨(hS7362.subR [0, 1]).sub [0] (by decide), hx7491⟩ ?_
    rintro k7492 x7489 w7493 ⟨hS7494, hl7495⟩
    cases k7492 with
    | zero => rw [top_of.l0] at hl7495; cases hl7495
    | succ k7492 =>
      rw [top_of.l0] at hl7495
      refine WC.seq ?_
      refine WC.seq ?_
      refine WC.region ?_
      refine seg 4 [] [0, 2, 4, 7, 59] [(0, (.slice A_p0 p0.length c_p0)), (2, (.bool p2)), (4, (.pointer (some ⟨g7360, 0, none⟩))), (7, (.int .i64 x7489)), (59, (.bool (decide (x7489 < (p0.length : Int)))))] [] (fun fb => by kernel_rfl) rfl trivial ?_
      refine WL.done rfl ?_
      refine WX.next ?_
      rcases br_some hl7495 with ⟨h7496, hl7495⟩ | ⟨h7496, hl7495⟩
      · refine WC.condT2 (fun fb => by kernel_rfl) h7496 ?_
        refine WC.skip ?_
        refine WX.next ?_
        refine WC.seq ?_
        refine WC.block ?_
        refine WC.seq ?_
        refine WC.region ?_
        refine seg 2 [] [0, 2, 4, 7, 62, 63] [(0, (.slice A_p0 p0.length c_p0)), (2, (.bool p2)), (4, (.pointer (some ⟨g7360, 0, none⟩))), (7, (.int .i64 x7489)), (62, (.slice A_p0 p0.length c_p0)), (63, (.int .i64 x7489))] [] (fun fb => by kernel_rfl) rfl trivial ?_
        obtain ⟨h7497, hl7495⟩ := as_some hl7495
        refine seg 4 [.v (.int .i64 ((rdD p0 x7489 z_Tile).N)), .v (.int .i64 ((rdD p0 x7489 z_Tile).E)), .v (.int .i64 ((rdD p0 x7489 z_Tile).S)), .v (.int .i64 ((rdD p0 x7489 z_Tile).W))] [0, 2, 4, 7, 65] [(0, (.slice A_p0 p0.length c_p0)), (2, (.bool p2)), (4, (.pointer (some ⟨g7360, 0, none⟩))), (7, (.int .i64 x7489)), (65, (.agg #[(.int .i64 ((rdD p0 x7489 z_Tile).N)), (.int .i64 ((rdD p0 x7489 z_Tile).E)), (.int .i64 ((rdD p0 x7489 z_Tile).S)), (.int .i64 ((rdD p0 x7489 z_Tile).W))]))] [.idx A_p0 x7489 p0.length, .cell ((adr A_p0).add ((x7489).toNat * 4)) (.int .i64 ((rdD p0 x7489 z_Tile).N)), .cell (((adr A_p0).add ((x7489).toNat * 4)).add 1) (.int .i64 ((rdD p0 x7489 z_Tile).E)), .cell (((adr A_p0).add ((x7489).toNat * 4)).add 2) (.int .i64 ((rdD p0 x7489 z_Tile).S)), .cell (((adr A_p0).add ((x7489).toNat * 4)).add 3) (.int .i64 ((rdD p0 x7489 z_Tile).W))] (fun fb => by kernel_rfl) rfl ⟨rowR.adr (hS7494.rd 0).1 h7497.1 h7497.2, rowR.cell (hS7494.rd 0).1 z_Tile h7497.1 h7497.2 0 rfl, rowR.cell (hS7494.rd 0).1 z_Tile h7497.1 h7497.2 1 rfl, rowR.cell (hS7494.rd 0).1 z_Tile h7497.1 h7497.2 2 rfl, rowR.cell (hS7494.rd 0).1 z_Tile h7497.1 h7497.2 3 rfl, trivial⟩ ?_
        refine WL.new hS7494 8 [] (fun g => (.pointer (some ⟨g, 0, none⟩))) (.cells #[(.int .i64 0), (.int .i64 0), (.int .i64 0), (.int .i64 0)] 24 (0, 0)) [] (fun fb g => by kernel_rfl) trivial (fun g7498 w7499 hS7500 => ?_)
        refine ⟨trivial, ?_⟩
        refine WL.store hS7500 0 rfl [(0, (.int .i64 ((rdD p0 x7489 z_Tile).N))), (1, (.int .i64 ((rdD p0 x7489 z_Tile).E))), (2, (.int .i64 ((rdD p0 x7489 z_Tile).S))), (3, (.int .i64 ((rdD p0 x7489 z_Tile).W)))] #[(.int .i64 ((rdD p0 x7489 z_Tile).N)), (.int .i64 ((rdD p0 x7489 z_Tile).E)), (.int .i64 ((rdD p0 x7489 z_Tile).S)), (.int .i64 ((rdD p0 x7489 z_Tile).W))] (fun fb => by kernel_rfl) (by kernel_rfl) rfl [1] (by decide) (by decide) (fun w7502 hS7503 => ?_)
        refine ⟨trivial, ?_⟩
        refine WL.done rfl ?_
        refine WX.next ?_
        refine WC.seq ?_
        refine WC.seq ?_
        refine WC.region ?_
        refine seg 4 [.v (.int .i64 ((rdD p0 x7489 z_Tile).N))] [0, 2, 4, 7, 8, 69] [(0, (.slice A_p0 p0.length c_p0)), (2, (.bool p2)), (4, (.pointer (some ⟨g7360, 0, none⟩))), (7, (.int .i64 x7489)), (8, (.pointer (some ⟨g7498, 0, none⟩))), (69, (.bool (decide ((rdD p0 x7489 z_Tile).N < 0))))] [.cell ⟨g7498, 0, none⟩ (.int .i64 ((rdD p0 x7489 z_Tile).N))] (fun fb => by kernel_rfl) rfl ⟨hS7503.cell 0 rfl 0 rfl, trivial⟩ ?_
        refine WL.cutV (T := Bool) 8 (fun t => [(73, (.bool t)), (0, (.slice A_p0 p0.length c_p0)), (2, (.bool p2)), (4, (.pointer (some ⟨g7360, 0, none⟩))), (7, (.int .i64 x7489)), (8, (.pointer (some ⟨g7498, 0, none⟩)))]) (fun t => ((decide ((rdD p0 x7489 z_Tile).N < 0)) || (decide ((rdD p0 x7489 z_Tile).E < 0))) = t) (fun K => ?_) ?_
        ·
          rcases Bool.eq_false_or_eq_true (decide ((rdD p0 x7489 z_Tile).N < 0)) with h7504 | h7504
          ·
            refine WL.setB 69 h7504 rfl ?_
            refine seg 8 [] [0, 2, 4, 7, 8, 73] [(0, (.slice A_p0 p0.length c_p0)), (2, (.bool p2)), (4, (.pointer (some ⟨g7360, 0, none⟩))), (7, (.int .i64 x7489)), (8, (.pointer (some ⟨g7498, 0, none⟩))), (73, (.bool true))] [] (fun fb => by kernel_rfl) rfl trivial ?_
            exact WL.toV K true [73, 0, 2, 4, 7, 8] rfl (by first | (rw [h7504]; done) | (rw [h7504]; rfl))
          refine WL.setB 69 h7504 rfl ?_
          refine seg 8 [.v (.int .i64 ((rdD p0 x7489 z_Tile).E))] [0, 2, 4, 7, 8, 73] [(0, (.slice A_p0 p0.length c_p0)), (2, (.bool p2)), (4, (.pointer (some ⟨g7360, 0, none⟩))), (7, (.int .i64 x7489)), (8, (.pointer (some ⟨g7498, 0, none⟩))), (73, (.bool (decide ((rdD p0 x7489 z_Tile).E < 0))))] [.cell ⟨g7498, 1, none⟩ (.int .i64 ((rdD p0 x7489 z_Tile).E))] (fun fb => by kernel_rfl) rfl ⟨hS7503.cell 0 rfl 1 rfl, trivial⟩ ?_
          exact WL.toV K (decide ((rdD p0 x7489 z_Tile).E < 0)) [73, 0, 2, 4, 7, 8] rfl (by first | (rw [h7504]; done) | (rw [h7504]; rfl))
        rintro b7505 rfl
        refine seg 9 [] [0, 2, 4, 7, 8, 74] [(0, (.slice A_p0 p0.length c_p0)), (2, (.bool p2)), (4, (.pointer (some ⟨g7360, 0, none⟩))), (7, (.int .i64 x7489)), (8, (.pointer (some ⟨g7498, 0, none⟩))), (74, (.bool ((decide ((rdD p0 x7489 z_Tile).N < 0)) || (decide ((rdD p0 x7489 z_Tile).E < 0)))))] [] (fun fb => by kernel_rfl) rfl trivial ?_
        refine WL.cutV (T := Bool) 13 (fun t => [(78, (.bool t)), (0, (.slice A_p0 p0.length c_p0)), (2, (.bool p2)), (4, (.pointer (some ⟨g7360, 0, none⟩))), (7, (.int .i64 x7489)), (8, (.pointer (some ⟨g7498, 0, none⟩)))]) (fun t => (((decide ((rdD p0 x7489 z_Tile).N < 0)) || (decide ((rdD p0 x7489 z_Tile).E < 0))) || (decide ((rdD p0 x7489 z_Tile).S < 0))) = t) (fun K => ?_) ?_
        ·
          rcases Bool.eq_false_or_eq_true ((decide ((rdD p0 x7489 z_Tile).N < 0)) || (decide ((rdD p0 x7489 z_Tile).E < 0))) with h7506 | h7506
          ·
            refine WL.setB 74 h7506 rfl ?_
            refine seg 13 [] [0, 2, 4, 7, 8, 78] [(0, (.slice A_p0 p0.length c_p0)), (2, (.bool p2)), (4, (.pointer (some ⟨g7360, 0, none⟩))), (7, (.int .i64 x7489)), (8, (.pointer (some ⟨g7498, 0, none⟩))), (78, (.bool true))] [] (fun fb => by kernel_rfl) rfl trivial ?_
            exact WL.toV K true [78, 0, 2, 4, 7, 8] rfl (by first | (rw [h7506]; done) | (rw [h7506]; rfl))
          refine WL.setB 74 h7506 rfl ?_
          refine seg 13 [.v (.int .i64 ((rdD p0 x7489 z_Tile).S))] [0, 2, 4, 7, 8, 78] [(0, (.slice A_p0 p0.length c_p0)), (2, (.bool p2)), (4, (.pointer (some ⟨g7360, 0, none⟩))), (7, (.int .i64 x7489)), (8, (.pointer (some ⟨g7498, 0, none⟩))), (78, (.bool (decide ((rdD p0 x7489 z_Tile).S < 0))))] [.cell ⟨g7498, 2, none⟩ (.int .i64 ((rdD p0 x7489 z_Tile).S))] (fun fb => by kernel_rfl) rfl ⟨hS7503.cell 0 rfl 2 rfl, trivial⟩ ?_
          exact WL.toV K (decide ((rdD p0 x7489 z_Tile).S < 0)) [78, 0, 2, 4, 7, 8] rfl (by first | (rw [h7506]; done) | (rw [h7506]; rfl))
        rintro b7507 rfl
        refine seg 14 [] [0, 2, 4, 7, 8, 79] [(0, (.slice A_p0 p0.length c_p0)), (2, (.bool p2)), (4, (.pointer (some ⟨g7360, 0, none⟩))), (7, (.int .i64 x7489)), (8, (.pointer (some ⟨g7498, 0, none⟩))), (79, (.bool (((decide ((rdD p0 x7489 z_Tile).N < 0)) || (decide ((rdD p0 x7489 z_Tile).E < 0))) || (decide ((rdD p0 x7489 z_Tile).S < 0)))))] [] (fun fb => by kernel_rfl) rfl trivial ?_
        refine WL.cutV (T := Bool) 18 (fun t => [(83, (.bool t)), (0, (.slice A_p0 p0.length c_p0)), (2, (.bool p2)), (4, (.pointer (some ⟨g7360, 0, none⟩))), (7, (.int .i64 x7489)), (8, (.pointer (some ⟨g7498, 0, none⟩)))]) (fun t => ((((decide ((rdD p0 x7489 z_Tile).N < 0)) || (decide ((rdD p0 x7489 z_Tile).E < 0))) || (decide ((rdD p0 x7489 z_Tile).S < 0))) || (decide ((rdD p0 x7489 z_Tile).W < 0))) = t) (fun K => ?_) ?_
        ·
          rcases Bool.eq_false_or_eq_true (((decide ((rdD p0 x7489 z_Tile).N < 0)) || (decide ((rdD p0 x7489 z_Tile).E < 0))) || (decide ((rdD p0 x7489 z_Tile).S < 0))) with h7508 | h7508
          ·
            refine WL.setB 79 h7508 rfl ?_
            refine seg 18 [] [0, 2, 4, 7, 8, 83] [(0, (.slice A_p0 p0.length c_p0)), (2, (.bool p2)), (4, (.pointer (some ⟨g7360, 0, none⟩))), (7, (.int .i64 x7489)), (8, (.pointer (some ⟨g7498, 0, none⟩))), (83, (.bool true))] [] (fun fb => by kernel_rfl) rfl trivial ?_
            exact WL.toV K true [83, 0, 2, 4, 7, 8] rfl (by first | (rw [h7508]; done) | (rw [h7508]; rfl))
          refine WL.setB 79 h7508 rfl ?_
          refine seg 18 [.v (.int .i64 ((rdD p0 x7489 z_Tile).W))] [0, 2, 4, 7, 8, 83] [(0, (.slice A_p0 p0.length c_p0)), (2, (.bool p2)), (4, (.pointer (some ⟨g7360, 0, none⟩))), (7, (.int .i64 x7489)), (8, (.pointer (some ⟨g7498, 0, none⟩))), (83, (.bool (decide ((rdD p0 x7489 z_Tile).W < 0))))] [.cell ⟨g7498, 3, none⟩ (.int .i64 ((rdD p0 x7489 z_Tile).W))] (fun fb => by kernel_rfl) rfl ⟨hS7503.cell 0 rfl 3 rfl, trivial⟩ ?_
          exact WL.toV K (decide ((rdD p0 x7489 z_Tile).W < 0)) [83, 0, 2, 4, 7, 8] rfl (by first | (rw [h7508]; done) | (rw [h7508]; rfl))
        rintro b7509 rfl
        refine seg 19 [] [0, 2, 4, 7, 8, 84] [(0, (.slice A_p0 p0.length c_p0)), (2, (.bool p2)), (4, (.pointer (some ⟨g7360, 0, none⟩))), (7, (.int .i64 x7489)), (8, (.pointer (some ⟨g7498, 0, none⟩))), (84, (.bool ((((decide ((rdD p0 x7489 z_Tile).N < 0)) || (decide ((rdD p0 x7489 z_Tile).E < 0))) || (decide ((rdD p0 x7489 z_Tile).S < 0))) || (decide ((rdD p0 x7489 z_Tile).W < 0)))))] [] (fun fb => by kernel_rfl) rfl trivial ?_
        refine WL.cutV (T := Bool) 23 (fun t => [(88, (.bool t)), (0, (.slice A_p0 p0.length c_p0)), (2, (.bool p2)), (4, (.pointer (some ⟨g7360, 0, none⟩))), (7, (.int .i64 x7489)), (8, (.pointer (some ⟨g7498, 0, none⟩)))]) (fun t => (((((decide ((rdD p0 x7489 z_Tile).N < 0)) || (decide ((rdD p0 x7489 z_Tile).E < 0))) || (decide ((rdD p0 x7489 z_Tile).S < 0))) || (decide ((rdD p0 x7489 z_Tile).W < 0))) || (decide ((rdD p0 x7489 z_Tile).N ≥ 1000))) = t) (fun K => ?_) ?_
        ·
          rcases Bool.eq_false_or_eq_true ((((decide ((rdD p0 x7489 z_Tile).N < 0)) || (decide ((rdD p0 x7489 z_Tile).E < 0))) || (decide ((rdD p0 x7489 z_Tile).S < 0))) || (decide ((rdD p0 x7489 z_Tile).W < 0))) with h7510 | h7510
          ·
            refine WL.setB 84 h7510 rfl ?_
            refine seg 23 [] [0, 2, 4, 7, 8, 88] [(0, (.slice A_p0 p0.length c_p0)), (2, (.bool p2)), (4, (.pointer (some ⟨g7360, 0, none⟩))), (7, (.int .i64 x7489)), (8, (.pointer (some ⟨g7498, 0, none⟩))), (88, (.bool true))] [] (fun fb => by kernel_rfl) rfl trivial ?_
            exact WL.toV K true [88, 0, 2, 4, 7, 8] rfl (by first | (rw [h7510]; done) | (rw [h7510]; rfl))
          refine WL.setB 84 h7510 rfl ?_
          refine seg 23 [.v (.int .i64 ((rdD p0 x7489 z_Tile).N))] [0, 2, 4, 7, 8, 88] [(0, (.slice A_p0 p0.length c_p0)), (2, (.bool p2)), (4, (.pointer (some ⟨g7360, 0, none⟩))), (7, (.int .i64 x7489)), (8, (.pointer (some ⟨g7498, 0, none⟩))), (88, (.bool (decide ((rdD p0 x7489 z_Tile).N ≥ 1000))))] [.cell ⟨g7498, 0, none⟩ (.int .i64 ((rdD p0 x7489 z_Tile).N))] (fun fb => by kernel_rfl) rfl ⟨hS7503.cell 0 rfl 0 rfl, trivial⟩ ?_
          exact WL.toV K (decide ((rdD p0 x7489 z_Tile).N ≥ 1000)) [88, 0, 2, 4, 7, 8] rfl (by first | (rw [h7510]; done) | (rw [h7510]; rfl))
        rintro b7511 rfl
        refine seg 24 [] [0, 2, 4, 7, 8, 89] [(0, (.slice A_p0 p0.length c_p0)), (2, (.bool p2)), (4, (.pointer (some ⟨g7360, 0, none⟩))), (7, (.int .i64 x7489)), (8, (.pointer (some ⟨g7498, 0, none⟩))), (89, (.bool (((((decide ((rdD p0 x7489 z_Tile).N < 0)) || (decide ((rdD p0 x7489 z_Tile).E < 0))) || (decide ((rdD p0 x7489 z_Tile).S < 0))) || (decide ((rdD p0 x7489 z_Tile).W < 0))) || (decide ((rdD p0 x7489 z_Tile).N ≥ 1000)))))] [] (fun fb => by kernel_rfl) rfl trivial ?_
        refine WL.cutV (T := Bool) 28 (fun t => [(93, (.bool t)), (0, (.slice A_p0 p0.length c_p0)), (2, (.bool p2)), (4, (.pointer (some ⟨g7360, 0, none⟩))), (7, (.int .i64 x7489)), (8, (.pointer (some ⟨g7498, 0, none⟩)))]) (fun t => ((((((decide ((rdD p0 x7489 z_Tile).N < 0)) || (decide ((rdD p0 x7489 z_Tile).E < 0))) || (decide ((rdD p0 x7489 z_Tile).S < 0))) || (decide ((rdD p0 x7489 z_Tile).W < 0))) || (decide ((rdD p0 x7489 z_Tile).N ≥ 1000))) || (decide ((rdD p0 x7489 z_Tile).E ≥ 1000))) = t) (fun K => ?_) ?_
        ·
          rcases Bool.eq_false_or_eq_true (((((decide ((rdD p0 x7489 z_Tile).N < 0)) || (decide ((rdD p0 x7489 z_Tile).E < 0))) || (decide ((rdD p0 x7489 z_Tile).S < 0))) || (decide ((rdD p0 x7489 z_Tile).W < 0))) || (decide ((rdD p0 x7489 z_Tile).N ≥ 1000))) with h7512 | h7512
          ·
            refine WL.setB 89 h7512 rfl ?_
            refine seg 28 [] [0, 2, 4, 7, 8, 93] [(0, (.slice A_p0 p0.length c_p0)), (2, (.bool p2)), (4, (.pointer (some ⟨g7360, 0, none⟩))), (7, (.int .i64 x7489)), (8, (.pointer (some ⟨g7498, 0, none⟩))), (93, (.bool true))] [] (fun fb => by kernel_rfl) rfl trivial ?_
            exact WL.toV K true [93, 0, 2, 4, 7, 8] rfl (by first | (rw [h7512]; done) | (rw [h7512]; rfl))
          refine WL.setB 89 h7512 rfl ?_
          refine seg 28 [.v (.int .i64 ((rdD p0 x7489 z_Tile).E))] [0, 2, 4, 7, 8, 93] [(0, (.slice A_p0 p0.length c_p0)), (2, (.bool p2)), (4, (.pointer (some ⟨g7360, 0, none⟩))), (7, (.int .i64 x7489)), (8, (.pointer (some ⟨g7498, 0, none⟩))), (93, (.bool (decide ((rdD p0 x7489 z_Tile).E ≥ 1000))))] [.cell ⟨g7498, 1, none⟩ (.int .i64 ((rdD p0 x7489 z_Tile).E))] (fun fb => by kernel_rfl) rfl ⟨hS7503.cell 0 rfl 1 rfl, trivial⟩ ?_
          exact WL.toV K (decide ((rdD p0 x7489 z_Tile).E ≥ 1000)) [93, 0, 2, 4, 7, 8] rfl (by first | (rw [h7512]; done) | (rw [h7512]; rfl))
        rintro b7513 rfl
        refine seg 29 [] [0, 2, 4, 7, 8, 94] [(0, (.slice A_p0 p0.length c_p0)), (2, (.bool p2)), (4, (.pointer (some ⟨g7360, 0, none⟩))), (7, (.int .i64 x7489)), (8, (.pointer (some ⟨g7498, 0, none⟩))), (94, (.bool ((((((decide ((rdD p0 x7489 z_Tile).N < 0)) || (decide ((rdD p0 x7489 z_Tile).E < 0))) || (decide ((rdD p0 x7489 z_Tile).S < 0))) || (decide ((rdD p0 x7489 z_Tile).W < 0))) || (decide ((rdD p0 x7489 z_Tile).N ≥ 1000))) || (decide ((rdD p0 x7489 z_Tile).E ≥ 1000)))))] [] (fun fb => by kernel_rfl) rfl trivial ?_
        refine WL.cutV (T := Bool) 33 (fun t => [(98, (.bool t)), (0, (.slice A_p0 p0.length c_p0)), (2, (.bool p2)), (4, (.pointer (some ⟨g7360, 0, none⟩))), (7, (.int .i64 x7489)), (8, (.pointer (some ⟨g7498, 0, none⟩)))]) (fun t => (((((((decide ((rdD p0 x7489 z_Tile).N < 0)) || (decide ((rdD p0 x7489 z_Tile).E < 0))) || (decide ((rdD p0 x7489 z_Tile).S < 0))) || (decide ((rdD p0 x7489 z_Tile).W < 0))) || (decide ((rdD p0 x7489 z_Tile).N ≥ 1000))) || (decide ((rdD p0 x7489 z_Tile).E ≥ 1000))) || (decide ((rdD p0 x7489 z_Tile).S ≥ 1000))) = t) (fun K => ?_) ?_
        ·
          rcases Bool.eq_false_or_eq_true ((((((decide ((rdD p0 x7489 z_Tile).N < 0)) || (decide ((rdD p0 x7489 z_Tile).E < 0))) || (decide ((rdD p0 x7489 z_Tile).S < 0))) || (decide ((rdD p0 x7489 z_Tile).W < 0))) || (decide ((rdD p0 x7489 z_Tile).N ≥ 1000))) || (decide ((rdD p0 x7489 z_Tile).E ≥ 1000))) with h7514 | h7514
          ·
            refine WL.setB 94 h7514 rfl ?_
            refine seg 33 [] [0, 2, 4, 7, 8, 98] [(0, (.slice A_p0 p0.length c_p0)), (2, (.bool p2)), (4, (.pointer (some ⟨g7360, 0, none⟩))), (7, (.int .i64 x7489)), (8, (.pointer (some ⟨g7498, 0, none⟩))), (98, (.bool true))] [] (fun fb => by kernel_rfl) rfl trivial ?_
            exact WL.toV K true [98, 0, 2, 4, 7, 8] rfl (by first | (rw [h7514]; done) | (rw [h7514]; rfl))
          refine WL.setB 94 h7514 rfl ?_
          refine seg 33 [.v (.int .i64 ((rdD p0 x7489 z_Tile).S))] [0, 2, 4, 7, 8, 98] [(0, (.slice A_p0 p0.length c_p0)), (2, (.bool p2)), (4, (.pointer (some ⟨g7360, 0, none⟩))), (7, (.int .i64 x7489)), (8, (.pointer (some ⟨g7498, 0, none⟩))), (98, (.bool (decide ((rdD p0 x7489 z_Tile).S ≥ 1000))))] [.cell ⟨g7498, 2, none⟩ (.int .i64 ((rdD p0 x7489 z_Tile).S))] (fun fb => by kernel_rfl) rfl ⟨hS7503.cell 0 rfl 2 rfl, trivial⟩ ?_
          exact WL.toV K (decide ((rdD p0 x7489 z_Tile).S ≥ 1000)) [98, 0, 2, 4, 7, 8] rfl (by first | (rw [h7514]; done) | (rw [h7514]; rfl))
        rintro b7515 rfl
        refine seg 34 [] [0, 2, 4, 7, 8, 99] [(0, (.slice A_p0 p0.length c_p0)), (2, (.bool p2)), (4, (.pointer (some ⟨g7360, 0, none⟩))), (7, (.int .i64 x7489)), (8, (.pointer (some ⟨g7498, 0, none⟩))), (99, (.bool (((((((decide ((rdD p0 x7489 z_Tile).N < 0)) || (decide ((rdD p0 x7489 z_Tile).E < 0))) || (decide ((rdD p0 x7489 z_Tile).S < 0))) || (decide ((rdD p0 x7489 z_Tile).W < 0))) || (decide ((rdD p0 x7489 z_Tile).N ≥ 1000))) || (decide ((rdD p0 x7489 z_Tile).E ≥ 1000))) || (decide ((rdD p0 x7489 z_Tile).S ≥ 1000)))))] [] (fun fb => by kernel_rfl) rfl trivial ?_
        refine WL.cutV (T := Bool) 38 (fun t => [(103, (.bool t)), (0, (.slice A_p0 p0.length c_p0)), (2, (.bool p2)), (4, (.pointer (some ⟨g7360, 0, none⟩))), (7, (.int .i64 x7489)), (8, (.pointer (some ⟨g7498, 0, none⟩)))]) (fun t => ((((((((decide ((rdD p0 x7489 z_Tile).N < 0)) || (decide ((rdD p0 x7489 z_Tile).E < 0))) || (decide ((rdD p0 x7489 z_Tile).S < 0))) || (decide ((rdD p0 x7489 z_Tile).W < 0))) || (decide ((rdD p0 x7489 z_Tile).N ≥ 1000))) || (decide ((rdD p0 x7489 z_Tile).E ≥ 1000))) || (decide ((rdD p0 x7489 z_Tile).S ≥ 1000))) || (decide ((rdD p0 x7489 z_Tile).W ≥ 1000))) = t) (fun K => ?_) ?_
        ·
          rcases Bool.eq_false_or_eq_true (((((((decide ((rdD p0 x7489 z_Tile).N < 0)) || (decide ((rdD p0 x7489 z_Tile).E < 0))) || (decide ((rdD p0 x7489 z_Tile).S < 0))) || (decide ((rdD p0 x7489 z_Tile).W < 0))) || (decide ((rdD p0 x7489 z_Tile).N ≥ 1000))) || (decide ((rdD p0 x7489 z_Tile).E ≥ 1000))) || (decide ((rdD p0 x7489 z_Tile).S ≥ 1000))) with h7516 | h7516
          ·
            refine WL.setB 99 h7516 rfl ?_
            refine seg 38 [] [0, 2, 4, 7, 8, 103] [(0, (.slice A_p0 p0.length c_p0)), (2, (.bool p2)), (4, (.pointer (some ⟨g7360, 0, none⟩))), (7, (.int .i64 x7489)), (8, (.pointer (some ⟨g7498, 0, none⟩))), (103, (.bool true))] [] (fun fb => by kernel_rfl) rfl trivial ?_
            exact WL.toV K true [103, 0, 2, 4, 7, 8] rfl (by first | (rw [h7516]; done) | (rw [h7516]; rfl))
          refine WL.setB 99 h7516 rfl ?_
          refine seg 38 [.v (.int .i64 ((rdD p0 x7489 z_Tile).W))] [0, 2, 4, 7, 8, 103] [(0, (.slice A_p0 p0.length c_p0)), (2, (.bool p2)), (4, (.pointer (some ⟨g7360, 0, none⟩))), (7, (.int .i64 x7489)), (8, (.pointer (some ⟨g7498, 0, none⟩))), (103, (.bool (decide ((rdD p0 x7489 z_Tile).W ≥ 1000))))] [.cell ⟨g7498, 3, none⟩ (.int .i64 ((rdD p0 x7489 z_Tile).W))] (fun fb => by kernel_rfl) rfl ⟨hS7503.cell 0 rfl 3 rfl, trivial⟩ ?_
          exact WL.toV K (decide ((rdD p0 x7489 z_Tile).W ≥ 1000)) [103, 0, 2, 4, 7, 8] rfl (by first | (rw [h7516]; done) | (rw [h7516]; rfl))
        rintro b7517 rfl
        refine WL.done rfl ?_
        refine WX.next ?_
        rcases br_some hl7495 with ⟨h7518, hl7495⟩ | ⟨h7518, hl7495⟩
        · refine WC.condT2 (fun fb => by kernel_rfl) h7518 ?_
          refine WC.seq ?_
          refine WC.region ?_
          refine seg 1 [] [6] [(6, (.bool false))] [] (fun fb => by kernel_rfl) rfl trivial ?_
          refine WL.done rfl ?_
          refine WX.next ?_
          refine WC.ret ?_
          injection hl7495 with hl7495
          subst hl7495
          injection hf with hf
          subst hf
          exact WX.thenR (WX.blockR (WX.thenR (WX.thenR (WX.blockR (WX.thenR (WX.ret_ [] (.bool false) [] (fun fb => by kernel_rfl) trivial ⟨_, rfl, rfl, hS7503.keep⟩))))))
        refine WC.condF2 (fun fb => by kernel_rfl) h7518 ?_
        refine WC.skip ?_
        refine WX.next ?_
        refine WC.seq ?_
        refine WC.region ?_
        refine seg 1 [] [0, 2, 4, 7, 8, 9] [(0, (.slice A_p0 p0.length c_p0)), (2, (.bool p2)), (4, (.pointer (some ⟨g7360, 0, none⟩))), (7, (.int .i64 x7489)), (8, (.pointer (some ⟨g7498, 0, none⟩))), (9, (.int .i64 0))] [] (fun fb => by kernel_rfl) rfl trivial ?_
        refine WL.done rfl ?_
        refine WX.next ?_
        obtain ⟨x7535, hx7536, hl7495⟩ := bind_some hl7495
        refine WC.cutN (T := Unit) (fun t => [(0, (.slice A_p0 p0.length c_p0)), (2, (.bool p2)), (4, (.pointer (some ⟨g7360, 0, none⟩))), (7, (.int .i64 x7489))]) (fun t w1 => St NoS w w1 [rowR enc_Tile A_p0 c_p0 p0, rowR encInt A_p1_Cells c_p1_Cells p1.Cells] [blk g7360 (.cells #[(.int .i64 p1.Width), (.int .i64 p1.Height), (.slice A_p1_Cells p1.Cells.length c_p1_Cells)] 38 (0, 0))] ∧ x7535 = .inr t) (fun Kx7535 => ?_) ?_
        ·
          refine WC.block ?_
          refine WC.loop (T := Int) (fun t => [(0, (.slice A_p0 p0.length c_p0)), (2, (.bool p2)), (4, (.pointer (some ⟨g7360, 0, none⟩))), (7, (.int .i64 x7489)), (8, (.pointer (some ⟨g7498, 0, none⟩))), (9, (.int .i64 t))]) (fun n t w1 => St NoS w w1 [rowR enc_Tile A_p0 c_p0 p0, rowR encInt A_p1_Cells c_p1_Cells p1.Cells] [blk g7360 (.cells #[(.int .i64 p1.Width), (.int .i64 p1.Height), (.slice A_p1_Cells p1.Cells.length c_p1_Cells)] 38 (0, 0)), blk g7498 (.cells #[(.int .i64 ((rdD p0 x7489 z_Tile).N)), (.int .i64 ((rdD p0 x7489 z_Tile).E)), (.int .i64 ((rdD p0 x7489 z_Tile).S)), (.int .i64 ((rdD p0 x7489 z_Tile).W))] 24 (0, 0))] ∧ top_of.l1 n t p0 x7489 = some x7535) k7492 0 [0, 2, 4, 7, 8, 9] rfl ⟨(hS7503.subR [0, 1]).sub [1, 0] (by decide), hx7536⟩ ?_
          rintro k7537 x7534 w7538 ⟨hS7539, hl7540⟩
          cases k7537 with
          | zero => rw [top_of.l1] at hl7540; cases hl7540
          | succ k7537 =>
            rw [top_of.l1] at hl7540
            refine WC.seq ?_
            refine WC.seq ?_
            refine WC.region ?_
            refine seg 3 [] [0, 2, 4, 7, 8, 9, 106] [(0, (.slice A_p0 p0.length c_p0)), (2, (.bool p2)), (4, (.pointer (some ⟨g7360, 0, none⟩))), (7, (.int .i64 x7489)), (8, (.pointer (some ⟨g7498, 0, none⟩))), (9, (.int .i64 x7534)), (106, (.bool (decide (x7534 < x7489))))] [] (fun fb => by kernel_rfl) rfl trivial ?_
            refine WL.done rfl ?_
            refine WX.next ?_
            rcases br_some hl7540 with ⟨h7541, hl7540⟩ | ⟨h7541, hl7540⟩
            · refine WC.condT2 (fun fb => by kernel_rfl) h7541 ?_
              refine WC.skip ?_
              refine WX.next ?_
              refine WC.seq ?_
              refine WC.block ?_
              refine WC.seq ?_
              obtain ⟨h7546, hl7540⟩ := as_some hl7540
              refine WC.regionD ([(3, ((adr A_p0).add ((x7534).toNat * 4)), (.int .i64 ((rdD p0 x7534 z_Tile).N))), (3, (((adr A_p0).add ((x7534).toNat * 4)).add 1), (.int .i64 ((rdD p0 x7534 z_Tile).E))), (3, (((adr A_p0).add ((x7534).toNat * 4)).add 2), (.int .i64 ((rdD p0 x7534 z_Tile).S))), (3, (((adr A_p0).add ((x7534).toNat * 4)).add 3), (.int .i64 ((rdD p0 x7534 z_Tile).W))), (4, ⟨g7498, 0, none⟩, (.int .i64 ((rdD p0 x7489 z_Tile).N))), (4, ⟨g7498, 1, none⟩, (.int .i64 ((rdD p0 x7489 z_Tile).E))), (4, ⟨g7498, 2, none⟩, (.int .i64 ((rdD p0 x7489 z_Tile).S))), (4, ⟨g7498, 3, none⟩, (.int .i64 ((rdD p0 x7489 z_Tile).W)))], [0, 1, 2, 3, 4, 5], [[], [], [0, 1], [0, 1, 2], [], [0, 1, 2, 3, 4]]) [[0, 1, 2, 3, 4, 5]] (by kernel_rfl) (by kernel_rfl) (NoPanic.seq (NoPanic.block (NoPanic.seq (NoPanic.seq (NoPanic.block (NoPanic.block (NoPanic.seq (NoPanic.seq (NoPanic.block (NoPanic.seq (NoPanic.body))))))))))) ?_
              have hS7544 := hS7539.drew
              revert hS7544
              generalize World.drew w7538 = w7543
              intro hS7544
              refine ⟨⟨rowR.cell (hS7544.rd 0).1 z_Tile h7546.1 h7546.2 0 rfl, rowR.cell (hS7544.rd 0).1 z_Tile h7546.1 h7546.2 1 rfl, rowR.cell (hS7544.rd 0).1 z_Tile h7546.1 h7546.2 2 rfl, rowR.cell (hS7544.rd 0).1 z_Tile h7546.1 h7546.2 3 rfl, hS7544.cell 1 rfl 0 rfl, hS7544.cell 1 rfl 1 rfl, hS7544.cell 1 rfl 2 rfl, hS7544.cell 1 rfl 3 rfl, trivial⟩, forallC ?_ (forallN)⟩
              refine segF 6 [.v (.int .i64 ((rdD p0 x7534 z_Tile).N)), .v (.int .i64 ((rdD p0 x7534 z_Tile).E)), .v (.int .i64 ((rdD p0 x7534 z_Tile).S)), .v (.int .i64 ((rdD p0 x7534 z_Tile).W)), .v (.int .i64 ((rdD p0 x7489 z_Tile).N)), .v (.int .i64 ((rdD p0 x7489 z_Tile).E)), .v (.int .i64 ((rdD p0 x7489 z_Tile).S)), .v (.int .i64 ((rdD p0 x7489 z_Tile).W))] [0, 2, 4, 7, 8, 9, 114] [(0, (.slice A_p0 p0.length c_p0)), (2, (.bool p2)), (4, (.pointer (some ⟨g7360, 0, none⟩))), (7, (.int .i64 x7489)), (8, (.pointer (some ⟨g7498, 0, none⟩))), (9, (.int .i64 x7534)), (114, (.bool (((rdD p0 x7534 z_Tile).N) == ((rdD p0 x7489 z_Tile).N) && (((rdD p0 x7534 z_Tile).E) == ((rdD p0 x7489 z_Tile).E) && (((rdD p0 x7534 z_Tile).S) == ((rdD p0 x7489 z_Tile).S) && (((rdD p0 x7534 z_Tile).W) == ((rdD p0 x7489 z_Tile).W)))))))] [.idx A_p0 x7534 p0.length] [0, 1, 2, 3, 4, 5, 6, 7] [(3, ((adr A_p0).add ((x7534).toNat * 4)), (.int .i64 ((rdD p0 x7534 z_Tile).N))), (3, (((adr A_p0).add ((x7534).toNat * 4)).add 1), (.int .i64 ((rdD p0 x7534 z_Tile).E))), (3, (((adr A_p0).add ((x7534).toNat * 4)).add 2), (.int .i64 ((rdD p0 x7534 z_Tile).S))), (3, (((adr A_p0).add ((x7534).toNat * 4)).add 3), (.int .i64 ((rdD p0 x7534 z_Tile).W))), (4, ⟨g7498, 0, none⟩, (.int .i64 ((rdD p0 x7489 z_Tile).N))), (4, ⟨g7498, 1, none⟩, (.int .i64 ((rdD p0 x7489 z_Tile).E))), (4, ⟨g7498, 2, none⟩, (.int .i64 ((rdD p0 x7489 z_Tile).S))), (4, ⟨g7498, 3, none⟩, (.int .i64 ((rdD p0 x7489 z_Tile).W)))] (fun fb => by kernel_rfl) rfl ⟨rowR.adr (hS7544.rd 0).1 h7546.1 h7546.2, trivial⟩ rfl ?_
              refine WL.done rfl ?_
              refine WX.next ?_
              rcases br_some hl7540 with ⟨h7547, hl7540⟩ | ⟨h7547, hl7540⟩
              · refine WC.condT2 (fun fb => by kernel_rfl) h7547 ?_
                refine WC.seq ?_
                refine WC.region ?_
                refine seg 1 [] [6] [(6, (.bool false))] [] (fun fb => by kernel_rfl) rfl trivial ?_
                refine WL.done rfl ?_
                refine WX.next ?_
                refine WC.ret ?_
                injection hl7540 with hl7540
                subst hl7540
                injection hl7495 with hl7495
                subst hl7495
                injection hf with hf
                subst hf
                exact WX.blockR (WX.thenR (WX.thenR (WX.blockR (WX.blockR (WX.thenR (WX.thenR (WX.blockR (WX.thenR (WX.ret_ [] (.bool false) [] (fun fb => by kernel_rfl) trivial ⟨_, rfl, rfl, hS7544.keep⟩)))))))))
              refine WC.condF2 (fun fb => by kernel_rfl) h7547 ?_
              refine WC.skip ?_
              refine WX.blockN (WX.next ?_)
              refine WC.region ?_
              refine seg 3 [] [0, 2, 4, 7, 8, 9] [(0, (.slice A_p0 p0.length c_p0)), (2, (.bool p2)), (4, (.pointer (some ⟨g7360, 0, none⟩))), (7, (.int .i64 x7489)), (8, (.pointer (some ⟨g7498, 0, none⟩))), (9, (.int .i64 (w64 (x7534 + 1))))] [] (fun fb => by kernel_rfl) rfl trivial ?_
              refine WL.done rfl ?_
              exact WX.again k7537 (Nat.lt_succ_self _) (w64 (x7534 + 1)) [0, 2, 4, 7, 8, 9] rfl ⟨(hS7544.subR [0, 1]).sub [0, 1] (by decide), hl7540⟩
            refine WC.condF2 (fun fb => by kernel_rfl) h7541 ?_
            refine WC.exit ?_
            injection hl7540 with hl7540
            exact WX.thenX (WX.thenX (WX.blockHere (WX.to Kx7535 () [0, 2, 4, 7] rfl ⟨(hS7539.subR [0, 1]).sub [0] (by decide), hl7540.symm⟩)))
        rintro y7551 w7548 ⟨hS7549, hq7550⟩
        subst hq7550
        have hl7495 := sum_inr hl7495
        refine WX.blockN (WX.next ?_)
        refine WC.region ?_
        refine seg 3 [] [0, 2, 4, 7] [(0, (.slice A_p0 p0.length c_p0)), (2, (.bool p2)), (4, (.pointer (some ⟨g7360, 0, none⟩))), (7, (.int .i64 (w64 (x7489 + 1))))] [] (fun fb => by kernel_rfl) rfl trivial ?_
        refine WL.done rfl ?_
        exact WX.again k7492 (Nat.lt_succ_self _) (w64 (x7489 + 1)) [0, 2, 4, 7] rfl ⟨(hS7549.subR [0, 1]).sub [0] (by decide), hl7495⟩
      refine WC.condF2 (fun fb => by kernel_rfl) h7496 ?_
      refine WC.exit ?_
      injection hl7495 with hl7495
      exact WX.thenX (WX.thenX (WX.blockHere (WX.to Kx7490 () [0, 2, 4] rfl ⟨(hS7494.subR [0, 1]).sub [0] (by decide), hl7495.symm⟩)))
  rintro y7556 w7553 ⟨hS7554, hq7555⟩
  subst hq7555
  have hf := sum_inr hf
  refine WX.next ?_
  refine WC.seq ?_
  refine WC.seq ?_
  refine WC.region ?_
  refine seg 1 [] [0, 2, 4, 10] [(0, (.slice A_p0 p0.length c_p0)), (2, (.bool p2)), (4, (.pointer (some ⟨g7360, 0, none⟩))), (10, (.int .i64 0))] [] (fun fb => by kernel_rfl) rfl trivial ?_
  refine WL.done rfl ?_
  refine WX.next ?_
  obtain ⟨x7570, hx7571, hf⟩ := bind_some hf
  refine WC.cutN (T := Unit) (fun t => [(0, (.slice A_p0 p0.length c_p0)), (2, (.bool p2)), (4, (.pointer (some ⟨g7360, 0, none⟩)))]) (fun t w1 => St NoS w w1 [rowR enc_Tile A_p0 c_p0 p0, rowR encInt A_p1_Cells c_p1_Cells p1.Cells] [blk g7360 (.cells #[(.int .i64 p1.Width), (.int .i64 p1.Height), (.slice A_p1_Cells p1.Cells.length c_p1_Cells)] 38 (0, 0))] ∧ x7570 = .inr t) (fun Kx7570 => ?_) ?_
  ·
    refine WC.block ?_
    refine WC.loop (T := Int) (fun t => [(0, (.slice A_p0 p0.length c_p0)), (2, (.bool p2)), (4, (.pointer (some ⟨g7360, 0, none⟩))), (10, (.int .i64 t))]) (fun n t w1 => St NoS w w1 [rowR enc_Tile A_p0 c_p0 p0, rowR encInt A_p1_Cells c_p1_Cells p1.Cells] [blk g7360 (.cells #[(.int .i64 p1.Width), (.int .i64 p1.Height), (.slice A_p1_Cells p1.Cells.length c_p1_Cells)] 38 (0, 0))] ∧ top_of.l2 n t p0 p1 = some x7570) k 0 [0, 2, 4, 10] rfl ⟨(hS7554.subR [0, 1]).sub [0] (by decide), hx7571⟩ ?_
    rintro k7572 x7569 w7573 ⟨hS7574, hl7575⟩
    cases k7572 with
    | zero => rw [top_of.l2] at hl7575; cases hl7575
    | succ k7572 =>
      rw [top_of.l2] at hl7575
      refine WC.seq ?_
      refine WC.seq ?_
      refine WC.region ?_
      refine seg 5 [.v (.slice A_p1_Cells p1.Cells.length c_p1_Cells)] [0, 2, 4, 10, 119] [(0, (.slice A_p0 p0.length c_p0)), (2, (.bool p2)), (4, (.pointer (some ⟨g7360, 0, none⟩))), (10, (.int .i64 x7569)), (119, (.bool (decide (x7569 < (p1.Cells.length : Int)))))] [.cell ⟨g7360, 2, none⟩ (.slice A_p1_Cells p1.Cells.length c_p1_Cells)] (fun fb => by kernel_rfl) rfl ⟨hS7574.cell 0 rfl 2 rfl, trivial⟩ ?_
      refine WL.done rfl ?_
      refine WX.next ?_
      rcases br_some hl7575 with ⟨h7576, hl7575⟩ | ⟨h7576, hl7575⟩
      · refine WC.condT2 (fun fb => by kernel_rfl) h7576 ?_
        refine WC.skip ?_
        refine WX.next ?_
        refine WC.seq ?_
        refine WC.block ?_
        refine WC.seq ?_
        refine WC.region ?_
        refine seg 3 [.v (.slice A_p1_Cells p1.Cells.length c_p1_Cells)] [0, 2, 4, 10, 123, 124] [(0, (.slice A_p0 p0.length c_p0)), (2, (.bool p2)), (4, (.pointer (some ⟨g7360, 0, none⟩))), (10, (.int .i64 x7569)), (123, (.slice A_p1_Cells p1.Cells.length c_p1_Cells)), (124, (.int .i64 x7569))] [.cell ⟨g7360, 2, none⟩ (.slice A_p1_Cells p1.Cells.length c_p1_Cells)] (fun fb => by kernel_rfl) rfl ⟨hS7574.cell 0 rfl 2 rfl, trivial⟩ ?_
        obtain ⟨h7577, hl7575⟩ := as_some hl7575
        refine seg 7 [.v (.int .i64 (rdD p1.Cells x7569 0))] [0, 2, 4, 10, 128] [(0, (.slice A_p0 p0.length c_p0)), (2, (.bool p2)), (4, (.pointer (some ⟨g7360, 0, none⟩))), (10, (.int .i64 x7569)), (128, (.bool (decide ((rdD p1.Cells x7569 0) < 0))))] [.idx A_p1_Cells x7569 p1.Cells.length, .cell ((adr A_p1_Cells).add ((x7569).toNat * 1)) (.int .i64 (rdD p1.Cells x7569 0))] (fun fb => by kernel_rfl) rfl ⟨rowR.adr (hS7574.rd 1).1 h7577.1 h7577.2, rowR.cell (hS7574.rd 1).1 0 h7577.1 h7577.2 0 rfl, trivial⟩ ?_
        refine WL.cutV (T := Bool) 16 (fun t => [(137, (.bool t)), (0, (.slice A_p0 p0.length c_p0)), (2, (.bool p2)), (4, (.pointer (some ⟨g7360, 0, none⟩))), (10, (.int .i64 x7569))]) (fun t => ((decide ((rdD p1.Cells x7569 0) < 0)) || (decide ((rdD p1.Cells x7569 0) ≥ (p0.length : Int)))) = t) (fun K => ?_) ?_
        ·
          rcases Bool.eq_false_or_eq_true (decide ((rdD p1.Cells x7569 0) < 0)) with h7578 | h7578
          ·
            refine WL.setB 128 h7578 rfl ?_
            refine seg 16 [] [0, 2, 4, 10, 137] [(0, (.slice A_p0 p0.length c_p0)), (2, (.bool p2)), (4, (.pointer (some ⟨g7360, 0, none⟩))), (10, (.int .i64 x7569)), (137, (.bool true))] [] (fun fb => by kernel_rfl) rfl trivial ?_
            exact WL.toV K true [137, 0, 2, 4, 10] rfl (by first | (rw [h7578]; done) | (rw [h7578]; rfl))
          refine WL.setB 128 h7578 rfl ?_
          refine seg 16 [.v (.slice A_p1_Cells p1.Cells.length c_p1_Cells), .v (.int .i64 (rdD p1.Cells x7569 0))] [0, 2, 4, 10, 137] [(0, (.slice A_p0 p0.length c_p0)), (2, (.bool p2)), (4, (.pointer (some ⟨g7360, 0, none⟩))), (10, (.int .i64 x7569)), (137, (.bool (decide ((rdD p1.Cells x7569 0) ≥ (p0.length : Int)))))] [.cell ⟨g7360, 2, none⟩ (.slice A_p1_Cells p1.Cells.length c_p1_Cells), .idx A_p1_Cells x7569 p1.Cells.length, .cell ((adr A_p1_Cells).add ((x7569).toNat * 1)) (.int .i64 (rdD p1.Cells x7569 0))] (fun fb => by kernel_rfl) rfl ⟨hS7574.cell 0 rfl 2 rfl, rowR.adr (hS7574.rd 1).1 h7577.1 h7577.2, rowR.cell (hS7574.rd 1).1 0 h7577.1 h7577.2 0 rfl, trivial⟩ ?_
          exact WL.toV K (decide ((rdD p1.Cells x7569 0) ≥ (p0.length : Int))) [137, 0, 2, 4, 10] rfl (by first | (rw [h7578]; done) | (rw [h7578]; rfl))
        rintro b7579 rfl
        refine WL.done rfl ?_
        refine WX.next ?_
        rcases br_some hl7575 with ⟨h7580, hl7575⟩ | ⟨h7580, hl7575⟩
        · refine WC.condT2 (fun fb => by kernel_rfl) h7580 ?_
          refine WC.seq ?_
          refine WC.region ?_
          refine seg 1 [] [6] [(6, (.bool false))] [] (fun fb => by kernel_rfl) rfl trivial ?_
          refine WL.done rfl ?_
          refine WX.next ?_
          refine WC.ret ?_
          injection hl7575 with hl7575
          subst hl7575
          injection hf with hf
          subst hf
          exact WX.blockR (WX.thenR (WX.thenR (WX.blockR (WX.thenR (WX.ret_ [] (.bool false) [] (fun fb => by kernel_rfl) trivial ⟨_, rfl, rfl, hS7574.keep⟩)))))
        refine WC.condF2 (fun fb => by kernel_rfl) h7580 ?_
        refine WC.skip ?_
        refine WX.blockN (WX.next ?_)
        refine WC.region ?_
        refine seg 3 [] [0, 2, 4, 10] [(0, (.slice A_p0 p0.length c_p0)), (2, (.bool p2)), (4, (.pointer (some ⟨g7360, 0, none⟩))), (10, (.int .i64 (w64 (x7569 + 1))))] [] (fun fb => by kernel_rfl) rfl trivial ?_
        refine WL.done rfl ?_
        exact WX.again k7572 (Nat.lt_succ_self _) (w64 (x7569 + 1)) [0, 2, 4, 10] rfl ⟨(hS7574.subR [0, 1]).sub [0] (by decide), hl7575⟩
      refine WC.condF2 (fun fb => by kernel_rfl) h7576 ?_
      refine WC.exit ?_
      injection hl7575 with hl7575
      exact WX.thenX (WX.thenX (WX.blockHere (WX.to Kx7570 () [0, 2, 4] rfl ⟨(hS7574.subR [0, 1]).sub [0] (by decide), hl7575.symm⟩)))
  rintro y7584 w7581 ⟨hS7582, hq7583⟩
  subst hq7583
  have hf := sum_inr hf
  refine WX.next ?_
  refine WC.seq ?_
  refine WC.seq ?_
  refine WC.region ?_
  refine seg 1 [] [0, 2, 4, 11] [(0, (.slice A_p0 p0.length c_p0)), (2, (.bool p2)), (4, (.pointer (some ⟨g7360, 0, none⟩))), (11, (.int .i64 0))] [] (fun fb => by kernel_rfl) rfl trivial ?_
  refine WL.done rfl ?_
  refine WX.next ?_
  obtain ⟨x8390, hx8391, hf⟩ := bind_some hf
  refine WC.cutN (T := Unit) (fun t => []) (fun t w1 => St NoS w w1 [rowR enc_Tile A_p0 c_p0 p0, rowR encInt A_p1_Cells c_p1_Cells p1.Cells] [] ∧ x8390 = .inr t) (fun Kx8390 => ?_) ?_
  ·
    refine WC.block ?_
    refine WC.loop (T := Int) (fun t => [(0, (.slice A_p0 p0.length c_p0)), (2, (.bool p2)), (4, (.pointer (some ⟨g7360, 0, none⟩))), (11, (.int .i64 t))]) (fun n t w1 => St NoS w w1 [rowR enc_Tile A_p0 c_p0 p0, rowR encInt A_p1_Cells c_p1_Cells p1.Cells] [blk g7360 (.cells #[(.int .i64 p1.Width), (.int .i64 p1.Height), (.slice A_p1_Cells p1.Cells.length c_p1_Cells)] 38 (0, 0))] ∧ top_of.l3 n t p0 p1 p2 = some x8390) k 0 [0, 2, 4, 11] rfl ⟨(hS7582.subR [0, 1]).sub [0] (by decide), hx8391⟩ ?_
    rintro k8392 x8389 w8393 ⟨hS8394, hl8395⟩
    cases k8392 with
    | zero => rw [top_of.l3] at hl8395; cases hl8395
    | succ k8392 =>
      rw [top_of.l3] at hl8395
      refine WC.seq ?_
      refine WC.seq ?_
      refine WC.region ?_
      refine seg 4 [.v (.int .i64 p1.Height)] [0, 2, 4, 11, 141] [(0, (.slice A_p0 p0.length c_p0)), (2, (.bool p2)), (4, (.pointer (some ⟨g7360, 0, none⟩))), (11, (.int .i64 x8389)), (141, (.bool (decide (x8389 < p1.Height))))] [.cell ⟨g7360, 1, none⟩ (.int .i64 p1.Height)] (fun fb => by kernel_rfl) rfl ⟨hS8394.cell 0 rfl 1 rfl, trivial⟩ ?_
      refine WL.done rfl ?_
      refine WX.next ?_
      rcases br_some hl8395 with ⟨h8396, hl8395⟩ | ⟨h8396, hl8395⟩
      · refine WC.condT2 (fun fb => by kernel_rfl) h8396 ?_
        refine WC.skip ?_
        refine WX.next ?_
        refine WC.seq ?_
        refine WC.block ?_
        refine WC.seq ?_
        refine WC.region ?_
        refine seg 1 [] [0, 2, 4, 11, 12] [(0, (.slice A_p0 p0.length c_p0)), (2, (.bool p2)), (4, (.pointer (some ⟨g7360, 0, none⟩))), (11, (.int .i64 x8389)), (12, (.int .i64 0))] [] (fun fb => by kernel_rfl) rfl trivial ?_
        refine WL.done rfl ?_
        refine WX.next ?_
        obtain ⟨x8657, hx8658, hl8395⟩ := bind_some hl8395
        refine WC.cutN (T := Unit) (fun t => [(0, (.slice A_p0 p0.length c_p0)), (2, (.bool p2)), (4, (.pointer (some ⟨g7360, 0, none⟩))), (11, (.int .i64 x8389))]) (fun t w1 => St NoS w w1 [rowR enc_Tile A_p0 c_p0 p0, rowR encInt A_p1_Cells c_p1_Cells p1.Cells] [blk g7360 (.cells #[(.int .i64 p1.Width), (.int .i64 p1.Height), (.slice A_p1_Cells p1.Cells.length c_p1_Cells)] 38 (0, 0))] ∧ x8657 = .inr t) (fun Kx8657 => ?_) ?_
        ·
          refine WC.block ?_
          refine WC.loop (T := Int) (fun t => [(0, (.slice A_p0 p0.length c_p0)), (2, (.bool p2)), (4, (.pointer (some ⟨g7360, 0, none⟩))), (11, (.int .i64 x8389)), (12, (.int .i64 t))]) (fun n t w1 => St NoS w w1 [rowR enc_Tile A_p0 c_p0 p0, rowR encInt A_p1_Cells c_p1_Cells p1.Cells] [blk g7360 (.cells #[(.int .i64 p1.Width), (.int .i64 p1.Height), (.slice A_p1_Cells p1.Cells.length c_p1_Cells)] 38 (0, 0))] ∧ top_of.l4 n t p0 p1 p2 x8389 = some x8657) k8392 0 [0, 2, 4, 11, 12] rfl ⟨(hS8394.subR [0, 1]).sub [0] (by decide), hx8658⟩ ?_
          rintro k8659 x8656 w8660 ⟨hS8661, hl8662⟩
          cases k8659 with
          | zero => rw [top_of.l4] at hl8662; cases hl8662
          | succ k8659 =>
            rw [top_of.l4] at hl8662
            refine WC.seq ?_
            refine WC.seq ?_
            refine WC.region ?_
            refine seg 4 [.v (.int .i64 p1.Width)] [0, 2, 4, 11, 12, 147] [(0, (.slice A_p0 p0.length c_p0)), (2, (.bool p2)), (4, (.pointer (some ⟨g7360, 0, none⟩))), (11, (.int .i64 x8389)), (12, (.int .i64 x8656)), (147, (.bool (decide (x8656 < p1.Width))))] [.cell ⟨g7360, 0, none⟩ (.int .i64 p1.Width)] (fun fb => by kernel_rfl) rfl ⟨hS8661.cell 0 rfl 0 rfl, trivial⟩ ?_
            refine WL.done rfl ?_
            refine WX.next ?_
            rcases br_some hl8662 with ⟨h8663, hl8662⟩ | ⟨h8663, hl8662⟩
            · refine WC.condT2 (fun fb => by kernel_rfl) h8663 ?_
              refine WC.skip ?_
              refine WX.next ?_
              refine WC.seq ?_
              refine WC.block ?_
              refine WC.seq ?_
              refine WC.region ?_
              refine seg 9 [.v (.slice A_p1_Cells p1.Cells.length c_p1_Cells), .v (.int .i64 p1.Width)] [0, 2, 4, 11, 12, 150, 152, 158] [(0, (.slice A_p0 p0.length c_p0)), (2, (.bool p2)), (4, (.pointer (some ⟨g7360, 0, none⟩))), (11, (.int .i64 x8389)), (12, (.int .i64 x8656)), (150, (.slice A_p0 p0.length c_p0)), (152, (.slice A_p1_Cells p1.Cells.length c_p1_Cells)), (158, (.int .i64 (w64 ((w64 (x8389 * p1.Width)) + x8656))))] [.cell ⟨g7360, 2, none⟩ (.slice A_p1_Cells p1.Cells.length c_p1_Cells), .cell ⟨g7360, 0, none⟩ (.int .i64 p1.Width)] (fun fb => by kernel_rfl) rfl ⟨hS8661.cell 0 rfl 2 rfl, hS8661.cell 0 rfl 0 rfl, trivial⟩ ?_
              obtain ⟨h8664, hl8662⟩ := as_some hl8662
              refine seg 11 [.v (.int .i64 (rdD p1.Cells (w64 ((w64 (x8389 * p1.Width)) + x8656)) 0))] [0, 2, 4, 11, 12, 150, 160] [(0, (.slice A_p0 p0.length c_p0)), (2, (.bool p2)), (4, (.pointer (some ⟨g7360, 0, none⟩))), (11, (.int .i64 x8389)), (12, (.int .i64 x8656)), (150, (.slice A_p0 p0.length c_p0)), (160, (.int .i64 (rdD p1.Cells (w64 ((w64 (x8389 * p1.Width)) + x8656)) 0)))] [.idx A_p1_Cells (w64 ((w64 (x8389 * p1.Width)) + x8656)) p1.Cells.length, .cell ((adr A_p1_Cells).add ((w64 ((w64 (x8389 * p1.Width)) + x8656)).toNat * 1)) (.int .i64 (rdD p1.Cells (w64 ((w64 (x8389 * p1.Width)) + x8656)) 0))] (fun fb => by kernel_rfl) rfl ⟨rowR.adr (hS8661.rd 1).1 h8664.1 h8664.2, rowR.cell (hS8661.rd 1).1 0 h8664.1 h8664.2 0 rfl, trivial⟩ ?_
              obtain ⟨h8665, hl8662⟩ := as_some hl8662
              refine seg 13 [.v (.int .i64 ((rdD p0 (rdD p1.Cells (w64 ((w64 (x8389 * p1.Width)) + x8656)) 0) z_Tile).N)), .v (.int .i64 ((rdD p0 (rdD p1.Cells (w64 ((w64 (x8389 * p1.Width)) + x8656)) 0) z_Tile).E)), .v (.int .i64 ((rdD p0 (rdD p1.Cells (w64 ((w64 (x8389 * p1.Width)) + x8656)) 0) z_Tile).S)), .v (.int .i64 ((rdD p0 (rdD p1.Cells (w64 ((w64 (x8389 * p1.Width)) + x8656)) 0) z_Tile).W))] [0, 2, 4, 11, 12, 162] [(0, (.slice A_p0 p0.length c_p0)), (2, (.bool p2)), (4, (.pointer (some ⟨g7360, 0, none⟩))), (11, (.int .i64 x8389)), (12, (.int .i64 x8656)), (162, (.agg #[(.int .i64 ((rdD p0 (rdD p1.Cells (w64 ((w64 (x8389 * p1.Width)) + x8656)) 0) z_Tile).N)), (.int .i64 ((rdD p0 (rdD p1.Cells (w64 ((w64 (x8389 * p1.Width)) + x8656)) 0) z_Tile).E)), (.int .i64 ((rdD p0 (rdD p1.Cells (w64 ((w64 (x8389 * p1.Width)) + x8656)) 0) z_Tile).S)), (.int .i64 ((rdD p0 (rdD p1.Cells (w64 ((w64 (x8389 * p1.Width)) + x8656)) 0) z_Tile).W))]))] [.idx A_p0 (rdD p1.Cells (w64 ((w64 (x8389 * p1.Width)) + x8656)) 0) p0.length, .cell ((adr A_p0).add (((rdD p1.Cells (w64 ((w64 (x8389 * p1.Width)) + x8656)) 0)).toNat * 4)) (.int .i64 ((rdD p0 (rdD p1.Cells (w64 ((w64 (x8389 * p1.Width)) + x8656)) 0) z_Tile).N)), .cell (((adr A_p0).add (((rdD p1.Cells (w64 ((w64 (x8389 * p1.Width)) + x8656)) 0)).toNat * 4)).add 1) (.int .i64 ((rdD p0 (rdD p1.Cells (w64 ((w64 (x8389 * p1.Width)) + x8656)) 0) z_Tile).E)), .cell (((adr A_p0).add (((rdD p1.Cells (w64 ((w64 (x8389 * p1.Width)) + x8656)) 0)).toNat * 4)).add 2) (.int .i64 ((rdD p0 (rdD p1.Cells (w64 ((w64 (x8389 * p1.Width)) + x8656)) 0) z_Tile).S)), .cell (((adr A_p0).add (((rdD p1.Cells (w64 ((w64 (x8389 * p1.Width)) + x8656)) 0)).toNat * 4)).add 3) (.int .i64 ((rdD p0 (rdD p1.Cells (w64 ((w64 (x8389 * p1.Width)) + x8656)) 0) z_Tile).W))] (fun fb => by kernel_rfl) rfl ⟨rowR.adr (hS8661.rd 0).1 h8665.1 h8665.2, rowR.cell (hS8661.rd 0).1 z_Tile h8665.1 h8665.2 0 rfl, rowR.cell (hS8661.rd 0).1 z_Tile h8665.1 h8665.2 1 rfl, rowR.cell (hS8661.rd 0).1 z_Tile h8665.1 h8665.2 2 rfl, rowR.cell (hS8661.rd 0).1 z_Tile h8665.1 h8665.2 3 rfl, trivial⟩ ?_
              refine WL.new hS8661 13 [] (fun g => (.pointer (some ⟨g, 0, none⟩))) (.cells #[(.int .i64 0), (.int .i64 0), (.int .i64 0), (.int .i64 0)] 24 (0, 0)) [] (fun fb g => by kernel_rfl) trivial (fun g8666 w8667 hS8668 => ?_)
              refine ⟨trivial, ?_⟩
              refine WL.store hS8668 0 rfl [(0, (.int .i64 ((rdD p0 (rdD p1.Cells (w64 ((w64 (x8389 * p1.Width)) + x8656)) 0) z_Tile).N))), (1, (.int .i64 ((rdD p0 (rdD p1.Cells (w64 ((w64 (x8389 * p1.Width)) + x8656)) 0) z_Tile).E))), (2, (.int .i64 ((rdD p0 (rdD p1.Cells (w64 ((w64 (x8389 * p1.Width)) + x8656)) 0) z_Tile).S))), (3, (.int .i64 ((rdD p0 (rdD p1.Cells (w64 ((w64 (x8389 * p1.Width)) + x8656)) 0) z_Tile).W)))] #[(.int .i64 ((rdD p0 (rdD p1.Cells (w64 ((w64 (x8389 * p1.Width)) + x8656)) 0) z_Tile).N)), (.int .i64 ((rdD p0 (rdD p1.Cells (w64 ((w64 (x8389 * p1.Width)) + x8656)) 0) z_Tile).E)), (.int .i64 ((rdD p0 (rdD p1.Cells (w64 ((w64 (x8389 * p1.Width)) + x8656)) 0) z_Tile).S)), (.int .i64 ((rdD p0 (rdD p1.Cells (w64 ((w64 (x8389 * p1.Width)) + x8656)) 0) z_Tile).W))] (fun fb => by kernel_rfl) (by kernel_rfl) rfl [1] (by decide) (by decide) (fun w8670 hS8671 => ?_)
              refine ⟨trivial, ?_⟩
              refine WL.done rfl ?_
              refine WX.next ?_
              refine WC.seq ?_
              refine WC.seq ?_
              obtain ⟨x8699, hx8700, hl8662⟩ := bind_some hl8662
              refine WC.cutN (T := Bool) (fun t => [(0, (.slice A_p0 p0.length c_p0)), (2, (.bool p2)), (4, (.pointer (some ⟨g7360, 0, none⟩))), (11, (.int .i64 x8389)), (12, (.int .i64 x8656)), (13, (.pointer (some ⟨g8666, 0, none⟩))), (193, (.bool t))]) (fun t w1 => St NoS w w1 [rowR enc_Tile A_p0 c_p0 p0, rowR encInt A_p1_Cells c_p1_Cells p1.Cells] [blk g7360 (.cells #[(.int .i64 p1.Width), (.int .i64 p1.Height), (.slice A_p1_Cells p1.Cells.length c_p1_Cells)] 38 (0, 0)), blk g8666 (.cells #[(.int .i64 ((rdD p0 (rdD p1.Cells (w64 ((w64 (x8389 * p1.Width)) + x8656)) 0) z_Tile).N)), (.int .i64 ((rdD p0 (rdD p1.Cells (w64 ((w64 (x8389 * p1.Width)) + x8656)) 0) z_Tile).E)), (.int .i64 ((rdD p0 (rdD p1.Cells (w64 ((w64 (x8389 * p1.Width)) + x8656)) 0) z_Tile).S)), (.int .i64 ((rdD p0 (rdD p1.Cells (w64 ((w64 (x8389 * p1.Width)) + x8656)) 0) z_Tile).W))] 24 (0, 0))] ∧ x8699 = t) (fun Kx8699 => ?_) ?_
              ·
                rcases br_some hx8700 with ⟨h8701, hx8700⟩ | ⟨h8701, hx8700⟩
                ·
                  obtain ⟨h8710, hx8700⟩ := as_some hx8700
                  obtain ⟨h8711, hx8700⟩ := as_some hx8700
                  obtain ⟨h8712, hx8700⟩ := as_some hx8700
                  refine WC.regionD ([(10, ⟨g8666, 1, none⟩, (.int .i64 ((rdD p0 (rdD p1.Cells (w64 ((w64 (x8389 * p1.Width)) + x8656)) 0) z_Tile).E))), (13, ⟨g7360, 2, none⟩, (.slice A_p1_Cells p1.Cells.length c_p1_Cells)), (16, ⟨g7360, 0, none⟩, (.int .i64 p1.Width)), (21, ⟨g7360, 0, none⟩, (.int .i64 p1.Width)), (25, ((adr A_p1_Cells).add ((w64 ((w64 (x8389 * p1.Width)) + (Int.tmod (w64 (x8656 + 1)) p1.Width))).toNat * 1)), (.int .i64 (rdD p1.Cells (w64 ((w64 (x8389 * p1.Width)) + (Int.tmod (w64 (x8656 + 1)) p1.Width))) 0))), (28, (((adr A_p0).add (((rdD p1.Cells (w64 ((w64 (x8389 * p1.Width)) + (Int.tmod (w64 (x8656 + 1)) p1.Width))) 0)).toNat * 4)).add 3), (.int .i64 ((rdD p0 (rdD p1.Cells (w64 ((w64 (x8389 * p1.Width)) + (Int.tmod (w64 (x8656 + 1)) p1.Width))) 0) z_Tile).W)))], [0, 1, 2, 3, 4, 5, 6, 7, 8, 9, 10, 11, 12, 13, 14, 15, 16, 17, 18, 19, 20, 21, 22, 23, 24, 25, 26, 27, 28, 29, 30], [[], [0], [0, 1], [0, 1, 2], [0, 1], [0, 1, 4], [0, 1, 2, 3, 4, 5], [0, 1, 2, 3, 4, 5, 6], [0, 1, 2, 3, 4, 5, 6, 7], [0, 1, 2, 3, 4, 5, 6, 7, 8], [0, 1, 2, 3, 4, 5, 6, 7, 8, 9], [0, 1, 2, 3, 4, 5, 6, 7, 8], [0, 1, 2, 3, 4, 5, 6, 7, 8], [0, 1, 2, 3, 4, 5, 6, 7, 8, 12], [0, 1, 2, 3, 4, 5, 6, 7, 8], [0, 1, 2, 3, 4, 5, 6, 7, 8], [0, 1, 2, 3, 4, 5, 6, 7, 8, 15], [0, 1, 2, 3, 4, 5, 6, 7, 8, 14, 15, 16], [0, 1, 2, 3, 4, 5, 6, 7, 8], [0, 1, 2, 3, 4, 5, 6, 7, 8, 18], [0, 1, 2, 3, 4, 5, 6, 7, 8], [0, 1, 2, 3, 4, 5, 6, 7, 8, 20], [0, 1, 2, 3, 4, 5, 6, 7, 8, 18, 19, 20, 21], [0, 1, 2, 3, 4, 5, 6, 7, 8, 14, 15, 16, 17, 18, 19, 20, 21, 22], [0, 1, 2, 3, 4, 5, 6, 7, 8, 12, 13, 14, 15, 16, 17, 18, 19, 20, 21, 22, 23], [0, 1, 2, 3, 4, 5, 6, 7, 8, 12, 13, 14, 15, 16, 17, 18, 19, 20, 21, 22, 23, 24], [0, 1, 2, 3, 4, 5, 6, 7, 8, 11, 12, 13, 14, 15, 16, 17, 18, 19, 20, 21, 22, 23, 24, 25], [0, 1, 2, 3, 4, 5, 6, 7, 8, 11, 12, 13, 14, 15, 16, 17, 18, 19, 20, 21, 22, 23, 24, 25, 26], [0, 1, 2, 3, 4, 5, 6, 7, 8, 11, 12, 13, 14, 15, 16, 17, 18, 19, 20, 21, 22, 23, 24, 25, 26, 27], [0, 1, 2, 3, 4, 5, 6, 7, 8, 9, 10, 11, 12, 13, 14, 15, 16, 17, 18, 19, 20, 21, 22, 23, 24, 25, 26, 27, 28], [0, 1, 2, 3, 4, 5, 6, 7, 8, 9, 10, 11, 12, 13, 14, 15, 16, 17, 18, 19, 20, 21, 22, 23, 24, 25, 26, 27, 28, 29]]) [[0, 1, 2, 3, 4, 5, 6, 7, 8, 9, 10, 11, 12, 13, 14, 15, 16, 17, 18, 19, 20, 21, 22, 23, 24, 25, 26, 27, 28, 29, 30]] (by kernel_rfl) (by kernel_rfl) (NoPanic.seq (NoPanic.seq (NoPanic.block (NoPanic.seq (NoPanic.seq (NoPanic.block (NoPanic.block (NoPanic.seq (NoPanic.seq (NoPanic.block (NoPanic.seq (NoPanic.body)))))))))))) ?_
                  have hS8706 := hS8671.drew
                  revert hS8706
                  generalize World.drew w8670 = w8705
                  intro hS8706
                  refine ⟨⟨hS8706.cell 0 rfl 1 rfl, hS8706.cell 1 rfl 2 rfl, hS8706.cell 1 rfl 0 rfl, hS8706.cell 1 rfl 0 rfl, rowR.cell (hS8706.rd 1).1 0 h8711.1 h8711.2 0 rfl, rowR.cell (hS8706.rd 0).1 z_Tile h8712.1 h8712.2 3 rfl, trivial⟩, forallC ?_ (forallN)⟩
                  refine seg 2 [] [0, 2, 4, 11, 12, 13, 164] [(0, (.slice A_p0 p0.length c_p0)), (2, (.bool p2)), (4, (.pointer (some ⟨g7360, 0, none⟩))), (11, (.int .i64 x8389)), (12, (.int .i64 x8656)), (13, (.pointer (some ⟨g8666, 0, none⟩))), (164, (.bool p2))] [] (fun fb => by kernel_rfl) rfl trivial ?_
                  refine WL.setB 164 h8701 rfl ?_
                  refine segF 31 [.v (.int .i64 ((rdD p0 (rdD p1.Cells (w64 ((w64 (x8389 * p1.Width)) + x8656)) 0) z_Tile).E)), .v (.slice A_p1_Cells p1.Cells.length c_p1_Cells), .v (.int .i64 p1.Width), .v (.int .i64 p1.Width), .v (.int .i64 (rdD p1.Cells (w64 ((w64 (x8389 * p1.Width)) + (Int.tmod (w64 (x8656 + 1)) p1.Width))) 0)), .v (.int .i64 ((rdD p0 (rdD p1.Cells (w64 ((w64 (x8389 * p1.Width)) + (Int.tmod (w64 (x8656 + 1)) p1.Width))) 0) z_Tile).W))] [0, 2, 4, 11, 12, 13, 193] [(0, (.slice A_p0 p0.length c_p0)), (2, (.bool p2)), (4, (.pointer (some ⟨g7360, 0, none⟩))), (11, (.int .i64 x8389)), (12, (.int .i64 x8656)), (13, (.pointer (some ⟨g8666, 0, none⟩))), (193, (.bool (((rdD p0 (rdD p1.Cells (w64 ((w64 (x8389 * p1.Width)) + x8656)) 0) z_Tile).E) != ((rdD p0 (rdD p1.Cells (w64 ((w64 (x8389 * p1.Width)) + (Int.tmod (w64 (x8656 + 1)) p1.Width))) 0) z_Tile).W))))] [.ne p1.Width, .idx A_p1_Cells (w64 ((w64 (x8389 * p1.Width)) + (Int.tmod (w64 (x8656 + 1)) p1.Width))) p1.Cells.length, .idx A_p0 (rdD p1.Cells (w64 ((w64 (x8389 * p1.Width)) + (Int.tmod (w64 (x8656 + 1)) p1.Width))) 0) p0.length] [0, 1, 2, 3, 4, 5] [(10, ⟨g8666, 1, none⟩, (.int .i64 ((rdD p0 (rdD p1.Cells (w64 ((w64 (x8389 * p1.Width)) + x8656)) 0) z_Tile).E))), (13, ⟨g7360, 2, none⟩, (.slice A_p1_Cells p1.Cells.length c_p1_Cells)), (16, ⟨g7360, 0, none⟩, (.int .i64 p1.Width)), (21, ⟨g7360, 0, none⟩, (.int .i64 p1.Width)), (25, ((adr A_p1_Cells).add ((w64 ((w64 (x8389 * p1.Width)) + (Int.tmod (w64 (x8656 + 1)) p1.Width))).toNat * 1)), (.int .i64 (rdD p1.Cells (w64 ((w64 (x8389 * p1.Width)) + (Int.tmod (w64 (x8656 + 1)) p1.Width))) 0))), (28, (((adr A_p0).add (((rdD p1.Cells (w64 ((w64 (x8389 * p1.Width)) + (Int.tmod (w64 (x8656 + 1)) p1.Width))) 0)).toNat * 4)).add 3), (.int .i64 ((rdD p0 (rdD p1.Cells (w64 ((w64 (x8389 * p1.Width)) + (Int.tmod (w64 (x8656 + 1)) p1.Width))) 0) z_Tile).W)))] (fun fb => by kernel_rfl) rfl ⟨h8710, rowR.adr (hS8706.rd 1).1 h8711.1 h8711.2, rowR.adr (hS8706.rd 0).1 h8712.1 h8712.2, trivial⟩ rfl ?_
                  refine WL.done rfl ?_
                  injection hx8700 with hx8700
                  exact WX.to Kx8699 (((rdD p0 (rdD p1.Cells (w64 ((w64 (x8389 * p1.Width)) + x8656)) 0) z_Tile).E) != ((rdD p0 (rdD p1.Cells (w64 ((w64 (x8389 * p1.Width)) + (Int.tmod (w64 (x8656 + 1)) p1.Width))) 0) z_Tile).W)) [0, 2, 4, 11, 12, 13, 193] rfl ⟨(hS8706.subR [0, 1]).sub [1, 0] (by decide), hx8700.symm⟩
                rcases br_some hx8700 with ⟨h8713, hx8700⟩ | ⟨h8713, hx8700⟩
                ·
                  obtain ⟨h8722, hx8700⟩ := as_some hx8700
                  obtain ⟨h8723, hx8700⟩ := as_some hx8700
                  obtain ⟨h8724, hx8700⟩ := as_some hx8700
                  refine WC.regionD ([(5, ⟨g7360, 0, none⟩, (.int .i64 p1.Width)), (10, ⟨g8666, 1, none⟩, (.int .i64 ((rdD p0 (rdD p1.Cells (w64 ((w64 (x8389 * p1.Width)) + x8656)) 0) z_Tile).E))), (13, ⟨g7360, 2, none⟩, (.slice A_p1_Cells p1.Cells.length c_p1_Cells)), (16, ⟨g7360, 0, none⟩, (.int .i64 p1.Width)), (21, ⟨g7360, 0, none⟩, (.int .i64 p1.Width)), (25, ((adr A_p1_Cells).add ((w64 ((w64 (x8389 * p1.Width)) + (Int.tmod (w64 (x8656 + 1)) p1.Width))).toNat * 1)), (.int .i64 (rdD p1.Cells (w64 ((w64 (x8389 * p1.Width)) + (Int.tmod (w64 (x8656 + 1)) p1.Width))) 0))), (28, (((adr A_p0).add (((rdD p1.Cells (w64 ((w64 (x8389 * p1.Width)) + (Int.tmod (w64 (x8656 + 1)) p1.Width))) 0)).toNat * 4)).add 3), (.int .i64 ((rdD p0 (rdD p1.Cells (w64 ((w64 (x8389 * p1.Width)) + (Int.tmod (w64 (x8656 + 1)) p1.Width))) 0) z_Tile).W)))], [0, 1, 2, 3, 4, 5, 6, 7, 8, 9, 10, 11, 12, 13, 14, 15, 16, 17, 18, 19, 20, 21, 22, 23, 24, 25, 26, 27, 28, 29, 30], [[], [0], [0, 1], [0, 1, 2], [0, 1], [0, 1, 4], [0, 1, 2, 3, 4, 5], [0, 1, 2, 3, 4, 5, 6], [0, 1, 2, 3, 4, 5, 6, 7], [0, 1, 2, 3, 4, 5, 6, 7, 8], [0, 1, 2, 3, 4, 5, 6, 7, 8, 9], [0, 1, 2, 3, 4, 5, 6, 7, 8], [0, 1, 2, 3, 4, 5, 6, 7, 8], [0, 1, 2, 3, 4, 5, 6, 7, 8, 12], [0, 1, 2, 3, 4, 5, 6, 7, 8], [0, 1, 2, 3, 4, 5, 6, 7, 8], [0, 1, 2, 3, 4, 5, 6, 7, 8, 15], [0, 1, 2, 3, 4, 5, 6, 7, 8, 14, 15, 16], [0, 1, 2, 3, 4, 5, 6, 7, 8], [0, 1, 2, 3, 4, 5, 6, 7, 8, 18], [0, 1, 2, 3, 4, 5, 6, 7, 8], [0, 1, 2, 3, 4, 5, 6, 7, 8, 20], [0, 1, 2, 3, 4, 5, 6, 7, 8, 18, 19, 20, 21], [0, 1, 2, 3, 4, 5, 6, 7, 8, 14, 15, 16, 17, 18, 19, 20, 21, 22], [0, 1, 2, 3, 4, 5, 6, 7, 8, 12, 13, 14, 15, 16, 17, 18, 19, 20, 21, 22, 23], [0, 1, 2, 3, 4, 5, 6, 7, 8, 12, 13, 14, 15, 16, 17, 18, 19, 20, 21, 22, 23, 24], [0, 1, 2, 3, 4, 5, 6, 7, 8, 11, 12, 13, 14, 15, 16, 17, 18, 19, 20, 21, 22, 23, 24, 25], [0, 1, 2, 3, 4, 5, 6, 7, 8, 11, 12, 13, 14, 15, 16, 17, 18, 19, 20, 21, 22, 23, 24, 25, 26], [0, 1, 2, 3, 4, 5, 6, 7, 8, 11, 12, 13, 14, 15, 16, 17, 18, 19, 20, 21, 22, 23, 24, 25, 26, 27], [0, 1, 2, 3, 4, 5, 6, 7, 8, 9, 10, 11, 12, 13, 14, 15, 16, 17, 18, 19, 20, 21, 22, 23, 24, 25, 26, 27, 28], [0, 1, 2, 3, 4, 5, 6, 7, 8, 9, 10, 11, 12, 13, 14, 15, 16, 17, 18, 19, 20, 21, 22, 23, 24, 25, 26, 27, 28, 29]]) [[0, 1, 2, 3, 4, 5, 6, 7, 8, 9, 10, 11, 12, 13, 14, 15, 16, 17, 18, 19, 20, 21, 22, 23, 24, 25, 26, 27, 28, 29, 30]] (by kernel_rfl) (by kernel_rfl) (NoPanic.seq (NoPanic.seq (NoPanic.block (NoPanic.seq (NoPanic.seq (NoPanic.block (NoPanic.block (NoPanic.seq (NoPanic.seq (NoPanic.block (NoPanic.seq (NoPanic.body)))))))))))) ?_
                  have hS8718 := hS8671.drew
                  revert hS8718
                  generalize World.drew w8670 = w8717
                  intro hS8718
                  refine ⟨⟨hS8718.cell 1 rfl 0 rfl, hS8718.cell 0 rfl 1 rfl, hS8718.cell 1 rfl 2 rfl, hS8718.cell 1 rfl 0 rfl, hS8718.cell 1 rfl 0 rfl, rowR.cell (hS8718.rd 1).1 0 h8723.1 h8723.2 0 rfl, rowR.cell (hS8718.rd 0).1 z_Tile h8724.1 h8724.2 3 rfl, trivial⟩, forallC ?_ (forallN)⟩
                  refine seg 2 [] [0, 2, 4, 11, 12, 13, 164] [(0, (.slice A_p0 p0.length c_p0)), (2, (.bool p2)), (4, (.pointer (some ⟨g7360, 0, none⟩))), (11, (.int .i64 x8389)), (12, (.int .i64 x8656)), (13, (.pointer (some ⟨g8666, 0, none⟩))), (164, (.bool p2))] [] (fun fb => by kernel_rfl) rfl trivial ?_
                  refine WL.setB 164 h8701 rfl ?_
                  refine segF 9 [.v (.int .i64 p1.Width)] [0, 2, 4, 11, 12, 13, 171] [(0, (.slice A_p0 p0.length c_p0)), (2, (.bool p2)), (4, (.pointer (some ⟨g7360, 0, none⟩))), (11, (.int .i64 x8389)), (12, (.int .i64 x8656)), (13, (.pointer (some ⟨g8666, 0, none⟩))), (171, (.bool (decide (w64 (x8656 + 1) < p1.Width))))] [] [0] [(5, ⟨g7360, 0, none⟩, (.int .i64 p1.Width))] (fun fb => by kernel_rfl) rfl trivial rfl ?_
                  refine WL.setB 171 h8713 rfl ?_
                  refine segF 31 [.v (.int .i64 ((rdD p0 (rdD p1.Cells (w64 ((w64 (x8389 * p1.Width)) + x8656)) 0) z_Tile).E)), .v (.slice A_p1_Cells p1.Cells.length c_p1_Cells), .v (.int .i64 p1.Width), .v (.int .i64 p1.Width), .v (.int .i64 (rdD p1.Cells (w64 ((w64 (x8389 * p1.Width)) + (Int.tmod (w64 (x8656 + 1)) p1.Width))) 0)), .v (.int .i64 ((rdD p0 (rdD p1.Cells (w64 ((w64 (x8389 * p1.Width)) + (Int.tmod (w64 (x8656 + 1)) p1.Width))) 0) z_Tile).W))] [0, 2, 4, 11, 12, 13, 193] [(0, (.slice A_p0 p0.length c_p0)), (2, (.bool p2)), (4, (.pointer (some ⟨g7360, 0, none⟩))), (11, (.int .i64 x8389)), (12, (.int .i64 x8656)), (13, (.pointer (some ⟨g8666, 0, none⟩))), (193, (.bool (((rdD p0 (rdD p1.Cells (w64 ((w64 (x8389 * p1.Width)) + x8656)) 0) z_Tile).E) != ((rdD p0 (rdD p1.Cells (w64 ((w64 (x8389 * p1.Width)) + (Int.tmod (w64 (x8656 + 1)) p1.Width))) 0) z_Tile).W))))] [.ne p1.Width, .idx A_p1_Cells (w64 ((w64 (x8389 * p1.Width)) + (Int.tmod (w64 (x8656 + 1)) p1.Width))) p1.Cells.length, .idx A_p0 (rdD p1.Cells (w64 ((w64 (x8389 * p1.Width)) + (Int.tmod (w64 (x8656 + 1)) p1.Width))) 0) p0.length] [1, 2, 3, 4, 5, 6] [(10, ⟨g8666, 1, none⟩, (.int .i64 ((rdD p0 (rdD p1.Cells (w64 ((w64 (x8389 * p1.Width)) + x8656)) 0) z_Tile).E))), (13, ⟨g7360, 2, none⟩, (.slice A_p1_Cells p1.Cells.length c_p1_Cells)), (16, ⟨g7360, 0, none⟩, (.int .i64 p1.Width)), (21, ⟨g7360, 0, none⟩, (.int .i64 p1.Width)), (25, ((adr A_p1_Cells).add ((w64 ((w64 (x8389 * p1.Width)) + (Int.tmod (w64 (x8656 + 1)) p1.Width))).toNat * 1)), (.int .i64 (rdD p1.Cells (w64 ((w64 (x8389 * p1.Width)) + (Int.tmod (w64 (x8656 + 1)) p1.Width))) 0))), (28, (((adr A_p0).add (((rdD p1.Cells (w64 ((w64 (x8389 * p1.Width)) + (Int.tmod (w64 (x8656 + 1)) p1.Width))) 0)).toNat * 4)).add 3), (.int .i64 ((rdD p0 (rdD p1.Cells (w64 ((w64 (x8389 * p1.Width)) + (Int.tmod (w64 (x8656 + 1)) p1.Width))) 0) z_Tile).W)))] (fun fb => by kernel_rfl) rfl ⟨h8722, rowR.adr (hS8718.rd 1).1 h8723.1 h8723.2, rowR.adr (hS8718.rd 0).1 h8724.1 h8724.2, trivial⟩ rfl ?_
                  refine WL.done rfl ?_
                  injection hx8700 with hx8700
                  exact WX.to Kx8699 (((rdD p0 (rdD p1.Cells (w64 ((w64 (x8389 * p1.Width)) + x8656)) 0) z_Tile).E) != ((rdD p0 (rdD p1.Cells (w64 ((w64 (x8389 * p1.Width)) + (Int.tmod (w64 (x8656 + 1)) p1.Width))) 0) z_Tile).W)) [0, 2, 4, 11, 12, 13, 193] rfl ⟨(hS8718.subR [0, 1]).sub [1, 0] (by decide), hx8700.symm⟩
                refine WC.regionD ([(5, ⟨g7360, 0, none⟩, (.int .i64 p1.Width))], [0, 1, 2, 3, 4, 5, 6, 7, 8, 9, 10, 11, 12, 13, 14, 15, 16, 17, 18, 19, 20, 21, 22, 23, 24, 25, 26, 27, 28, 29, 30], [[], [0], [0, 1], [0, 1, 2], [0, 1], [0, 1, 4], [0, 1, 2, 3, 4, 5], [0, 1, 2, 3, 4, 5, 6], [0, 1, 2, 3, 4, 5, 6, 7], [0, 1, 2, 3, 4, 5, 6, 7, 8], [0, 1, 2, 3, 4, 5, 6, 7, 8, 9], [0, 1, 2, 3, 4, 5, 6, 7, 8], [0, 1, 2, 3, 4, 5, 6, 7, 8], [0, 1, 2, 3, 4, 5, 6, 7, 8, 12], [0, 1, 2, 3, 4, 5, 6, 7, 8], [0, 1, 2, 3, 4, 5, 6, 7, 8], [0, 1, 2, 3, 4, 5, 6, 7, 8, 15], [0, 1, 2, 3, 4, 5, 6, 7, 8, 14, 15, 16], [0, 1, 2, 3, 4, 5, 6, 7, 8], [0, 1, 2, 3, 4, 5, 6, 7, 8, 18], [0, 1, 2, 3, 4, 5, 6, 7, 8], [0, 1, 2, 3, 4, 5, 6, 7, 8, 20], [0, 1, 2, 3, 4, 5, 6, 7, 8, 18, 19, 20, 21], [0, 1, 2, 3, 4, 5, 6, 7, 8, 14, 15, 16, 17, 18, 19, 20, 21, 22], [0, 1, 2, 3, 4, 5, 6, 7, 8, 12, 13, 14, 15, 16, 17, 18, 19, 20, 21, 22, 23], [0, 1, 2, 3, 4, 5, 6, 7, 8, 12, 13, 14, 15, 16, 17, 18, 19, 20, 21, 22, 23, 24], [0, 1, 2, 3, 4, 5, 6, 7, 8, 11, 12, 13, 14, 15, 16, 17, 18, 19, 20, 21, 22, 23, 24, 25], [0, 1, 2, 3, 4, 5, 6, 7, 8, 11, 12, 13, 14, 15, 16, 17, 18, 19, 20, 21, 22, 23, 24, 25, 26], [0, 1, 2, 3, 4, 5, 6, 7, 8, 11, 12, 13, 14, 15, 16, 17, 18, 19, 20, 21, 22, 23, 24, 25, 26, 27], [0, 1, 2, 3, 4, 5, 6, 7, 8, 9, 10, 11, 12, 13, 14, 15, 16, 17, 18, 19, 20, 21, 22, 23, 24, 25, 26, 27, 28], [0, 1, 2, 3, 4, 5, 6, 7, 8, 9, 10, 11, 12, 13, 14, 15, 16, 17, 18, 19, 20, 21, 22, 23, 24, 25, 26, 27, 28, 29]]) [[0, 1, 2, 3, 4, 5, 6, 7, 8, 9, 10, 11, 12, 13, 14, 15, 16, 17, 18, 19, 20, 21, 22, 23, 24, 25, 26, 27, 28, 29, 30]] (by kernel_rfl) (by kernel_rfl) (NoPanic.seq (NoPanic.seq (NoPanic.block (NoPanic.seq (NoPanic.seq (NoPanic.block (NoPanic.block (NoPanic.seq (NoPanic.seq (NoPanic.block (NoPanic.seq (NoPanic.body)))))))))))) ?_
                have hS8726 := hS8671.drew
                revert hS8726
                generalize World.drew w8670 = w8725
                intro hS8726
                refine ⟨⟨hS8726.cell 1 rfl 0 rfl, trivial⟩, forallC ?_ (forallN)⟩
                refine seg 2 [] [0, 2, 4, 11, 12, 13, 164] [(0, (.slice A_p0 p0.length c_p0)), (2, (.bool p2)), (4, (.pointer (some ⟨g7360, 0, none⟩))), (11, (.int .i64 x8389)), (12, (.int .i64 x8656)), (13, (.pointer (some ⟨g8666, 0, none⟩))), (164, (.bool p2))] [] (fun fb => by kernel_rfl) rfl trivial ?_
                refine WL.setB 164 h8701 rfl ?_
                refine segF 9 [.v (.int .i64 p1.Width)] [0, 2, 4, 11, 12, 13, 171] [(0, (.slice A_p0 p0.length c_p0)), (2, (.bool p2)), (4, (.pointer (some ⟨g7360, 0, none⟩))), (11, (.int .i64 x8389)), (12, (.int .i64 x8656)), (13, (.pointer (some ⟨g8666, 0, none⟩))), (171, (.bool (decide (w64 (x8656 + 1) < p1.Width))))] [] [0] [(5, ⟨g7360, 0, none⟩, (.int .i64 p1.Width))] (fun fb => by kernel_rfl) rfl trivial rfl ?_
                refine WL.setB 171 h8713 rfl ?_
                refine seg 31 [] [0, 2, 4, 11, 12, 13, 193] [(0, (.slice A_p0 p0.length c_p0)), (2, (.bool p2)), (4, (.pointer (some ⟨g7360, 0, none⟩))), (11, (.int .i64 x8389)), (12, (.int .i64 x8656)), (13, (.pointer (some ⟨g8666, 0, none⟩))), (193, (.bool false))] [] (fun fb => by kernel_rfl) rfl trivial ?_
                refine WL.done rfl ?_
                injection hx8700 with hx8700
                exact WX.to Kx8699 false [0, 2, 4, 11, 12, 13, 193] rfl ⟨(hS8726.subR [0, 1]).sub [1, 0] (by decide), hx8700.symm⟩
              rintro y8730 w8727 ⟨hS8728, hq8729⟩
              subst hq8729
              refine WX.next ?_
              rcases br_some hl8662 with ⟨h8731, hl8662⟩ | ⟨h8731, hl8662⟩
              · refine WC.condT2 (fun fb => by kernel_rfl) h8731 ?_
                refine WC.seq ?_
                refine WC.region ?_
                refine seg 1 [] [6] [(6, (.bool false))] [] (fun fb => by kernel_rfl) rfl trivial ?_
                refine WL.done rfl ?_
                refine WX.next ?_
                refine WC.ret ?_
                injection hl8662 with hl8662
                subst hl8662
                injection hl8395 with hl8395
                subst hl8395
                injection hf with hf
                subst hf
                exact WX.thenR (WX.blockR (WX.thenR (WX.thenR (WX.blockR (WX.blockR (WX.thenR (WX.thenR (WX.blockR (WX.thenR (WX.ret_ [] (.bool false) [] (fun fb => by kernel_rfl) trivial ⟨_, rfl, rfl, hS8728.keep⟩))))))))))
              refine WC.condF2 (fun fb => by kernel_rfl) h8731 ?_
              refine WC.skip ?_
              refine WX.next ?_
              refine WC.seq ?_
              obtain ⟨x8759, hx8760, hl8662⟩ := bind_some hl8662
              refine WC.cutN (T := Bool) (fun t => [(0, (.slice A_p0 p0.length c_p0)), (2, (.bool p2)), (4, (.pointer (some ⟨g7360, 0, none⟩))), (11, (.int .i64 x8389)), (12, (.int .i64 x8656)), (224, (.bool t))]) (fun t w1 => St NoS w w1 [rowR enc_Tile A_p0 c_p0 p0, rowR encInt A_p1_Cells c_p1_Cells p1.Cells] [blk g7360 (.cells #[(.int .i64 p1.Width), (.int .i64 p1.Height), (.slice A_p1_Cells p1.Cells.length c_p1_Cells)] 38 (0, 0))] ∧ x8759 = t) (fun Kx8759 => ?_) ?_
              ·
                rcases br_some hx8760 with ⟨h8761, hx8760⟩ | ⟨h8761, hx8760⟩
                ·
                  obtain ⟨h8770, hx8760⟩ := as_some hx8760
                  obtain ⟨h8771, hx8760⟩ := as_some hx8760
                  obtain ⟨h8772, hx8760⟩ := as_some hx8760
                  refine WC.regionD ([(10, ⟨g8666, 0, none⟩, (.int .i64 ((rdD p0 (rdD p1.Cells (w64 ((w64 (x8389 * p1.Width)) + x8656)) 0) z_Tile).N))), (13, ⟨g7360, 2, none⟩, (.slice A_p1_Cells p1.Cells.length c_p1_Cells)), (17, ⟨g7360, 1, none⟩, (.int .i64 p1.Height)), (20, ⟨g7360, 0, none⟩, (.int .i64 p1.Width)), (25, ((adr A_p1_Cells).add ((w64 ((w64 ((Int.tmod (w64 (x8389 + 1)) p1.Height) * p1.Width)) + x8656)).toNat * 1)), (.int .i64 (rdD p1.Cells (w64 ((w64 ((Int.tmod (w64 (x8389 + 1)) p1.Height) * p1.Width)) + x8656)) 0))), (28, (((adr A_p0).add (((rdD p1.Cells (w64 ((w64 ((Int.tmod (w64 (x8389 + 1)) p1.Height) * p1.Width)) + x8656)) 0)).toNat * 4)).add 2), (.int .i64 ((rdD p0 (rdD p1.Cells (w64 ((w64 ((Int.tmod (w64 (x8389 + 1)) p1.Height) * p1.Width)) + x8656)) 0) z_Tile).S)))], [0, 1, 2, 3, 4, 5, 6, 7, 8, 9, 10, 11, 12, 13, 14, 15, 16, 17, 18, 19, 20, 21, 22, 23, 24, 25, 26, 27, 28, 29, 30], [[], [0], [0, 1], [0, 1, 2], [0, 1], [0, 1, 4], [0, 1, 2, 3, 4, 5], [0, 1, 2, 3, 4, 5, 6], [0, 1, 2, 3, 4, 5, 6, 7], [0, 1, 2, 3, 4, 5, 6, 7, 8], [0, 1, 2, 3, 4, 5, 6, 7, 8, 9], [0, 1, 2, 3, 4, 5, 6, 7, 8], [0, 1, 2, 3, 4, 5, 6, 7, 8], [0, 1, 2, 3, 4, 5, 6, 7, 8, 12], [0, 1, 2, 3, 4, 5, 6, 7, 8], [0, 1, 2, 3, 4, 5, 6, 7, 8, 14], [0, 1, 2, 3, 4, 5, 6, 7, 8], [0, 1, 2, 3, 4, 5, 6, 7, 8, 16], [0, 1, 2, 3, 4, 5, 6, 7, 8, 14, 15, 16, 17], [0, 1, 2, 3, 4, 5, 6, 7, 8], [0, 1, 2, 3, 4, 5, 6, 7, 8, 19], [0, 1, 2, 3, 4, 5, 6, 7, 8, 14, 15, 16, 17, 18, 19, 20], [0, 1, 2, 3, 4, 5, 6, 7, 8], [0, 1, 2, 3, 4, 5, 6, 7, 8, 14, 15, 16, 17, 18, 19, 20, 21, 22], [0, 1, 2, 3, 4, 5, 6, 7, 8, 12, 13, 14, 15, 16, 17, 18, 19, 20, 21, 22, 23], [0, 1, 2, 3, 4, 5, 6, 7, 8, 12, 13, 14, 15, 16, 17, 18, 19, 20, 21, 22, 23, 24], [0, 1, 2, 3, 4, 5, 6, 7, 8, 11, 12, 13, 14, 15, 16, 17, 18, 19, 20, 21, 22, 23, 24, 25], [0, 1, 2, 3, 4, 5, 6, 7, 8, 11, 12, 13, 14, 15, 16, 17, 18, 19, 20, 21, 22, 23, 24, 25, 26], [0, 1, 2, 3, 4, 5, 6, 7, 8, 11, 12, 13, 14, 15, 16, 17, 18, 19, 20, 21, 22, 23, 24, 25, 26, 27], [0, 1, 2, 3, 4, 5, 6, 7, 8, 9, 10, 11, 12, 13, 14, 15, 16, 17, 18, 19, 20, 21, 22, 23, 24, 25, 26, 27, 28], [0, 1, 2, 3, 4, 5, 6, 7, 8, 9, 10, 11, 12, 13, 14, 15, 16, 17, 18, 19, 20, 21, 22, 23, 24, 25, 26, 27, 28, 29]]) [[0, 1, 2, 3, 4, 5, 6, 7, 8, 9, 10, 11, 12, 13, 14, 15, 16, 17, 18, 19, 20, 21, 22, 23, 24, 25, 26, 27, 28, 29, 30]] (by kernel_rfl) (by kernel_rfl) (NoPanic.seq (NoPanic.block (NoPanic.seq (NoPanic.seq (NoPanic.block (NoPanic.block (NoPanic.seq (NoPanic.seq (NoPanic.block (NoPanic.seq (NoPanic.body))))))))))) ?_
                  have hS8766 := hS8728.drew
                  revert hS8766
                  generalize World.drew w8727 = w8765
                  intro hS8766
                  refine ⟨⟨hS8766.cell 1 rfl 0 rfl, hS8766.cell 0 rfl 2 rfl, hS8766.cell 0 rfl 1 rfl, hS8766.cell 0 rfl 0 rfl, rowR.cell (hS8766.rd 1).1 0 h8771.1 h8771.2 0 rfl, rowR.cell (hS8766.rd 0).1 z_Tile h8772.1 h8772.2 2 rfl, trivial⟩, forallC ?_ (forallN)⟩
                  refine seg 2 [] [0, 2, 4, 11, 12, 13, 195] [(0, (.slice A_p0 p0.length c_p0)), (2, (.bool p2)), (4, (.pointer (some ⟨g7360, 0, none⟩))), (11, (.int .i64 x8389)), (12, (.int .i64 x8656)), (13, (.pointer (some ⟨g8666, 0, none⟩))), (195, (.bool p2))] [] (fun fb => by kernel_rfl) rfl trivial ?_
                  refine WL.setB 195 h8761 rfl ?_
                  refine segF 31 [.v (.int .i64 ((rdD p0 (rdD p1.Cells (w64 ((w64 (x8389 * p1.Width)) + x8656)) 0) z_Tile).N)), .v (.slice A_p1_Cells p1.Cells.length c_p1_Cells), .v (.int .i64 p1.Height), .v (.int .i64 p1.Width), .v (.int .i64 (rdD p1.Cells (w64 ((w64 ((Int.tmod (w64 (x8389 + 1)) p1.Height) * p1.Width)) + x8656)) 0)), .v (.int .i64 ((rdD p0 (rdD p1.Cells (w64 ((w64 ((Int.tmod (w64 (x8389 + 1)) p1.Height) * p1.Width)) + x8656)) 0) z_Tile).S))] [0, 2, 4, 11, 12, 224] [(0, (.slice A_p0 p0.length c_p0)), (2, (.bool p2)), (4, (.pointer (some ⟨g7360, 0, none⟩))), (11, (.int .i64 x8389)), (12, (.int .i64 x8656)), (224, (.bool (((rdD p0 (rdD p1.Cells (w64 ((w64 (x8389 * p1.Width)) + x8656)) 0) z_Tile).N) != ((rdD p0 (rdD p1.Cells (w64 ((w64 ((Int.tmod (w64 (x8389 + 1)) p1.Height) * p1.Width)) + x8656)) 0) z_Tile).S))))] [.ne p1.Height, .idx A_p1_Cells (w64 ((w64 ((Int.tmod (w64 (x8389 + 1)) p1.Height) * p1.Width)) + x8656)) p1.Cells.length, .idx A_p0 (rdD p1.Cells (w64 ((w64 ((Int.tmod (w64 (x8389 + 1)) p1.Height) * p1.Width)) + x8656)) 0) p0.length] [0, 1, 2, 3, 4, 5] [(10, ⟨g8666, 0, none⟩, (.int .i64 ((rdD p0 (rdD p1.Cells (w64 ((w64 (x8389 * p1.Width)) + x8656)) 0) z_Tile).N))), (13, ⟨g7360, 2, none⟩, (.slice A_p1_Cells p1.Cells.length c_p1_Cells)), (17, ⟨g7360, 1, none⟩, (.int .i64 p1.Height)), (20, ⟨g7360, 0, none⟩, (.int .i64 p1.Width)), (25, ((adr A_p1_Cells).add ((w64 ((w64 ((Int.tmod (w64 (x8389 + 1)) p1.Height) * p1.Width)) + x8656)).toNat * 1)), (.int .i64 (rdD p1.Cells (w64 ((w64 ((Int.tmod (w64 (x8389 + 1)) p1.Height) * p1.Width)) + x8656)) 0))), (28, (((adr A_p0).add (((rdD p1.Cells (w64 ((w64 ((Int.tmod (w64 (x8389 + 1)) p1.Height) * p1.Width)) + x8656)) 0)).toNat * 4)).add 2), (.int .i64 ((rdD p0 (rdD p1.Cells (w64 ((w64 ((Int.tmod (w64 (x8389 + 1)) p1.Height) * p1.Width)) + x8656)) 0) z_Tile).S)))] (fun fb => by kernel_rfl) rfl ⟨h8770, rowR.adr (hS8766.rd 1).1 h8771.1 h8771.2, rowR.adr (hS8766.rd 0).1 h8772.1 h8772.2, trivial⟩ rfl ?_
                  refine WL.done rfl ?_
                  injection hx8760 with hx8760
                  exact WX.to Kx8759 (((rdD p0 (rdD p1.Cells (w64 ((w64 (x8389 * p1.Width)) + x8656)) 0) z_Tile).N) != ((rdD p0 (rdD p1.Cells (w64 ((w64 ((Int.tmod (w64 (x8389 + 1)) p1.Height) * p1.Width)) + x8656)) 0) z_Tile).S)) [0, 2, 4, 11, 12, 224] rfl ⟨(hS8766.subR [0, 1]).sub [0] (by decide), hx8760.symm⟩
                rcases br_some hx8760 with ⟨h8773, hx8760⟩ | ⟨h8773, hx8760⟩
                ·
                  obtain ⟨h8782, hx8760⟩ := as_some hx8760
                  obtain ⟨h8783, hx8760⟩ := as_some hx8760
                  obtain ⟨h8784, hx8760⟩ := as_some hx8760
                  refine WC.regionD ([(5, ⟨g7360, 1, none⟩, (.int .i64 p1.Height)), (10, ⟨g8666, 0, none⟩, (.int .i64 ((rdD p0 (rdD p1.Cells (w64 ((w64 (x8389 * p1.Width)) + x8656)) 0) z_Tile).N))), (13, ⟨g7360, 2, none⟩, (.slice A_p1_Cells p1.Cells.length c_p1_Cells)), (17, ⟨g7360, 1, none⟩, (.int .i64 p1.Height)), (20, ⟨g7360, 0, none⟩, (.int .i64 p1.Width)), (25, ((adr A_p1_Cells).add ((w64 ((w64 ((Int.tmod (w64 (x8389 + 1)) p1.Height) * p1.Width)) + x8656)).toNat * 1)), (.int .i64 (rdD p1.Cells (w64 ((w64 ((Int.tmod (w64 (x8389 + 1)) p1.Height) * p1.Width)) + x8656)) 0))), (28, (((adr A_p0).add (((rdD p1.Cells (w64 ((w64 ((Int.tmod (w64 (x8389 + 1)) p1.Height) * p1.Width)) + x8656)) 0)).toNat * 4)).add 2), (.int .i64 ((rdD p0 (rdD p1.Cells (w64 ((w64 ((Int.tmod (w64 (x8389 + 1)) p1.Height) * p1.Width)) + x8656)) 0) z_Tile).S)))], [0, 1, 2, 3, 4, 5, 6, 7, 8, 9, 10, 11, 12, 13, 14, 15, 16, 17, 18, 19, 20, 21, 22, 23, 24, 25, 26, 27, 28, 29, 30], [[], [0], [0, 1], [0, 1, 2], [0, 1], [0, 1, 4], [0, 1, 2, 3, 4, 5], [0, 1, 2, 3, 4, 5, 6], [0, 1, 2, 3, 4, 5, 6, 7], [0, 1, 2, 3, 4, 5, 6, 7, 8], [0, 1, 2, 3, 4, 5, 6, 7, 8, 9], [0, 1, 2, 3, 4, 5, 6, 7, 8], [0, 1, 2, 3, 4, 5, 6, 7, 8], [0, 1, 2, 3, 4, 5, 6, 7, 8, 12], [0, 1, 2, 3, 4, 5, 6, 7, 8], [0, 1, 2, 3, 4, 5, 6, 7, 8, 14], [0, 1, 2, 3, 4, 5, 6, 7, 8], [0, 1, 2, 3, 4, 5, 6, 7, 8, 16], [0, 1, 2, 3, 4, 5, 6, 7, 8, 14, 15, 16, 17], [0, 1, 2, 3, 4, 5, 6, 7, 8], [0, 1, 2, 3, 4, 5, 6, 7, 8, 19], [0, 1, 2, 3, 4, 5, 6, 7, 8, 14, 15, 16, 17, 18, 19, 20], [0, 1, 2, 3, 4, 5, 6, 7, 8], [0, 1, 2, 3, 4, 5, 6, 7, 8, 14, 15, 16, 17, 18, 19, 20, 21, 22], [0, 1, 2, 3, 4, 5, 6, 7, 8, 12, 13, 14, 15, 16, 17, 18, 19, 20, 21, 22, 23], [0, 1, 2, 3, 4, 5, 6, 7, 8, 12, 13, 14, 15, 16, 17, 18, 19, 20, 21, 22, 23, 24], [0, 1, 2, 3, 4, 5, 6, 7, 8, 11, 12, 13, 14, 15, 16, 17, 18, 19, 20, 21, 22, 23, 24, 25], [0, 1, 2, 3, 4, 5, 6, 7, 8, 11, 12, 13, 14, 15, 16, 17, 18, 19, 20, 21, 22, 23, 24, 25, 26], [0, 1, 2, 3, 4, 5, 6, 7, 8, 11, 12, 13, 14, 15, 16, 17, 18, 19, 20, 21, 22, 23, 24, 25, 26, 27], [0, 1, 2, 3, 4, 5, 6, 7, 8, 9, 10, 11, 12, 13, 14, 15, 16, 17, 18, 19, 20, 21, 22, 23, 24, 25, 26, 27, 28], [0, 1, 2, 3, 4, 5, 6, 7, 8, 9, 10, 11, 12, 13, 14, 15, 16, 17, 18, 19, 20, 21, 22, 23, 24, 25, 26, 27, 28, 29]]) [[0, 1, 2, 3, 4, 5, 6, 7, 8, 9, 10, 11, 12, 13, 14, 15, 16, 17, 18, 19, 20, 21, 22, 23, 24, 25, 26, 27, 28, 29, 30]] (by kernel_rfl) (by kernel_rfl) (NoPanic.seq (NoPanic.block (NoPanic.seq (NoPanic.seq (NoPanic.block (NoPanic.block (NoPanic.seq (NoPanic.seq (NoPanic.block (NoPanic.seq (NoPanic.body))))))))))) ?_
                  have hS8778 := hS8728.drew
                  revert hS8778
                  generalize World.drew w8727 = w8777
                  intro hS8778
                  refine ⟨⟨hS8778.cell 0 rfl 1 rfl, hS8778.cell 1 rfl 0 rfl, hS8778.cell 0 rfl 2 rfl, hS8778.cell 0 rfl 1 rfl, hS8778.cell 0 rfl 0 rfl, rowR.cell (hS8778.rd 1).1 0 h8783.1 h8783.2 0 rfl, rowR.cell (hS8778.rd 0).1 z_Tile h8784.1 h8784.2 2 rfl, trivial⟩, forallC ?_ (forallN)⟩
                  refine seg 2 [] [0, 2, 4, 11, 12, 13, 195] [(0, (.slice A_p0 p0.length c_p0)), (2, (.bool p2)), (4, (.pointer (some ⟨g7360, 0, none⟩))), (11, (.int .i64 x8389)), (12, (.int .i64 x8656)), (13, (.pointer (some ⟨g8666, 0, none⟩))), (195, (.bool p2))] [] (fun fb => by kernel_rfl) rfl trivial ?_
                  refine WL.setB 195 h8761 rfl ?_
                  refine segF 9 [.v (.int .i64 p1.Height)] [0, 2, 4, 11, 12, 13, 202] [(0, (.slice A_p0 p0.length c_p0)), (2, (.bool p2)), (4, (.pointer (some ⟨g7360, 0, none⟩))), (11, (.int .i64 x8389)), (12, (.int .i64 x8656)), (13, (.pointer (some ⟨g8666, 0, none⟩))), (202, (.bool (decide (w64 (x8389 + 1) < p1.Height))))] [] [0] [(5, ⟨g7360, 1, none⟩, (.int .i64 p1.Height))] (fun fb => by kernel_rfl) rfl trivial rfl ?_
                  refine WL.setB 202 h8773 rfl ?_
                  refine segF 31 [.v (.int .i64 ((rdD p0 (rdD p1.Cells (w64 ((w64 (x8389 * p1.Width)) + x8656)) 0) z_Tile).N)), .v (.slice A_p1_Cells p1.Cells.length c_p1_Cells), .v (.int .i64 p1.Height), .v (.int .i64 p1.Width), .v (.int .i64 (rdD p1.Cells (w64 ((w64 ((Int.tmod (w64 (x8389 + 1)) p1.Height) * p1.Width)) + x8656)) 0)), .v (.int .i64 ((rdD p0 (rdD p1.Cells (w64 ((w64 ((Int.tmod (w64 (x8389 + 1)) p1.Height) * p1.Width)) + x8656)) 0) z_Tile).S))] [0, 2, 4, 11, 12, 224] [(0, (.slice A_p0 p0.length c_p0)), (2, (.bool p2)), (4, (.pointer (some ⟨g7360, 0, none⟩))), (11, (.int .i64 x8389)), (12, (.int .i64 x8656)), (224, (.bool (((rdD p0 (rdD p1.Cells (w64 ((w64 (x8389 * p1.Width)) + x8656)) 0) z_Tile).N) != ((rdD p0 (rdD p1.Cells (w64 ((w64 ((Int.tmod (w64 (x8389 + 1)) p1.Height) * p1.Width)) + x8656)) 0) z_Tile).S))))] [.ne p1.Height, .idx A_p1_Cells (w64 ((w64 ((Int.tmod (w64 (x8389 + 1)) p1.Height) * p1.Width)) + x8656)) p1.Cells.length, .idx A_p0 (rdD p1.Cells (w64 ((w64 ((Int.tmod (w64 (x8389 + 1)) p1.Height) * p1.Width)) + x8656)) 0) p0.length] [1, 2, 3, 4, 5, 6] [(10, ⟨g8666, 0, none⟩, (.int .i64 ((rdD p0 (rdD p1.Cells (w64 ((w64 (x8389 * p1.Width)) + x8656)) 0) z_Tile).N))), (13, ⟨g7360, 2, none⟩, (.slice A_p1_Cells p1.Cells.length c_p1_Cells)), (17, ⟨g7360, 1, none⟩, (.int .i64 p1.Height)), (20, ⟨g7360, 0, none⟩, (.int .i64 p1.Width)), (25, ((adr A_p1_Cells).add ((w64 ((w64 ((Int.tmod (w64 (x8389 + 1)) p1.Height) * p1.Width)) + x8656)).toNat * 1)), (.int .i64 (rdD p1.Cells (w64 ((w64 ((Int.tmod (w64 (x8389 + 1)) p1.Height) * p1.Width)) + x8656)) 0))), (28, (((adr A_p0).add (((rdD p1.Cells (w64 ((w64 ((Int.tmod (w64 (x8389 + 1)) p1.Height) * p1.Width)) + x8656)) 0)).toNat * 4)).add 2), (.int .i64 ((rdD p0 (rdD p1.Cells (w64 ((w64 ((Int.tmod (w64 (x8389 + 1)) p1.Height) * p1.Width)) + x8656)) 0) z_Tile).S)))] (fun fb => by kernel_rfl) rfl ⟨h8782, rowR.adr (hS8778.rd 1).1 h8783.1 h8783.2, rowR.adr (hS8778.rd 0).1 h8784.1 h8784.2, trivial⟩ rfl ?_
                  refine WL.done rfl ?_
                  injection hx8760 with hx8760
                  exact WX.to Kx8759 (((rdD p0 (rdD p1.Cells (w64 ((w64 (x8389 * p1.Width)) + x8656)) 0) z_Tile).N) != ((rdD p0 (rdD p1.Cells (w64 ((w64 ((Int.tmod (w64 (x8389 + 1)) p1.Height) * p1.Width)) + x8656)) 0) z_Tile).S)) [0, 2, 4, 11, 12, 224] rfl ⟨(hS8778.subR [0, 1]).sub [0] (by decide), hx8760.symm⟩
                refine WC.regionD ([(5, ⟨g7360, 1, none⟩, (.int .i64 p1.Height))], [0, 1, 2, 3, 4, 5, 6, 7, 8, 9, 10, 11, 12, 13, 14, 15, 16, 17, 18, 19, 20, 21, 22, 23, 24, 25, 26, 27, 28, 29, 30], [[], [0], [0, 1], [0, 1, 2], [0, 1], [0, 1, 4], [0, 1, 2, 3, 4, 5], [0, 1, 2, 3, 4, 5, 6], [0, 1, 2, 3, 4, 5, 6, 7], [0, 1, 2, 3, 4, 5, 6, 7, 8], [0, 1, 2, 3, 4, 5, 6, 7, 8, 9], [0, 1, 2, 3, 4, 5, 6, 7, 8], [0, 1, 2, 3, 4, 5, 6, 7, 8], [0, 1, 2, 3, 4, 5, 6, 7, 8, 12], [0, 1, 2, 3, 4, 5, 6, 7, 8], [0, 1, 2, 3, 4, 5, 6, 7, 8, 14], [0, 1, 2, 3, 4, 5, 6, 7, 8], [0, 1, 2, 3, 4, 5, 6, 7, 8, 16], [0, 1, 2, 3, 4, 5, 6, 7, 8, 14, 15, 16, 17], [0, 1, 2, 3, 4, 5, 6, 7, 8], [0, 1, 2, 3, 4, 5, 6, 7, 8, 19], [0, 1, 2, 3, 4, 5, 6, 7, 8, 14, 15, 16, 17, 18, 19, 20], [0, 1, 2, 3, 4, 5, 6, 7, 8], [0, 1, 2, 3, 4, 5, 6, 7, 8, 14, 15, 16, 17, 18, 19, 20, 21, 22], [0, 1, 2, 3, 4, 5, 6, 7, 8, 12, 13, 14, 15, 16, 17, 18, 19, 20, 21, 22, 23], [0, 1, 2, 3, 4, 5, 6, 7, 8, 12, 13, 14, 15, 16, 17, 18, 19, 20, 21, 22, 23, 24], [0, 1, 2, 3, 4, 5, 6, 7, 8, 11, 12, 13, 14, 15, 16, 17, 18, 19, 20, 21, 22, 23, 24, 25], [0, 1, 2, 3, 4, 5, 6, 7, 8, 11, 12, 13, 14, 15, 16, 17, 18, 19, 20, 21, 22, 23, 24, 25, 26], [0, 1, 2, 3, 4, 5, 6, 7, 8, 11, 12, 13, 14, 15, 16, 17, 18, 19, 20, 21, 22, 23, 24, 25, 26, 27], [0, 1, 2, 3, 4, 5, 6, 7, 8, 9, 10, 11, 12, 13, 14, 15, 16, 17, 18, 19, 20, 21, 22, 23, 24, 25, 26, 27, 28], [0, 1, 2, 3, 4, 5, 6, 7, 8, 9, 10, 11, 12, 13, 14, 15, 16, 17, 18, 19, 20, 21, 22, 23, 24, 25, 26, 27, 28, 29]]) [[0, 1, 2, 3, 4, 5, 6, 7, 8, 9, 10, 11, 12, 13, 14, 15, 16, 17, 18, 19, 20, 21, 22, 23, 24, 25, 26, 27, 28, 29, 30]] (by kernel_rfl) (by kernel_rfl) (NoPanic.seq (NoPanic.block (NoPanic.seq (NoPanic.seq (NoPanic.block (NoPanic.block (NoPanic.seq (NoPanic.seq (NoPanic.block (NoPanic.seq (NoPanic.body))))))))))) ?_
                have hS8786 := hS8728.drew
                revert hS8786
                generalize World.drew w8727 = w8785
                intro hS8786
                refine ⟨⟨hS8786.cell 0 rfl 1 rfl, trivial⟩, forallC ?_ (forallN)⟩
                refine seg 2 [] [0, 2, 4, 11, 12, 13, 195] [(0, (.slice A_p0 p0.length c_p0)), (2, (.bool p2)), (4, (.pointer (some ⟨g7360, 0, none⟩))), (11, (.int .i64 x8389)), (12, (.int .i64 x8656)), (13, (.pointer (some ⟨g8666, 0, none⟩))), (195, (.bool p2))] [] (fun fb => by kernel_rfl) rfl trivial ?_
                refine WL.setB 195 h8761 rfl ?_
                refine segF 9 [.v (.int .i64 p1.Height)] [0, 2, 4, 11, 12, 13, 202] [(0, (.slice A_p0 p0.length c_p0)), (2, (.bool p2)), (4, (.pointer (some ⟨g7360, 0, none⟩))), (11, (.int .i64 x8389)), (12, (.int .i64 x8656)), (13, (.pointer (some ⟨g8666, 0, none⟩))), (202, (.bool (decide (w64 (x8389 + 1) < p1.Height))))] [] [0] [(5, ⟨g7360, 1, none⟩, (.int .i64 p1.Height))] (fun fb => by kernel_rfl) rfl trivial rfl ?_
                refine WL.setB 202 h8773 rfl ?_
                refine seg 31 [] [0, 2, 4, 11, 12, 224] [(0, (.slice A_p0 p0.length c_p0)), (2, (.bool p2)), (4, (.pointer (some ⟨g7360, 0, none⟩))), (11, (.int .i64 x8389)), (12, (.int .i64 x8656)), (224, (.bool false))] [] (fun fb => by kernel_rfl) rfl trivial ?_
                refine WL.done rfl ?_
                injection hx8760 with hx8760
                exact WX.to Kx8759 false [0, 2, 4, 11, 12, 224] rfl ⟨(hS8786.subR [0, 1]).sub [0] (by decide), hx8760.symm⟩
              rintro y8790 w8787 ⟨hS8788, hq8789⟩
              subst hq8789
              refine WX.next ?_
              rcases br_some hl8662 with ⟨h8791, hl8662⟩ | ⟨h8791, hl8662⟩
              · refine WC.condT2 (fun fb => by kernel_rfl) h8791 ?_
                refine WC.seq ?_
                refine WC.region ?_
                refine seg 1 [] [6] [(6, (.bool false))] [] (fun fb => by kernel_rfl) rfl trivial ?_
                refine WL.done rfl ?_
                refine WX.next ?_
                refine WC.ret ?_
                injection hl8662 with hl8662
                subst hl8662
                injection hl8395 with hl8395
                subst hl8395
                injection hf with hf
                subst hf
                exact WX.blockR (WX.thenR (WX.thenR (WX.blockR (WX.blockR (WX.thenR (WX.thenR (WX.blockR (WX.thenR (WX.ret_ [] (.bool false) [] (fun fb => by kernel_rfl) trivial ⟨_, rfl, rfl, hS8788.keep⟩)))))))))
              refine WC.condF2 (fun fb => by kernel_rfl) h8791 ?_
              refine WC.skip ?_
              refine WX.blockN (WX.next ?_)
              refine WC.region ?_
              refine seg 3 [] [0, 2, 4, 11, 12] [(0, (.slice A_p0 p0.length c_p0)), (2, (.bool p2)), (4, (.pointer (some ⟨g7360, 0, none⟩))), (11, (.int .i64 x8389)), (12, (.int .i64 (w64 (x8656 + 1))))] [] (fun fb => by kernel_rfl) rfl trivial ?_
              refine WL.done rfl ?_
              exact WX.again k8659 (Nat.lt_succ_self _) (w64 (x8656 + 1)) [0, 2, 4, 11, 12] rfl ⟨(hS8788.subR [0, 1]).sub [0] (by decide), hl8662⟩
            refine WC.condF2 (fun fb => by kernel_rfl) h8663 ?_
            refine WC.exit ?_
            injection hl8662 with hl8662
            exact WX.thenX (WX.thenX (WX.blockHere (WX.to Kx8657 () [0, 2, 4, 11] rfl ⟨(hS8661.subR [0, 1]).sub [0] (by decide), hl8662.symm⟩)))
        rintro y8795 w8792 ⟨hS8793, hq8794⟩
        subst hq8794
        have hl8395 := sum_inr hl8395
        refine WX.blockN (WX.next ?_)
        refine WC.region ?_
        refine seg 3 [] [0, 2, 4, 11] [(0, (.slice A_p0 p0.length c_p0)), (2, (.bool p2)), (4, (.pointer (some ⟨g7360, 0, none⟩))), (11, (.int .i64 (w64 (x8389 + 1))))] [] (fun fb => by kernel_rfl) rfl trivial ?_
        refine WL.done rfl ?_
        exact WX.again k8392 (Nat.lt_succ_self _) (w64 (x8389 + 1)) [0, 2, 4, 11] rfl ⟨(hS8793.subR [0, 1]).sub [0] (by decide), hl8395⟩
      refine WC.condF2 (fun fb => by kernel_rfl) h8396 ?_
      refine WC.exit ?_
      injection hl8395 with hl8395
      exact WX.thenX (WX.thenX (WX.blockHere (WX.to Kx8390 () [] rfl ⟨(hS8394.subR [0, 1]).sub [] (by decide), hl8395.symm⟩)))
  rintro y8800 w8797 ⟨hS8798, hq8799⟩
  subst hq8799
  have hf := sum_inr hf
  refine WX.next ?_
  refine WC.seq ?_
  refine WC.region ?_
  refine seg 1 [] [6] [(6, (.bool true))] [] (fun fb => by kernel_rfl) rfl trivial ?_
  refine WL.done rfl ?_
  refine WX.next ?_
  refine WC.ret ?_
  injection hf with hf
  subst hf
  exact WX.ret_ [] (.bool true) [] (fun fb => by kernel_rfl) trivial ⟨_, rfl, rfl, hS8798.keep⟩
theorem top_TopSquares_calls (k : Nat) (p0 : List Tile) (p1 : Int) (p2 : Pattern) (A_p0 : Option Addr) (c_p0 : Nat) (A_p2_Cells : Option Addr) (c_p2_Cells : Nat) (r : Bool) (w : World) (hR0 : RO NoS w (rowR enc_Tile A_p0 c_p0 p0)) (hR1 : RO NoS w (rowR encInt A_p2_Cells c_p2_Cells p2.Cells)) (hf : top_TopSquares k p0 p1 p2 = some r) :
    CallsR Try.prog 8 #[(.slice A_p0 p0.length c_p0), (.int .i64 p1), (.agg #[(.int .i64 p2.Width), (.int .i64 p2.Height), (.slice A_p2_Cells p2.Cells.length c_p2_Cells)])] w (fun v w' => v = (.bool r) ∧ Keeps NoS w w') := by
  have hS : St NoS w w [rowR enc_Tile A_p0 c_p0 p0, rowR encInt A_p2_Cells c_p2_Cells p2.Cells] [] := St.init (ro_cons hR0 (ro_cons hR1 (ro_nil _ _)))
  refine enter 85 Try.func8 rfl Try.ntmps8 rfl ?_
  unfold top_TopSquares at hf
  refine WC.seq ?_
  refine WC.region ?_
  refine WL.new hS 5 [] (fun g => (.pointer (some ⟨g, 0, none⟩))) (.cells #[(.int .i64 p2.Width), (.int .i64 p2.Height), (.slice A_p2_Cells p2.Cells.length c_p2_Cells)] 38 (0, 0)) [] (fun fb g => by kernel_rfl) trivial (fun g1 w2 hS3 => ?_)
  refine ⟨trivial, ?_⟩
  refine seg 2 [] [0, 1, 5] [(0, (.slice A_p0 p0.length c_p0)), (1, (.int .i64 p1)), (5, (.pointer (some ⟨g1, 0, none⟩)))] [] (fun fb => by kernel_rfl) rfl trivial ?_
  refine WL.done rfl ?_
  refine WX.next ?_
  refine WC.seq ?_
  refine WC.seq ?_
  refine WC.region ?_
  refine seg 4 [] [0, 1, 5, 14] [(0, (.slice A_p0 p0.length c_p0)), (1, (.int .i64 p1)), (5, (.pointer (some ⟨g1, 0, none⟩))), (14, (.bool (decide ((p0.length : Int) > 40))))] [] (fun fb => by kernel_rfl) rfl trivial ?_
  refine WL.cutV (T := Bool) 9 (fun t => [(19, (.bool t)), (0, (.slice A_p0 p0.length c_p0)), (1, (.int .i64 p1)), (5, (.pointer (some ⟨g1, 0, none⟩)))]) (fun t => ((decide ((p0.length : Int) > 40)) || (decide ((p2.Cells.length : Int) > 5000))) = t) (fun K => ?_) ?_
  ·
    rcases Bool.eq_false_or_eq_true (decide ((p0.length : Int) > 40)) with h5 | h5
    ·
      refine WL.setB 14 h5 rfl ?_
      refine seg 9 [] [0, 1, 5, 19] [(0, (.slice A_p0 p0.length c_p0)), (1, (.int .i64 p1)), (5, (.pointer (some ⟨g1, 0, none⟩))), (19, (.bool true))] [] (fun fb => by kernel_rfl) rfl trivial ?_
      exact WL.toV K true [19, 0, 1, 5] rfl (by first | (rw [h5]; done) | (rw [h5]; rfl))
    refine WL.setB 14 h5 rfl ?_
    refine seg 9 [.v (.slice A_p2_Cells p2.Cells.length c_p2_Cells)] [0, 1, 5, 19] [(0, (.slice A_p0 p0.length c_p0)), (1, (.int .i64 p1)), (5, (.pointer (some ⟨g1, 0, none⟩))), (19, (.bool (decide ((p2.Cells.length : Int) > 5000))))] [.cell ⟨g1, 2, none⟩ (.slice A_p2_Cells p2.Cells.length c_p2_Cells)] (fun fb => by kernel_rfl) rfl ⟨hS3.cell 0 rfl 2 rfl, trivial⟩ ?_
    exact WL.toV K (decide ((p2.Cells.length : Int) > 5000)) [19, 0, 1, 5] rfl (by first | (rw [h5]; done) | (rw [h5]; rfl))
  rintro b6 rfl
  refine WL.done rfl ?_
  refine WX.next ?_
  rcases br_some hf with ⟨h7, hf⟩ | ⟨h7, hf⟩
  · refine WC.condT2 (fun fb => by kernel_rfl) h7 ?_
    refine WC.seq ?_
    refine WC.region ?_
    obtain ⟨t1762, ht1763, hf⟩ := bind_some hf
    refine WL.call (some 20) 28 #[] (fun fb => by kernel_rfl) (top_lives_calls _ t1762 _ ht1763) (fun v w1764 hR1765 => ?_)
    obtain ⟨rfl, hk_⟩ := hR1765
    have hS1766 := hS3.keepN hk_
    refine ⟨trivial, ?_⟩
    refine seg 2 [] [6] [(6, (.bool t1762))] [] (fun fb => by kernel_rfl) rfl trivial ?_
    refine WL.done rfl ?_
    refine WX.next ?_
    refine WC.ret ?_
    injection hf with hf
    subst hf
    exact WX.thenR (WX.ret_ [] (.bool t1762) [] (fun fb => by kernel_rfl) trivial ⟨_, rfl, rfl, hS1766.keep⟩)
  refine WC.condF2 (fun fb => by kernel_rfl) h7 ?_
  refine WC.skip ?_
  refine WX.next ?_
  refine WC.seq ?_
  refine WC.region ?_
  refine seg 2 [] [0, 1, 5, 22, 23] [(0, (.slice A_p0 p0.length c_p0)), (1, (.int .i64 p1)), (5, (.pointer (some ⟨g1, 0, none⟩))), (22, (.slice A_p0 p0.length c_p0)), (23, (.int .i64 p1))] [] (fun fb => by kernel_rfl) rfl trivial ?_
  obtain ⟨t7346, ht7347, hf⟩ := bind_some hf
  refine WL.call (some 24) 21 #[(.slice A_p0 p0.length c_p0), (.int .i64 p1)] (fun fb => by kernel_rfl) (square_Exists_calls _ p0 p1 A_p0 c_p0 t7346 _ (hS3.rd 0) ht7347) (fun v w7348 hR7349 => ?_)
  obtain ⟨rfl, hk_⟩ := hR7349
  have hS7350 := hS3.keepN hk_
  refine ⟨trivial, ?_⟩
  refine seg 8 [] [0, 1, 5, 7, 8] [(0, (.slice A_p0 p0.length c_p0)), (1, (.int .i64 p1)), (5, (.pointer (some ⟨g1, 0, none⟩))), (7, (.bool t7346.1)), (8, (.int .i64 t7346.2))] [] (fun fb => by kernel_rfl) rfl trivial ?_
  refine WL.done rfl ?_
  refine WX.next ?_
  refine WC.seq ?_
  refine WC.seq ?_
  refine WC.region ?_
  refine seg 2 [] [0, 1, 5, 7, 28] [(0, (.slice A_p0 p0.length c_p0)), (1, (.int .i64 p1)), (5, (.pointer (some ⟨g1, 0, none⟩))), (7, (.bool t7346.1)), (28, (.bool (t7346.2 != 0)))] [] (fun fb => by kernel_rfl) rfl trivial ?_
  refine WL.done rfl ?_
  refine WX.next ?_
  rcases br_some hf with ⟨h7351, hf⟩ | ⟨h7351, hf⟩
  · refine WC.condT2 (fun fb => by kernel_rfl) h7351 ?_
    refine WC.seq ?_
    refine WC.region ?_
    obtain ⟨t7352, ht7353, hf⟩ := bind_some hf
    refine WL.call (some 29) 28 #[] (fun fb => by kernel_rfl) (top_lives_calls _ t7352 _ ht7353) (fun v w7354 hR7355 => ?_)
    obtain ⟨rfl, hk_⟩ := hR7355
    have hS7356 := hS7350.keepN hk_
    refine ⟨trivial, ?_⟩
    refine seg 2 [] [6] [(6, (.bool t7352))] [] (fun fb => by kernel_rfl) rfl trivial ?_
    refine WL.done rfl ?_
    refine WX.next ?_
    refine WC.ret ?_
    injection hf with hf
    subst hf
    exact WX.thenR (WX.ret_ [] (.bool t7352) [] (fun fb => by kernel_rfl) trivial ⟨_, rfl, rfl, hS7356.keep⟩)
  refine WC.condF2 (fun fb => by kernel_rfl) h7351 ?_
  refine WC.skip ?_
  refine WX.next ?_
  refine WC.seq ?_
  refine WC.seq ?_
  refine WC.region ?_
  refine seg 2 [] [0, 1, 5, 31] [(0, (.slice A_p0 p0.length c_p0)), (1, (.int .i64 p1)), (5, (.pointer (some ⟨g1, 0, none⟩))), (31, (.bool (!t7346.1)))] [] (fun fb => by kernel_rfl) rfl trivial ?_
  refine WL.done rfl ?_
  refine WX.next ?_
  rcases br_some hf with ⟨h7357, hf⟩ | ⟨h7357, hf⟩
  · refine WC.condT2 (fun fb => by kernel_rfl) h7357 ?_
    refine WC.seq ?_
    refine WC.region ?_
    refine seg 5 [.v (.int .i64 p2.Width)] [0, 1, 5, 36] [(0, (.slice A_p0 p0.length c_p0)), (1, (.int .i64 p1)), (5, (.pointer (some ⟨g1, 0, none⟩))), (36, (.bool (decide (p2.Width < p1))))] [.cell ⟨g1, 0, none⟩ (.int .i64 p2.Width)] (fun fb => by kernel_rfl) rfl ⟨hS7350.cell 0 rfl 0 rfl, trivial⟩ ?_
    refine WL.cutV (T := Bool) 10 (fun t => [(41, (.bool t)), (0, (.slice A_p0 p0.length c_p0)), (5, (.pointer (some ⟨g1, 0, none⟩)))]) (fun t => ((decide (p2.Width < p1)) || (decide (p2.Height < p1))) = t) (fun K => ?_) ?_
    ·
      rcases Bool.eq_false_or_eq_true (decide (p2.Width < p1)) with h7358 | h7358
      ·
        refine WL.setB 36 h7358 rfl ?_
        refine seg 10 [] [0, 5, 41] [(0, (.slice A_p0 p0.length c_p0)), (5, (.pointer (some ⟨g1, 0, none⟩))), (41, (.bool true))] [] (fun fb => by kernel_rfl) rfl trivial ?_
        exact WL.toV K true [41, 0, 5] rfl (by first | (rw [h7358]; done) | (rw [h7358]; rfl))
      refine WL.setB 36 h7358 rfl ?_
      refine seg 10 [.v (.int .i64 p2.Height)] [0, 5, 41] [(0, (.slice A_p0 p0.length c_p0)), (5, (.pointer (some ⟨g1, 0, none⟩))), (41, (.bool (decide (p2.Height < p1))))] [.cell ⟨g1, 1, none⟩ (.int .i64 p2.Height)] (fun fb => by kernel_rfl) rfl ⟨hS7350.cell 0 rfl 1 rfl, trivial⟩ ?_
      exact WL.toV K (decide (p2.Height < p1)) [41, 0, 5] rfl (by first | (rw [h7358]; done) | (rw [h7358]; rfl))
    rintro b7359 rfl
    refine seg 11 [] [0, 5, 42] [(0, (.slice A_p0 p0.length c_p0)), (5, (.pointer (some ⟨g1, 0, none⟩))), (42, (.bool ((decide (p2.Width < p1)) || (decide (p2.Height < p1)))))] [] (fun fb => by kernel_rfl) rfl trivial ?_
    obtain ⟨x8808, hx8809, hf⟩ := bind_some hf
    refine WL.cutW (T := Bool) 16 (fun t => [(47, (.bool t))]) (fun t w1 => (St NoS w w1 [rowR enc_Tile A_p0 c_p0 p0, rowR encInt A_p2_Cells c_p2_Cells p2.Cells] [] ∧ x8808 = t) ∧ CellsOK [] w1) (fun K => ?_) ?_
    ·
      rcases br_some hx8809 with ⟨h8810, hx8809⟩ | ⟨h8810, hx8809⟩
      ·
        refine WL.setB 42 h8810 rfl ?_
        refine seg 16 [] [47] [(47, (.bool true))] [] (fun fb => by kernel_rfl) rfl trivial ?_
        injection hx8809 with hx8809
        exact WL.to K true [47] rfl ⟨⟨(hS7350.subR [0, 1]).sub [] (by decide), hx8809.symm⟩, trivial⟩
      refine WL.setB 42 h8810 rfl ?_
      refine seg 13 [.v (.int .i64 p2.Width), .v (.int .i64 p2.Height), .v (.slice A_p2_Cells p2.Cells.length c_p2_Cells)] [42, 43, 44] [(42, (.bool false)), (43, (.slice A_p0 p0.length c_p0)), (44, (.agg #[(.int .i64 p2.Width), (.int .i64 p2.Height), (.slice A_p2_Cells p2.Cells.length c_p2_Cells)]))] [.cell ⟨g1, 0, none⟩ (.int .i64 p2.Width), .cell ⟨g1, 1, none⟩ (.int .i64 p2.Height), .cell ⟨g1, 2, none⟩ (.slice A_p2_Cells p2.Cells.length c_p2_Cells)] (fun fb => by kernel_rfl) rfl ⟨hS7350.cell 0 rfl 0 rfl, hS7350.cell 0 rfl 1 rfl, hS7350.cell 0 rfl 2 rfl, trivial⟩ ?_
      obtain ⟨t8811, ht8812, hx8809⟩ := bind_some hx8809
      refine WL.call (some 45) 29 #[(.slice A_p0 p0.length c_p0), (.agg #[(.int .i64 p2.Width), (.int .i64 p2.Height), (.slice A_p2_Cells p2.Cells.length c_p2_Cells)]), (.bool false)] (fun fb => by kernel_rfl) (top_of_calls _ p0 p2 false A_p0 c_p0 A_p2_Cells c_p2_Cells t8811 _ (hS7350.rd 0) (hS7350.rd 1) ht8812) (fun v w8813 hR8814 => ?_)
      obtain ⟨rfl, hk_⟩ := hR8814
      have hS8815 := hS7350.keepN hk_
      refine ⟨trivial, ?_⟩
      refine seg 16 [] [47] [(47, (.bool (!t8811)))] [] (fun fb => by kernel_rfl) rfl trivial ?_
      injection hx8809 with hx8809
      exact WL.to K (!t8811) [47] rfl ⟨⟨(hS8815.subR [0, 1]).sub [] (by decide), hx8809.symm⟩, trivial⟩
    rintro y8816 w8818 ⟨⟨hS8819, hq8817⟩, hF8820⟩
    subst hq8817
    refine seg 17 [] [48] [(48, (.bool x8808))] [] (fun fb => by kernel_rfl) rfl trivial ?_
    obtain ⟨x8827, hx8828, hf⟩ := bind_some hf
    refine WL.cutW (T := Bool) 19 (fun t => [(50, (.bool t))]) (fun t w1 => (St NoS w w1 [rowR enc_Tile A_p0 c_p0 p0, rowR encInt A_p2_Cells c_p2_Cells p2.Cells] [] ∧ x8827 = t) ∧ CellsOK [] w1) (fun K => ?_) ?_
    ·
      rcases br_some hx8828 with ⟨h8829, hx8828⟩ | ⟨h8829, hx8828⟩
      ·
        refine WL.setB 48 h8829 rfl ?_
        obtain ⟨t8830, ht8831, hx8828⟩ := bind_some hx8828
        refine WL.call (some 49) 28 #[] (fun fb => by kernel_rfl) (top_lives_calls _ t8830 _ ht8831) (fun v w8832 hR8833 => ?_)
        obtain ⟨rfl, hk_⟩ := hR8833
        have hS8834 := hS8819.keepN hk_
        refine ⟨trivial, ?_⟩
        refine seg 19 [] [50] [(50, (.bool t8830))] [] (fun fb => by kernel_rfl) rfl trivial ?_
        injection hx8828 with hx8828
        exact WL.to K t8830 [50] rfl ⟨⟨(hS8834.subR [0, 1]).sub [] (by decide), hx8828.symm⟩, trivial⟩
      refine WL.setB 48 h8829 rfl ?_
      refine seg 19 [] [50] [(50, (.bool false))] [] (fun fb => by kernel_rfl) rfl trivial ?_
      injection hx8828 with hx8828
      exact WL.to K false [50] rfl ⟨⟨(hS8819.subR [0, 1]).sub [] (by decide), hx8828.symm⟩, trivial⟩
    rintro y8835 w8837 ⟨⟨hS8838, hq8836⟩, hF8839⟩
    subst hq8836
    refine seg 20 [] [6] [(6, (.bool x8827))] [] (fun fb => by kernel_rfl) rfl trivial ?_
    refine WL.done rfl ?_
    refine WX.next ?_
    refine WC.ret ?_
    injection hf with hf
    subst hf
    exact WX.thenR (WX.ret_ [] (.bool x8827) [] (fun fb => by kernel_rfl) trivial ⟨_, rfl, rfl, hS8838.keep⟩)
  refine WC.condF2 (fun fb => by kernel_rfl) h7357 ?_
  refine WC.skip ?_
  refine WX.next ?_
  refine WC.seq ?_
  refine WC.region ?_
  refine seg 4 [] [0, 1, 52, 53, 54, 55] [(0, (.slice A_p0 p0.length c_p0)), (1, (.int .i64 p1)), (52, (.slice A_p0 p0.length c_p0)), (53, (.int .i64 p1)), (54, (.int .i64 p1)), (55, (.agg #[(.slice none 0 0), (.slice none 0 0), (.slice none 0 0), (.slice none 0 0)]))] [] (fun fb => by kernel_rfl) rfl trivial ?_
  obtain ⟨t8840, ht8841, hf⟩ := bind_some hf
  refine WL.call (some 56) 30 #[(.slice A_p0 p0.length c_p0), (.int .i64 p1), (.int .i64 p1), (.agg #[(.slice none 0 0), (.slice none 0 0), (.slice none 0 0), (.slice none 0 0)])] (fun fb => by kernel_rfl) (fill_First_calls _ p0 p1 p1 (Edges.mk ([] : List Int) ([] : List Int) ([] : List Int) ([] : List Int)) A_p0 c_p0 none 0 none 0 none 0 none 0 t8840 _ (hS7350.rd 0) (RO.nilR _ _ _) (RO.nilR _ _ _) (RO.nilR _ _ _) (RO.nilR _ _ _) ht8841) (fun v w8842 hR8843 => ?_)
  obtain ⟨A8845, c8846, rfl, hk_⟩ := hR8843
  have hS8844 : St NoS w w8842 [rowR enc_Tile A_p0 c_p0 p0, rowR encInt A_p2_Cells c_p2_Cells p2.Cells] [rowO 3 encInt A8845 c8846 t8840.1.Cells, blk g1 (.cells #[(.int .i64 p2.Width), (.int .i64 p2.Height), (.slice A_p2_Cells p2.Cells.length c_p2_Cells)] 38 (0, 0))] := hS7350.call hk_ [] [0] (fun g hg => hg.elim) (by simp) (by decide)
  refine ⟨trivial, ?_⟩
  refine seg 8 [] [0, 1, 57, 58] [(0, (.slice A_p0 p0.length c_p0)), (1, (.int .i64 p1)), (57, (.agg #[(.int .i64 t8840.1.Width), (.int .i64 t8840.1.Height), (.slice A8845 t8840.1.Cells.length c8846)])), (58, (.int .i64 t8840.2))] [] (fun fb => by kernel_rfl) rfl trivial ?_
  refine WL.new hS8844 9 [] (fun g => (.pointer (some ⟨g, 0, none⟩))) (.cells #[(.int .i64 0), (.int .i64 0), (.slice none 0 0)] 38 (0, 0)) [] (fun fb g => by kernel_rfl) trivial (fun g8847 w8848 hS8849 => ?_)
  refine ⟨trivial, ?_⟩
  refine WL.store hS8849 0 rfl [(0, (.int .i64 t8840.1.Width)), (1, (.int .i64 t8840.1.Height)), (2, (.slice A8845 t8840.1.Cells.length c8846))] #[(.int .i64 t8840.1.Width), (.int .i64 t8840.1.Height), (.slice A8845 t8840.1.Cells.length c8846)] (fun fb => by kernel_rfl) (by kernel_rfl) rfl [1, 2] (by decide) (by decide) (fun w8851 hS8852 => ?_)
  refine ⟨trivial, ?_⟩
  refine seg 11 [] [0, 1, 9, 10] [(0, (.slice A_p0 p0.length c_p0)), (1, (.int .i64 p1)), (9, (.pointer (some ⟨g8847, 0, none⟩))), (10, (.int .i64 t8840.2))] [] (fun fb => by kernel_rfl) rfl trivial ?_
  refine WL.done rfl ?_
  refine WX.next ?_
  refine WC.seq ?_
  refine WC.region ?_
  refine seg 3 [] [0, 1, 9, 10, 61] [(0, (.slice A_p0 p0.length c_p0)), (1, (.int .i64 p1)), (9, (.pointer (some ⟨g8847, 0, none⟩))), (10, (.int .i64 t8840.2)), (61, (.bool (t8840.2 == 4)))] [] (fun fb => by kernel_rfl) rfl trivial ?_
  obtain ⟨x8877, hx8878, hf⟩ := bind_some hf
  refine WL.cutW (T := Bool) 23 (fun t => [(81, (.bool t))]) (fun t w1 => (St NoS w w1 [rowR enc_Tile A_p0 c_p0 p0, rowR encInt A_p2_Cells c_p2_Cells p2.Cells] [] ∧ x8877 = t) ∧ CellsOK [] w1) (fun K => ?_) ?_
  ·
    rcases br_some hx8878 with ⟨h8879, hx8878⟩ | ⟨h8879, hx8878⟩
    ·
      refine WL.setB 61 h8879 rfl ?_
      refine seg 23 [] [81] [(81, (.bool true))] [] (fun fb => by kernel_rfl) rfl trivial ?_
      injection hx8878 with hx8878
      exact WL.to K true [81] rfl ⟨⟨(hS8852.subR [0, 1]).sub [] (by decide), hx8878.symm⟩, trivial⟩
    refine WL.setB 61 h8879 rfl ?_
    refine seg 6 [] [0, 1, 9, 61, 64] [(0, (.slice A_p0 p0.length c_p0)), (1, (.int .i64 p1)), (9, (.pointer (some ⟨g8847, 0, none⟩))), (61, (.bool false)), (64, (.bool (t8840.2 == 0)))] [] (fun fb => by kernel_rfl) rfl trivial ?_
    refine WL.cutV (T := Bool) 11 (fun t => [(69, (.bool t)), (0, (.slice A_p0 p0.length c_p0)), (1, (.int .i64 p1)), (9, (.pointer (some ⟨g8847, 0, none⟩))), (61, (.bool false))]) (fun t => ((t8840.2 == 0) && (t8840.1.Width == p1)) = t) (fun K => ?_) ?_
    ·
      rcases Bool.eq_false_or_eq_true (t8840.2 == 0) with h8880 | h8880
      ·
        refine WL.setB 64 h8880 rfl ?_
        refine seg 11 [.v (.int .i64 t8840.1.Width)] [0, 1, 9, 61, 69] [(0, (.slice A_p0 p0.length c_p0)), (1, (.int .i64 p1)), (9, (.pointer (some ⟨g8847, 0, none⟩))), (61, (.bool false)), (69, (.bool (t8840.1.Width == p1)))] [.cell ⟨g8847, 0, none⟩ (.int .i64 t8840.1.Width)] (fun fb => by kernel_rfl) rfl ⟨hS8852.cell 0 rfl 0 rfl, trivial⟩ ?_
        exact WL.toV K (t8840.1.Width == p1) [69, 0, 1, 9, 61] rfl (by first | (rw [h8880]; done) | (rw [h8880]; rfl))
      refine WL.setB 64 h8880 rfl ?_
      refine seg 11 [] [0, 1, 9, 61, 69] [(0, (.slice A_p0 p0.length c_p0)), (1, (.int .i64 p1)), (9, (.pointer (some ⟨g8847, 0, none⟩))), (61, (.bool false)), (69, (.bool false))] [] (fun fb => by kernel_rfl) rfl trivial ?_
      exact WL.toV K false [69, 0, 1, 9, 61] rfl (by first | (rw [h8880]; done) | (rw [h8880]; rfl))
    rintro b8881 rfl
    refine seg 12 [] [0, 1, 9, 61, 70] [(0, (.slice A_p0 p0.length c_p0)), (1, (.int .i64 p1)), (9, (.pointer (some ⟨g8847, 0, none⟩))), (61, (.bool false)), (70, (.bool ((t8840.2 == 0) && (t8840.1.Width == p1))))] [] (fun fb => by kernel_rfl) rfl trivial ?_
    refine WL.cutV (T := Bool) 17 (fun t => [(75, (.bool t)), (0, (.slice A_p0 p0.length c_p0)), (9, (.pointer (some ⟨g8847, 0, none⟩))), (61, (.bool false))]) (fun t => (((t8840.2 == 0) && (t8840.1.Width == p1)) && (t8840.1.Height == p1)) = t) (fun K => ?_) ?_
    ·
      rcases Bool.eq_false_or_eq_true ((t8840.2 == 0) && (t8840.1.Width == p1)) with h8882 | h8882
      ·
        refine WL.setB 70 h8882 rfl ?_
        refine seg 17 [.v (.int .i64 t8840.1.Height)] [0, 9, 61, 75] [(0, (.slice A_p0 p0.length c_p0)), (9, (.pointer (some ⟨g8847, 0, none⟩))), (61, (.bool false)), (75, (.bool (t8840.1.Height == p1)))] [.cell ⟨g8847, 1, none⟩ (.int .i64 t8840.1.Height)] (fun fb => by kernel_rfl) rfl ⟨hS8852.cell 0 rfl 1 rfl, trivial⟩ ?_
        exact WL.toV K (t8840.1.Height == p1) [75, 0, 9, 61] rfl (by first | (rw [h8882]; done) | (rw [h8882]; rfl))
      refine WL.setB 70 h8882 rfl ?_
      refine seg 17 [] [0, 9, 61, 75] [(0, (.slice A_p0 p0.length c_p0)), (9, (.pointer (some ⟨g8847, 0, none⟩))), (61, (.bool false)), (75, (.bool false))] [] (fun fb => by kernel_rfl) rfl trivial ?_
      exact WL.toV K false [75, 0, 9, 61] rfl (by first | (rw [h8882]; done) | (rw [h8882]; rfl))
    rintro b8883 rfl
    refine seg 18 [] [0, 9, 61, 76] [(0, (.slice A_p0 p0.length c_p0)), (9, (.pointer (some ⟨g8847, 0, none⟩))), (61, (.bool false)), (76, (.bool (((t8840.2 == 0) && (t8840.1.Width == p1)) && (t8840.1.Height == p1))))] [] (fun fb => by kernel_rfl) rfl trivial ?_
    obtain ⟨x8890, hx8891, hx8878⟩ := bind_some hx8878
    refine WL.cutW (T := Bool) 22 (fun t => [(61, (.bool false)), (80, (.bool t))]) (fun t w1 => (St NoS w w1 [rowR enc_Tile A_p0 c_p0 p0, rowR encInt A_p2_Cells c_p2_Cells p2.Cells] [] ∧ x8890 = t) ∧ CellsOK [] w1) (fun K => ?_) ?_
    ·
      rcases br_some hx8891 with ⟨h8892, hx8891⟩ | ⟨h8892, hx8891⟩
      ·
        refine WL.setB 76 h8892 rfl ?_
        refine seg 20 [.v (.int .i64 t8840.1.Width), .v (.int .i64 t8840.1.Height), .v (.slice A8845 t8840.1.Cells.length c8846)] [61, 76, 77, 78] [(61, (.bool false)), (76, (.bool true)), (77, (.slice A_p0 p0.length c_p0)), (78, (.agg #[(.int .i64 t8840.1.Width), (.int .i64 t8840.1.Height), (.slice A8845 t8840.1.Cells.length c8846)]))] [.cell ⟨g8847, 0, none⟩ (.int .i64 t8840.1.Width), .cell ⟨g8847, 1, none⟩ (.int .i64 t8840.1.Height), .cell ⟨g8847, 2, none⟩ (.slice A8845 t8840.1.Cells.length c8846)] (fun fb => by kernel_rfl) rfl ⟨hS8852.cell 0 rfl 0 rfl, hS8852.cell 0 rfl 1 rfl, hS8852.cell 0 rfl 2 rfl, trivial⟩ ?_
        obtain ⟨t8893, ht8894, hx8891⟩ := bind_some hx8891
        refine WL.call (some 79) 29 #[(.slice A_p0 p0.length c_p0), (.agg #[(.int .i64 t8840.1.Width), (.int .i64 t8840.1.Height), (.slice A8845 t8840.1.Cells.length c8846)]), (.bool false)] (fun fb => by kernel_rfl) (top_of_calls _ p0 t8840.1 false A_p0 c_p0 A8845 c8846 t8893 _ (hS8852.rd 0) (hS8852.ow 1).ofO ht8894) (fun v w8895 hR8896 => ?_)
        obtain ⟨rfl, hk_⟩ := hR8896
        have hS8897 := hS8852.keepN hk_
        refine ⟨trivial, ?_⟩
        refine seg 22 [] [61, 80] [(61, (.bool false)), (80, (.bool t8893))] [] (fun fb => by kernel_rfl) rfl trivial ?_
        injection hx8891 with hx8891
        exact WL.to K t8893 [61, 80] rfl ⟨⟨(hS8897.subR [0, 1]).sub [] (by decide), hx8891.symm⟩, trivial⟩
      refine WL.setB 76 h8892 rfl ?_
      refine seg 22 [] [61, 80] [(61, (.bool false)), (80, (.bool false))] [] (fun fb => by kernel_rfl) rfl trivial ?_
      injection hx8891 with hx8891
      exact WL.to K false [61, 80] rfl ⟨⟨(hS8852.subR [0, 1]).sub [] (by decide), hx8891.symm⟩, trivial⟩
    rintro y8898 w8900 ⟨⟨hS8901, hq8899⟩, hF8902⟩
    subst hq8899
    refine seg 23 [] [81] [(81, (.bool x8890))] [] (fun fb => by kernel_rfl) rfl trivial ?_
    injection hx8878 with hx8878
    exact WL.to K x8890 [81] rfl ⟨⟨(hS8901.subR [0, 1]).sub [] (by decide), hx8878.symm⟩, trivial⟩
  rintro y8903 w8905 ⟨⟨hS8906, hq8904⟩, hF8907⟩
  subst hq8904
  refine seg 24 [] [82] [(82, (.bool x8877))] [] (fun fb => by kernel_rfl) rfl trivial ?_
  obtain ⟨x8914, hx8915, hf⟩ := bind_some hf
  refine WL.cutW (T := Bool) 26 (fun t => [(84, (.bool t))]) (fun t w1 => (St NoS w w1 [rowR enc_Tile A_p0 c_p0 p0, rowR encInt A_p2_Cells c_p2_Cells p2.Cells] [] ∧ x8914 = t) ∧ CellsOK [] w1) (fun K => ?_) ?_
  ·
    rcases br_some hx8915 with ⟨h8916, hx8915⟩ | ⟨h8916, hx8915⟩
    ·
      refine WL.setB 82 h8916 rfl ?_
      obtain ⟨t8917, ht8918, hx8915⟩ := bind_some hx8915
      refine WL.call (some 83) 28 #[] (fun fb => by kernel_rfl) (top_lives_calls _ t8917 _ ht8918) (fun v w8919 hR8920 => ?_)
      obtain ⟨rfl, hk_⟩ := hR8920
      have hS8921 := hS8906.keepN hk_
      refine ⟨trivial, ?_⟩
      refine seg 26 [] [84] [(84, (.bool t8917))] [] (fun fb => by kernel_rfl) rfl trivial ?_
      injection hx8915 with hx8915
      exact WL.to K t8917 [84] rfl ⟨⟨(hS8921.subR [0, 1]).sub [] (by decide), hx8915.symm⟩, trivial⟩
    refine WL.setB 82 h8916 rfl ?_
    refine seg 26 [] [84] [(84, (.bool false))] [] (fun fb => by kernel_rfl) rfl trivial ?_
    injection hx8915 with hx8915
    exact WL.to K false [84] rfl ⟨⟨(hS8906.subR [0, 1]).sub [] (by decide), hx8915.symm⟩, trivial⟩
  rintro y8922 w8924 ⟨⟨hS8925, hq8923⟩, hF8926⟩
  subst hq8923
  refine seg 27 [] [6] [(6, (.bool x8914))] [] (fun fb => by kernel_rfl) rfl trivial ?_
  refine WL.done rfl ?_
  refine WX.next ?_
  refine WC.ret ?_
  injection hf with hf
  subst hf
  exact WX.ret_ [] (.bool x8914) [] (fun fb => by kernel_rfl) trivial ⟨_, rfl, rfl, hS8925.keep⟩
end Gp
