/- Walks: each function of the program computes its plain function. -/
import Derived.Test.YtcmgcacpmbldeaaDoorGx0
set_option linter.unusedVariables false
set_option linter.unusedSimpArgs false
namespace Gp
open Go Gw Go.Proofs
theorem tile_joins_calls (k : Nat) (p0 : List Tile) (p1 : Pattern) (p2 : Bool) (A_p0 : Option Addr) (c_p0 : Nat) (A_p1_Cells : Option Addr) (c_p1_Cells : Nat) (r : Bool) (w : World) (hR0 : RO NoS w (rowR enc_Tile A_p0 c_p0 p0)) (hR1 : RO NoS w (rowR encInt A_p1_Cells c_p1_Cells p1.Cells)) (hf : tile_joins k p0 p1 p2 = some r) :
    CallsR Tryd.prog 45 #[(.slice A_p0 p0.length c_p0), (.agg #[(.int .i64 p1.Width), (.int .i64 p1.Height), (.slice A_p1_Cells p1.Cells.length c_p1_Cells)]), (.bool p2)] w (fun v w' => v = (.bool r) ∧ Keeps NoS w w') := by
  have hS : St NoS w w [rowR enc_Tile A_p0 c_p0 p0, rowR encInt A_p1_Cells c_p1_Cells p1.Cells] [] := St.init (ro_cons hR0 (ro_cons hR1 (ro_nil _ _)))
  refine enter 92 Tryd.func45 rfl Tryd.ntmps45 rfl ?_
  unfold tile_joins at hf
  refine WC.seq ?_
  refine WC.region ?_
  refine WL.new hS 4 [] (fun g => (.pointer (some ⟨g, 0, none⟩))) (.cells #[(.int .i64 p1.Width), (.int .i64 p1.Height), (.slice A_p1_Cells p1.Cells.length c_p1_Cells)] 35 (0, 0)) [] (fun fb g => by kernel_rfl) trivial (fun g4116 w4117 hS4118 => ?_)
  refine ⟨trivial, ?_⟩
  refine seg 2 [] [0, 2, 4] [(0, (.slice A_p0 p0.length c_p0)), (2, (.bool p2)), (4, (.pointer (some ⟨g4116, 0, none⟩)))] [] (fun fb => by kernel_rfl) rfl trivial ?_
  refine WL.done rfl ?_
  refine WX.next ?_
  refine WC.seq ?_
  refine WC.seq ?_
  refine WC.region ?_
  refine seg 4 [.v (.slice A_p1_Cells p1.Cells.length c_p1_Cells)] [0, 2, 4, 12, 13, 14] [(0, (.slice A_p0 p0.length c_p0)), (2, (.bool p2)), (4, (.pointer (some ⟨g4116, 0, none⟩))), (12, (.slice A_p1_Cells p1.Cells.length c_p1_Cells)), (13, (.int .i64 (p1.Cells.length : Int))), (14, (.int .i64 0))] [.cell ⟨g4116, 2, none⟩ (.slice A_p1_Cells p1.Cells.length c_p1_Cells)] (fun fb => by kernel_rfl) rfl ⟨hS4118.cell 0 rfl 2 rfl, trivial⟩ ?_
  refine WL.done rfl ?_
  refine WX.next ?_
  obtain ⟨x4288, hx4289, hf⟩ := bind_some hf
  refine WC.cutN (T := Unit) (fun t => []) (fun t w1 => St NoS w w1 [rowR enc_Tile A_p0 c_p0 p0, rowR encInt A_p1_Cells c_p1_Cells p1.Cells] [] ∧ x4288 = .inr t) (fun Kx4288 => ?_) ?_
  ·
    refine WC.block ?_
    refine WC.loop (T := Int) (fun t => [(0, (.slice A_p0 p0.length c_p0)), (2, (.bool p2)), (4, (.pointer (some ⟨g4116, 0, none⟩))), (12, (.slice A_p1_Cells p1.Cells.length c_p1_Cells)), (13, (.int .i64 (p1.Cells.length : Int))), (14, (.int .i64 t))]) (fun n t w1 => St NoS w w1 [rowR enc_Tile A_p0 c_p0 p0, rowR encInt A_p1_Cells c_p1_Cells p1.Cells] [blk g4116 (.cells #[(.int .i64 p1.Width), (.int .i64 p1.Height), (.slice A_p1_Cells p1.Cells.length c_p1_Cells)] 35 (0, 0))] ∧ tile_joins.l0 n t p0 p1 p2 = some x4288) k 0 [0, 2, 4, 12, 13, 14] rfl ⟨(hS4118.subR [0, 1]).sub [0] (by decide), hx4289⟩ ?_
    rintro k4290 x4287 w4291 ⟨hS4292, hl4293⟩
    cases k4290 with
    | zero => rw [tile_joins.l0] at hl4293; cases hl4293
    | succ k4290 =>
      rw [tile_joins.l0] at hl4293
      refine WC.seq ?_
      refine WC.region ?_
      refine seg 1 [] [0, 2, 4, 12, 13, 14, 15] [(0, (.slice A_p0 p0.length c_p0)), (2, (.bool p2)), (4, (.pointer (some ⟨g4116, 0, none⟩))), (12, (.slice A_p1_Cells p1.Cells.length c_p1_Cells)), (13, (.int .i64 (p1.Cells.length : Int))), (14, (.int .i64 x4287)), (15, (.bool (decide (x4287 < (p1.Cells.length : Int)))))] [] (fun fb => by kernel_rfl) rfl trivial ?_
      refine WL.done rfl ?_
      refine WX.next ?_
      refine WC.seq ?_
      rcases br_some hl4293 with ⟨h4294, hl4293⟩ | ⟨h4294, hl4293⟩
      · refine WC.condT2 (fun fb => by kernel_rfl) h4294 ?_
        refine WC.skip ?_
        refine WX.next ?_
        refine WC.seq ?_
        refine WC.block ?_
        refine WC.seq ?_
        refine WC.region ?_
        refine seg 1 [] [0, 2, 4, 12, 13, 14, 16] [(0, (.slice A_p0 p0.length c_p0)), (2, (.bool p2)), (4, (.pointer (some ⟨g4116, 0, none⟩))), (12, (.slice A_p1_Cells p1.Cells.length c_p1_Cells)), (13, (.int .i64 (p1.Cells.length : Int))), (14, (.int .i64 x4287)), (16, (.int .i64 x4287))] [] (fun fb => by kernel_rfl) rfl trivial ?_
        obtain ⟨h4295, hl4293⟩ := as_some hl4293
        refine seg 5 [.v (.int .i64 (rdD p1.Cells x4287 0))] [0, 2, 4, 7, 8, 12, 13, 14] [(0, (.slice A_p0 p0.length c_p0)), (2, (.bool p2)), (4, (.pointer (some ⟨g4116, 0, none⟩))), (7, (.int .i64 x4287)), (8, (.int .i64 (rdD p1.Cells x4287 0))), (12, (.slice A_p1_Cells p1.Cells.length c_p1_Cells)), (13, (.int .i64 (p1.Cells.length : Int))), (14, (.int .i64 x4287))] [.idx A_p1_Cells x4287 p1.Cells.length, .cell ((adr A_p1_Cells).add ((x4287).toNat * 1)) (.int .i64 (rdD p1.Cells x4287 0))] (fun fb => by kernel_rfl) rfl ⟨rowR.adr (hS4292.rd 1).1 h4295.1 h4295.2, rowR.cell (hS4292.rd 1).1 0 h4295.1 h4295.2 0 rfl, trivial⟩ ?_
        refine WL.done rfl ?_
        refine WX.next ?_
        refine WC.seq ?_
        obtain ⟨h4300, hl4293⟩ := as_some hl4293
        refine WC.regionD ([(2, ⟨g4116, 0, none⟩, (.int .i64 p1.Width)), (6, ⟨g4116, 0, none⟩, (.int .i64 p1.Width))], [0, 1, 2, 3, 4, 5, 6, 7, 8, 9], [[], [], [1], [0, 1, 2], [], [], [5], [4, 5, 6], [0, 1, 2, 3], [0, 1, 2, 3, 4, 5, 6, 7, 8]]) [[0, 1, 2, 3, 4, 5, 6, 7, 8, 9]] (by kernel_rfl) (by kernel_rfl) (NoPanic.seq (NoPanic.block (NoPanic.seq (NoPanic.seq (NoPanic.block (NoPanic.seq (NoPanic.body))))))) ?_
        have hS4298 := hS4292.drew
        revert hS4298
        generalize World.drew w4291 = w4297
        intro hS4298
        refine ⟨⟨hS4298.cell 0 rfl 0 rfl, hS4298.cell 0 rfl 0 rfl, trivial⟩, forallC ?_ (forallN)⟩
        refine segF 10 [.v (.int .i64 p1.Width), .v (.int .i64 p1.Width)] [0, 2, 4, 8, 9, 10, 12, 13, 14] [(0, (.slice A_p0 p0.length c_p0)), (2, (.bool p2)), (4, (.pointer (some ⟨g4116, 0, none⟩))), (8, (.int .i64 (rdD p1.Cells x4287 0))), (9, (.int .i64 (Int.tmod x4287 p1.Width))), (10, (.int .i64 (w64 (Int.tdiv x4287 p1.Width)))), (12, (.slice A_p1_Cells p1.Cells.length c_p1_Cells)), (13, (.int .i64 (p1.Cells.length : Int))), (14, (.int .i64 x4287))] [.ne p1.Width, .ne p1.Width] [0, 1] [(2, ⟨g4116, 0, none⟩, (.int .i64 p1.Width)), (6, ⟨g4116, 0, none⟩, (.int .i64 p1.Width))] (fun fb => by kernel_rfl) rfl ⟨h4300, h4300, trivial⟩ rfl ?_
        refine WL.done rfl ?_
        refine WX.next ?_
        refine WC.seq ?_
        refine WC.seq ?_
        refine WC.region ?_
        refine seg 6 [.v (.int .i64 p1.Width)] [0, 2, 4, 8, 9, 10, 12, 13, 14, 32] [(0, (.slice A_p0 p0.length c_p0)), (2, (.bool p2)), (4, (.pointer (some ⟨g4116, 0, none⟩))), (8, (.int .i64 (rdD p1.Cells x4287 0))), (9, (.int .i64 (Int.tmod x4287 p1.Width))), (10, (.int .i64 (w64 (Int.tdiv x4287 p1.Width)))), (12, (.slice A_p1_Cells p1.Cells.length c_p1_Cells)), (13, (.int .i64 (p1.Cells.length : Int))), (14, (.int .i64 x4287)), (32, (.bool (decide (w64 ((Int.tmod x4287 p1.Width) + 1) < p1.Width))))] [.cell ⟨g4116, 0, none⟩ (.int .i64 p1.Width)] (fun fb => by kernel_rfl) rfl ⟨hS4298.cell 0 rfl 0 rfl, trivial⟩ ?_
        refine WL.cutV (T := Bool) 8 (fun t => [(34, (.bool t)), (0, (.slice A_p0 p0.length c_p0)), (2, (.bool p2)), (4, (.pointer (some ⟨g4116, 0, none⟩))), (8, (.int .i64 (rdD p1.Cells x4287 0))), (9, (.int .i64 (Int.tmod x4287 p1.Width))), (10, (.int .i64 (w64 (Int.tdiv x4287 p1.Width)))), (12, (.slice A_p1_Cells p1.Cells.length c_p1_Cells)), (13, (.int .i64 (p1.Cells.length : Int))), (14, (.int .i64 x4287))]) (fun t => t = ((decide (w64 ((Int.tmod x4287 p1.Width) + 1) < p1.Width)) || p2)) (fun K => ?_) ?_
        ·
          rcases Bool.eq_false_or_eq_true (decide (w64 ((Int.tmod x4287 p1.Width) + 1) < p1.Width)) with h4301 | h4301
          ·
            refine WL.setB 32 h4301 rfl ?_
            refine seg 8 [] [0, 2, 4, 8, 9, 10, 12, 13, 14, 34] [(0, (.slice A_p0 p0.length c_p0)), (2, (.bool p2)), (4, (.pointer (some ⟨g4116, 0, none⟩))), (8, (.int .i64 (rdD p1.Cells x4287 0))), (9, (.int .i64 (Int.tmod x4287 p1.Width))), (10, (.int .i64 (w64 (Int.tdiv x4287 p1.Width)))), (12, (.slice A_p1_Cells p1.Cells.length c_p1_Cells)), (13, (.int .i64 (p1.Cells.length : Int))), (14, (.int .i64 x4287)), (34, (.bool true))] [] (fun fb => by kernel_rfl) rfl trivial ?_
            exact WL.toV K true [34, 0, 2, 4, 8, 9, 10, 12, 13, 14] rfl (by first | (rw [h4301]; done) | (rw [h4301]; rfl))
          refine WL.setB 32 h4301 rfl ?_
          refine seg 8 [] [0, 2, 4, 8, 9, 10, 12, 13, 14, 34] [(0, (.slice A_p0 p0.length c_p0)), (2, (.bool p2)), (4, (.pointer (some ⟨g4116, 0, none⟩))), (8, (.int .i64 (rdD p1.Cells x4287 0))), (9, (.int .i64 (Int.tmod x4287 p1.Width))), (10, (.int .i64 (w64 (Int.tdiv x4287 p1.Width)))), (12, (.slice A_p1_Cells p1.Cells.length c_p1_Cells)), (13, (.int .i64 (p1.Cells.length : Int))), (14, (.int .i64 x4287)), (34, (.bool p2))] [] (fun fb => by kernel_rfl) rfl trivial ?_
          exact WL.toV K p2 [34, 0, 2, 4, 8, 9, 10, 12, 13, 14] rfl (by first | (rw [h4301]; done) | (rw [h4301]; rfl))
        rintro b4302 rfl
        refine WL.done rfl ?_
        refine WX.next ?_
        obtain ⟨x4316, hx4317, hl4293⟩ := bind_some hl4293
        refine WC.cutN (T := Unit) (fun t => [(0, (.slice A_p0 p0.length c_p0)), (2, (.bool p2)), (4, (.pointer (some ⟨g4116, 0, none⟩))), (8, (.int .i64 (rdD p1.Cells x4287 0))), (9, (.int .i64 (Int.tmod x4287 p1.Width))), (10, (.int .i64 (w64 (Int.tdiv x4287 p1.Width)))), (12, (.slice A_p1_Cells p1.Cells.length c_p1_Cells)), (13, (.int .i64 (p1.Cells.length : Int))), (14, (.int .i64 x4287))]) (fun t w1 => St NoS w w1 [rowR enc_Tile A_p0 c_p0 p0, rowR encInt A_p1_Cells c_p1_Cells p1.Cells] [blk g4116 (.cells #[(.int .i64 p1.Width), (.int .i64 p1.Height), (.slice A_p1_Cells p1.Cells.length c_p1_Cells)] 35 (0, 0))] ∧ x4316 = .inr t) (fun Kx4316 => ?_) ?_
        ·
          rcases br_some hx4317 with ⟨h4318, hx4317⟩ | ⟨h4318, hx4317⟩
          · refine WC.condT2 (fun fb => by kernel_rfl) h4318 ?_
            refine WC.seq ?_
            obtain ⟨h4327, hx4317⟩ := as_some hx4317
            obtain ⟨h4328, hx4317⟩ := as_some hx4317
            obtain ⟨h4329, hx4317⟩ := as_some hx4317
            refine WC.regionD ([(4, (((adr A_p0).add (((rdD p1.Cells x4287 0)).toNat * 4)).add 1), (.int .i64 ((rdD p0 (rdD p1.Cells x4287 0) z_Tile).E))), (7, ⟨g4116, 2, none⟩, (.slice A_p1_Cells p1.Cells.length c_p1_Cells)), (10, ⟨g4116, 0, none⟩, (.int .i64 p1.Width)), (15, ⟨g4116, 0, none⟩, (.int .i64 p1.Width)), (19, ((adr A_p1_Cells).add ((w64 ((w64 ((w64 (Int.tdiv x4287 p1.Width)) * p1.Width)) + (Int.tmod (w64 ((Int.tmod x4287 p1.Width) + 1)) p1.Width))).toNat * 1)), (.int .i64 (rdD p1.Cells (w64 ((w64 ((w64 (Int.tdiv x4287 p1.Width)) * p1.Width)) + (Int.tmod (w64 ((Int.tmod x4287 p1.Width) + 1)) p1.Width))) 0))), (22, (((adr A_p0).add (((rdD p1.Cells (w64 ((w64 ((w64 (Int.tdiv x4287 p1.Width)) * p1.Width)) + (Int.tmod (w64 ((Int.tmod x4287 p1.Width) + 1)) p1.Width))) 0)).toNat * 4)).add 3), (.int .i64 ((rdD p0 (rdD p1.Cells (w64 ((w64 ((w64 (Int.tdiv x4287 p1.Width)) * p1.Width)) + (Int.tmod (w64 ((Int.tmod x4287 p1.Width) + 1)) p1.Width))) 0) z_Tile).W)))], [0, 1, 2, 3, 4, 5, 6, 7, 8, 9, 10, 11, 12, 13, 14, 15, 16, 17, 18, 19, 20, 21, 22, 23], [[], [], [0, 1], [0, 1, 2], [0, 1, 2, 3], [], [], [6], [], [], [9], [8, 9, 10], [], [12], [], [14], [12, 13, 14, 15], [8, 9, 10, 11, 12, 13, 14, 15, 16], [6, 7, 8, 9, 10, 11, 12, 13, 14, 15, 16, 17], [6, 7, 8, 9, 10, 11, 12, 13, 14, 15, 16, 17, 18], [5, 6, 7, 8, 9, 10, 11, 12, 13, 14, 15, 16, 17, 18, 19], [5, 6, 7, 8, 9, 10, 11, 12, 13, 14, 15, 16, 17, 18, 19, 20], [5, 6, 7, 8, 9, 10, 11, 12, 13, 14, 15, 16, 17, 18, 19, 20, 21], [0, 1, 2, 3, 4, 5, 6, 7, 8, 9, 10, 11, 12, 13, 14, 15, 16, 17, 18, 19, 20, 21, 22]]) [[0, 1, 2, 3, 4, 5, 6, 7, 8, 9, 10, 11, 12, 13, 14, 15, 16, 17, 18, 19, 20, 21, 22, 23]] (by kernel_rfl) (by kernel_rfl) (NoPanic.seq (NoPanic.seq (NoPanic.block (NoPanic.seq (NoPanic.seq (NoPanic.block (NoPanic.seq (NoPanic.body)))))))) ?_
            have hS4323 := hS4298.drew
            revert hS4323
            generalize World.drew w4297 = w4322
            intro hS4323
            refine ⟨⟨rowR.cell (hS4323.rd 0).1 z_Tile h4327.1 h4327.2 1 rfl, hS4323.cell 0 rfl 2 rfl, hS4323.cell 0 rfl 0 rfl, hS4323.cell 0 rfl 0 rfl, rowR.cell (hS4323.rd 1).1 0 h4328.1 h4328.2 0 rfl, rowR.cell (hS4323.rd 0).1 z_Tile h4329.1 h4329.2 3 rfl, trivial⟩, forallC ?_ (forallN)⟩
            refine segF 24 [.v (.int .i64 ((rdD p0 (rdD p1.Cells x4287 0) z_Tile).E)), .v (.slice A_p1_Cells p1.Cells.length c_p1_Cells), .v (.int .i64 p1.Width), .v (.int .i64 p1.Width), .v (.int .i64 (rdD p1.Cells (w64 ((w64 ((w64 (Int.tdiv x4287 p1.Width)) * p1.Width)) + (Int.tmod (w64 ((Int.tmod x4287 p1.Width) + 1)) p1.Width))) 0)), .v (.int .i64 ((rdD p0 (rdD p1.Cells (w64 ((w64 ((w64 (Int.tdiv x4287 p1.Width)) * p1.Width)) + (Int.tmod (w64 ((Int.tmod x4287 p1.Width) + 1)) p1.Width))) 0) z_Tile).W))] [0, 2, 4, 8, 9, 10, 12, 13, 14, 58] [(0, (.slice A_p0 p0.length c_p0)), (2, (.bool p2)), (4, (.pointer (some ⟨g4116, 0, none⟩))), (8, (.int .i64 (rdD p1.Cells x4287 0))), (9, (.int .i64 (Int.tmod x4287 p1.Width))), (10, (.int .i64 (w64 (Int.tdiv x4287 p1.Width)))), (12, (.slice A_p1_Cells p1.Cells.length c_p1_Cells)), (13, (.int .i64 (p1.Cells.length : Int))), (14, (.int .i64 x4287)), (58, (.bool (((rdD p0 (rdD p1.Cells x4287 0) z_Tile).E) != ((rdD p0 (rdD p1.Cells (w64 ((w64 ((w64 (Int.tdiv x4287 p1.Width)) * p1.Width)) + (Int.tmod (w64 ((Int.tmod x4287 p1.Width) + 1)) p1.Width))) 0) z_Tile).W))))] [.idx A_p0 (rdD p1.Cells x4287 0) p0.length, .ne p1.Width, .idx A_p1_Cells (w64 ((w64 ((w64 (Int.tdiv x4287 p1.Width)) * p1.Width)) + (Int.tmod (w64 ((Int.tmod x4287 p1.Width) + 1)) p1.Width))) p1.Cells.length, .idx A_p0 (rdD p1.Cells (w64 ((w64 ((w64 (Int.tdiv x4287 p1.Width)) * p1.Width)) + (Int.tmod (w64 ((Int.tmod x4287 p1.Width) + 1)) p1.Width))) 0) p0.length] [0, 1, 2, 3, 4, 5] [(4, (((adr A_p0).add (((rdD p1.Cells x4287 0)).toNat * 4)).add 1), (.int .i64 ((rdD p0 (rdD p1.Cells x4287 0) z_Tile).E))), (7, ⟨g4116, 2, none⟩, (.slice A_p1_Cells p1.Cells.length c_p1_Cells)), (10, ⟨g4116, 0, none⟩, (.int .i64 p1.Width)), (15, ⟨g4116, 0, none⟩, (.int .i64 p1.Width)), (19, ((adr A_p1_Cells).add ((w64 ((w64 ((w64 (Int.tdiv x4287 p1.Width)) * p1.Width)) + (Int.tmod (w64 ((Int.tmod x4287 p1.Width) + 1)) p1.Width))).toNat * 1)), (.int .i64 (rdD p1.Cells (w64 ((w64 ((w64 (Int.tdiv x4287 p1.Width)) * p1.Width)) + (Int.tmod (w64 ((Int.tmod x4287 p1.Width) + 1)) p1.Width))) 0))), (22, (((adr A_p0).add (((rdD p1.Cells (w64 ((w64 ((w64 (Int.tdiv x4287 p1.Width)) * p1.Width)) + (Int.tmod (w64 ((Int.tmod x4287 p1.Width) + 1)) p1.Width))) 0)).toNat * 4)).add 3), (.int .i64 ((rdD p0 (rdD p1.Cells (w64 ((w64 ((w64 (Int.tdiv x4287 p1.Width)) * p1.Width)) + (Int.tmod (w64 ((Int.tmod x4287 p1.Width) + 1)) p1.Width))) 0) z_Tile).W)))] (fun fb => by kernel_rfl) rfl ⟨rowR.adr (hS4323.rd 0).1 h4327.1 h4327.2, h4300, rowR.adr (hS4323.rd 1).1 h4328.1 h4328.2, rowR.adr (hS4323.rd 0).1 h4329.1 h4329.2, trivial⟩ rfl ?_
            refine WL.done rfl ?_
            refine WX.next ?_
            rcases br_some hx4317 with ⟨h4330, hx4317⟩ | ⟨h4330, hx4317⟩
            · refine WC.condT2 (fun fb => by kernel_rfl) h4330 ?_
              refine WC.seq ?_
              refine WC.region ?_
              refine seg 1 [] [6] [(6, (.bool false))] [] (fun fb => by kernel_rfl) rfl trivial ?_
              refine WL.done rfl ?_
              refine WX.next ?_
              refine WC.ret ?_
              injection hx4317 with hx4317
              subst hx4317
              injection hl4293 with hl4293
              subst hl4293
              injection hf with hf
              subst hf
              exact WX.thenR (WX.blockR (WX.thenR (WX.thenR (WX.blockR (WX.thenR (WX.ret_ [] (.bool false) [] (fun fb => by kernel_rfl) trivial ⟨_, rfl, rfl, hS4323.keep⟩))))))
            refine WC.condF2 (fun fb => by kernel_rfl) h4330 ?_
            refine WC.skip ?_
            injection hx4317 with hx4317
            exact WX.to Kx4316 () [0, 2, 4, 8, 9, 10, 12, 13, 14] rfl ⟨(hS4323.subR [0, 1]).sub [0] (by decide), hx4317.symm⟩
          refine WC.condF2 (fun fb => by kernel_rfl) h4318 ?_
          refine WC.skip ?_
          injection hx4317 with hx4317
          exact WX.to Kx4316 () [0, 2, 4, 8, 9, 10, 12, 13, 14] rfl ⟨(hS4298.subR [0, 1]).sub [0] (by decide), hx4317.symm⟩
        rintro y4334 w4331 ⟨hS4332, hq4333⟩
        subst hq4333
        have hl4293 := sum_inr hl4293
        refine WX.next ?_
        refine WC.seq ?_
        refine WC.region ?_
        refine seg 6 [.v (.int .i64 p1.Height)] [0, 2, 4, 8, 9, 10, 12, 13, 14, 64] [(0, (.slice A_p0 p0.length c_p0)), (2, (.bool p2)), (4, (.pointer (some ⟨g4116, 0, none⟩))), (8, (.int .i64 (rdD p1.Cells x4287 0))), (9, (.int .i64 (Int.tmod x4287 p1.Width))), (10, (.int .i64 (w64 (Int.tdiv x4287 p1.Width)))), (12, (.slice A_p1_Cells p1.Cells.length c_p1_Cells)), (13, (.int .i64 (p1.Cells.length : Int))), (14, (.int .i64 x4287)), (64, (.bool (decide (w64 ((w64 (Int.tdiv x4287 p1.Width)) + 1) < p1.Height))))] [.cell ⟨g4116, 1, none⟩ (.int .i64 p1.Height)] (fun fb => by kernel_rfl) rfl ⟨hS4332.cell 0 rfl 1 rfl, trivial⟩ ?_
        refine WL.cutV (T := Bool) 8 (fun t => [(66, (.bool t)), (0, (.slice A_p0 p0.length c_p0)), (2, (.bool p2)), (4, (.pointer (some ⟨g4116, 0, none⟩))), (8, (.int .i64 (rdD p1.Cells x4287 0))), (9, (.int .i64 (Int.tmod x4287 p1.Width))), (10, (.int .i64 (w64 (Int.tdiv x4287 p1.Width)))), (12, (.slice A_p1_Cells p1.Cells.length c_p1_Cells)), (13, (.int .i64 (p1.Cells.length : Int))), (14, (.int .i64 x4287))]) (fun t => t = ((decide (w64 ((w64 (Int.tdiv x4287 p1.Width)) + 1) < p1.Height)) || p2)) (fun K => ?_) ?_
        ·
          rcases Bool.eq_false_or_eq_true (decide (w64 ((w64 (Int.tdiv x4287 p1.Width)) + 1) < p1.Height)) with h4336 | h4336
          ·
            refine WL.setB 64 h4336 rfl ?_
            refine seg 8 [] [0, 2, 4, 8, 9, 10, 12, 13, 14, 66] [(0, (.slice A_p0 p0.length c_p0)), (2, (.bool p2)), (4, (.pointer (some ⟨g4116, 0, none⟩))), (8, (.int .i64 (rdD p1.Cells x4287 0))), (9, (.int .i64 (Int.tmod x4287 p1.Width))), (10, (.int .i64 (w64 (Int.tdiv x4287 p1.Width)))), (12, (.slice A_p1_Cells p1.Cells.length c_p1_Cells)), (13, (.int .i64 (p1.Cells.length : Int))), (14, (.int .i64 x4287)), (66, (.bool true))] [] (fun fb => by kernel_rfl) rfl trivial ?_
            exact WL.toV K true [66, 0, 2, 4, 8, 9, 10, 12, 13, 14] rfl (by first | (rw [h4336]; done) | (rw [h4336]; rfl))
          refine WL.setB 64 h4336 rfl ?_
          refine seg 8 [] [0, 2, 4, 8, 9, 10, 12, 13, 14, 66] [(0, (.slice A_p0 p0.length c_p0)), (2, (.bool p2)), (4, (.pointer (some ⟨g4116, 0, none⟩))), (8, (.int .i64 (rdD p1.Cells x4287 0))), (9, (.int .i64 (Int.tmod x4287 p1.Width))), (10, (.int .i64 (w64 (Int.tdiv x4287 p1.Width)))), (12, (.slice A_p1_Cells p1.Cells.length c_p1_Cells)), (13, (.int .i64 (p1.Cells.length : Int))), (14, (.int .i64 x4287)), (66, (.bool p2))] [] (fun fb => by kernel_rfl) rfl trivial ?_
          exact WL.toV K p2 [66, 0, 2, 4, 8, 9, 10, 12, 13, 14] rfl (by first | (rw [h4336]; done) | (rw [h4336]; rfl))
        rintro b4337 rfl
        refine WL.done rfl ?_
        refine WX.next ?_
        obtain ⟨x4354, hx4355, hl4293⟩ := bind_some hl4293
        refine WC.cutN (T := Unit) (fun t => [(0, (.slice A_p0 p0.length c_p0)), (2, (.bool p2)), (4, (.pointer (some ⟨g4116, 0, none⟩))), (12, (.slice A_p1_Cells p1.Cells.length c_p1_Cells)), (13, (.int .i64 (p1.Cells.length : Int))), (14, (.int .i64 x4287))]) (fun t w1 => St NoS w w1 [rowR enc_Tile A_p0 c_p0 p0, rowR encInt A_p1_Cells c_p1_Cells p1.Cells] [blk g4116 (.cells #[(.int .i64 p1.Width), (.int .i64 p1.Height), (.slice A_p1_Cells p1.Cells.length c_p1_Cells)] 35 (0, 0))] ∧ x4354 = .inr t) (fun Kx4354 => ?_) ?_
        ·
          rcases br_some hx4355 with ⟨h4356, hx4355⟩ | ⟨h4356, hx4355⟩
          · refine WC.condT2 (fun fb => by kernel_rfl) h4356 ?_
            refine WC.seq ?_
            obtain ⟨h4367, hx4355⟩ := as_some hx4355
            obtain ⟨h4368, hx4355⟩ := as_some hx4355
            obtain ⟨h4369, hx4355⟩ := as_some hx4355
            obtain ⟨h4370, hx4355⟩ := as_some hx4355
            refine WC.regionD ([(4, ((adr A_p0).add (((rdD p1.Cells x4287 0)).toNat * 4)), (.int .i64 ((rdD p0 (rdD p1.Cells x4287 0) z_Tile).N))), (7, ⟨g4116, 2, none⟩, (.slice A_p1_Cells p1.Cells.length c_p1_Cells)), (11, ⟨g4116, 1, none⟩, (.int .i64 p1.Height)), (14, ⟨g4116, 0, none⟩, (.int .i64 p1.Width)), (19, ((adr A_p1_Cells).add ((w64 ((w64 ((Int.tmod (w64 ((w64 (Int.tdiv x4287 p1.Width)) + 1)) p1.Height) * p1.Width)) + (Int.tmod x4287 p1.Width))).toNat * 1)), (.int .i64 (rdD p1.Cells (w64 ((w64 ((Int.tmod (w64 ((w64 (Int.tdiv x4287 p1.Width)) + 1)) p1.Height) * p1.Width)) + (Int.tmod x4287 p1.Width))) 0))), (22, (((adr A_p0).add (((rdD p1.Cells (w64 ((w64 ((Int.tmod (w64 ((w64 (Int.tdiv x4287 p1.Width)) + 1)) p1.Height) * p1.Width)) + (Int.tmod x4287 p1.Width))) 0)).toNat * 4)).add 2), (.int .i64 ((rdD p0 (rdD p1.Cells (w64 ((w64 ((Int.tmod (w64 ((w64 (Int.tdiv x4287 p1.Width)) + 1)) p1.Height) * p1.Width)) + (Int.tmod x4287 p1.Width))) 0) z_Tile).S)))], [0, 1, 2, 3, 4, 5, 6, 7, 8, 9, 10, 11, 12, 13, 14, 15, 16, 17, 18, 19, 20, 21, 22, 23], [[], [], [0, 1], [0, 1, 2], [0, 1, 2, 3], [], [], [6], [], [8], [], [10], [8, 9, 10, 11], [], [13], [8, 9, 10, 11, 12, 13, 14], [], [8, 9, 10, 11, 12, 13, 14, 15, 16], [6, 7, 8, 9, 10, 11, 12, 13, 14, 15, 16, 17], [6, 7, 8, 9, 10, 11, 12, 13, 14, 15, 16, 17, 18], [5, 6, 7, 8, 9, 10, 11, 12, 13, 14, 15, 16, 17, 18, 19], [5, 6, 7, 8, 9, 10, 11, 12, 13, 14, 15, 16, 17, 18, 19, 20], [5, 6, 7, 8, 9, 10, 11, 12, 13, 14, 15, 16, 17, 18, 19, 20, 21], [0, 1, 2, 3, 4, 5, 6, 7, 8, 9, 10, 11, 12, 13, 14, 15, 16, 17, 18, 19, 20, 21, 22]]) [[0, 1, 2, 3, 4, 5, 6, 7, 8, 9, 10, 11, 12, 13, 14, 15, 16, 17, 18, 19, 20, 21, 22, 23]] (by kernel_rfl) (by kernel_rfl) (NoPanic.seq (NoPanic.block (NoPanic.seq (NoPanic.seq (NoPanic.block (NoPanic.seq (NoPanic.body))))))) ?_
            have hS4362 := hS4332.drew
            revert hS4362
            generalize World.drew w4331 = w4361
            intro hS4362
            refine ⟨⟨rowR.cell (hS4362.rd 0).1 z_Tile h4367.1 h4367.2 0 rfl, hS4362.cell 0 rfl 2 rfl, hS4362.cell 0 rfl 1 rfl, hS4362.cell 0 rfl 0 rfl, rowR.cell (hS4362.rd 1).1 0 h4369.1 h4369.2 0 rfl, rowR.cell (hS4362.rd 0).1 z_Tile h4370.1 h4370.2 2 rfl, trivial⟩, forallC ?_ (forallN)⟩
            refine segF 24 [.v (.int .i64 ((rdD p0 (rdD p1.Cells x4287 0) z_Tile).N)), .v (.slice A_p1_Cells p1.Cells.length c_p1_Cells), .v (.int .i64 p1.Height), .v (.int .i64 p1.Width), .v (.int .i64 (rdD p1.Cells (w64 ((w64 ((Int.tmod (w64 ((w64 (Int.tdiv x4287 p1.Width)) + 1)) p1.Height) * p1.Width)) + (Int.tmod x4287 p1.Width))) 0)), .v (.int .i64 ((rdD p0 (rdD p1.Cells (w64 ((w64 ((Int.tmod (w64 ((w64 (Int.tdiv x4287 p1.Width)) + 1)) p1.Height) * p1.Width)) + (Int.tmod x4287 p1.Width))) 0) z_Tile).S))] [0, 2, 4, 12, 13, 14, 90] [(0, (.slice A_p0 p0.length c_p0)), (2, (.bool p2)), (4, (.pointer (some ⟨g4116, 0, none⟩))), (12, (.slice A_p1_Cells p1.Cells.length c_p1_Cells)), (13, (.int .i64 (p1.Cells.length : Int))), (14, (.int .i64 x4287)), (90, (.bool (((rdD p0 (rdD p1.Cells x4287 0) z_Tile).N) != ((rdD p0 (rdD p1.Cells (w64 ((w64 ((Int.tmod (w64 ((w64 (Int.tdiv x4287 p1.Width)) + 1)) p1.Height) * p1.Width)) + (Int.tmod x4287 p1.Width))) 0) z_Tile).S))))] [.idx A_p0 (rdD p1.Cells x4287 0) p0.length, .ne p1.Height, .idx A_p1_Cells (w64 ((w64 ((Int.tmod (w64 ((w64 (Int.tdiv x4287 p1.Width)) + 1)) p1.Height) * p1.Width)) + (Int.tmod x4287 p1.Width))) p1.Cells.length, .idx A_p0 (rdD p1.Cells (w64 ((w64 ((Int.tmod (w64 ((w64 (Int.tdiv x4287 p1.Width)) + 1)) p1.Height) * p1.Width)) + (Int.tmod x4287 p1.Width))) 0) p0.length] [0, 1, 2, 3, 4, 5] [(4, ((adr A_p0).add (((rdD p1.Cells x4287 0)).toNat * 4)), (.int .i64 ((rdD p0 (rdD p1.Cells x4287 0) z_Tile).N))), (7, ⟨g4116, 2, none⟩, (.slice A_p1_Cells p1.Cells.length c_p1_Cells)), (11, ⟨g4116, 1, none⟩, (.int .i64 p1.Height)), (14, ⟨g4116, 0, none⟩, (.int .i64 p1.Width)), (19, ((adr A_p1_Cells).add ((w64 ((w64 ((Int.tmod (w64 ((w64 (Int.tdiv x4287 p1.Width)) + 1)) p1.Height) * p1.Width)) + (Int.tmod x4287 p1.Width))).toNat * 1)), (.int .i64 (rdD p1.Cells (w64 ((w64 ((Int.tmod (w64 ((w64 (Int.tdiv x4287 p1.Width)) + 1)) p1.Height) * p1.Width)) + (Int.tmod x4287 p1.Width))) 0))), (22, (((adr A_p0).add (((rdD p1.Cells (w64 ((w64 ((Int.tmod (w64 ((w64 (Int.tdiv x4287 p1.Width)) + 1)) p1.Height) * p1.Width)) + (Int.tmod x4287 p1.Width))) 0)).toNat * 4)).add 2), (.int .i64 ((rdD p0 (rdD p1.Cells (w64 ((w64 ((Int.tmod (w64 ((w64 (Int.tdiv x4287 p1.Width)) + 1)) p1.Height) * p1.Width)) + (Int.tmod x4287 p1.Width))) 0) z_Tile).S)))] (fun fb => by kernel_rfl) rfl ⟨rowR.adr (hS4362.rd 0).1 h4367.1 h4367.2, h4368, rowR.adr (hS4362.rd 1).1 h4369.1 h4369.2, rowR.adr (hS4362.rd 0).1 h4370.1 h4370.2, trivial⟩ rfl ?_
            refine WL.done rfl ?_
            refine WX.next ?_
            rcases br_some hx4355 with ⟨h4371, hx4355⟩ | ⟨h4371, hx4355⟩
            · refine WC.condT2 (fun fb => by kernel_rfl) h4371 ?_
              refine WC.seq ?_
              refine WC.region ?_
              refine seg 1 [] [6] [(6, (.bool false))] [] (fun fb => by kernel_rfl) rfl trivial ?_
              refine WL.done rfl ?_
              refine WX.next ?_
              refine WC.ret ?_
              injection hx4355 with hx4355
              subst hx4355
              injection hl4293 with hl4293
              subst hl4293
              injection hf with hf
              subst hf
              exact WX.blockR (WX.thenR (WX.thenR (WX.blockR (WX.thenR (WX.ret_ [] (.bool false) [] (fun fb => by kernel_rfl) trivial ⟨_, rfl, rfl, hS4362.keep⟩)))))
            refine WC.condF2 (fun fb => by kernel_rfl) h4371 ?_
            refine WC.skip ?_
            injection hx4355 with hx4355
            exact WX.to Kx4354 () [0, 2, 4, 12, 13, 14] rfl ⟨(hS4362.subR [0, 1]).sub [0] (by decide), hx4355.symm⟩
          refine WC.condF2 (fun fb => by kernel_rfl) h4356 ?_
          refine WC.skip ?_
          injection hx4355 with hx4355
          exact WX.to Kx4354 () [0, 2, 4, 12, 13, 14] rfl ⟨(hS4332.subR [0, 1]).sub [0] (by decide), hx4355.symm⟩
        rintro y4375 w4372 ⟨hS4373, hq4374⟩
        subst hq4374
        have hl4293 := sum_inr hl4293
        refine WX.blockN (WX.next ?_)
        refine WC.region ?_
        refine seg 2 [] [0, 2, 4, 12, 13, 14] [(0, (.slice A_p0 p0.length c_p0)), (2, (.bool p2)), (4, (.pointer (some ⟨g4116, 0, none⟩))), (12, (.slice A_p1_Cells p1.Cells.length c_p1_Cells)), (13, (.int .i64 (p1.Cells.length : Int))), (14, (.int .i64 (w64 (x4287 + 1))))] [] (fun fb => by kernel_rfl) rfl trivial ?_
        refine WL.done rfl ?_
        exact WX.again k4290 (Nat.lt_succ_self _) (w64 (x4287 + 1)) [0, 2, 4, 12, 13, 14] rfl ⟨(hS4373.subR [0, 1]).sub [0] (by decide), hl4293⟩
      refine WC.condF2 (fun fb => by kernel_rfl) h4294 ?_
      refine WC.exit ?_
      injection hl4293 with hl4293
      exact WX.thenX (WX.thenX (WX.blockHere (WX.to Kx4288 () [] rfl ⟨(hS4292.subR [0, 1]).sub [] (by decide), hl4293.symm⟩)))
  rintro y4380 w4377 ⟨hS4378, hq4379⟩
  subst hq4379
  have hf := sum_inr hf
  refine WX.next ?_
  refine WC.seq ?_
  refine WC.region ?_
  refine seg 1 [] [6] [(6, (.bool true))] [] (fun fb => by kernel_rfl) rfl trivial ?_
  refine WL.done rfl ?_
  refine WX.next ?_
  refine WC.ret ?_
  injection hf with hf
  subst hf
  exact WX.ret_ [] (.bool true) [] (fun fb => by kernel_rfl) trivial ⟨_, rfl, rfl, hS4378.keep⟩
theorem tile_Repeats_calls (k : Nat) (p0 : List Tile) (p1 : Pattern) (A_p0 : Option Addr) (c_p0 : Nat) (A_p1_Cells : Option Addr) (c_p1_Cells : Nat) (r : Bool) (w : World) (hR0 : RO NoS w (rowR enc_Tile A_p0 c_p0 p0)) (hR1 : RO NoS w (rowR encInt A_p1_Cells c_p1_Cells p1.Cells)) (hf : tile_Repeats k p0 p1 = some r) :
    CallsR Tryd.prog 16 #[(.slice A_p0 p0.length c_p0), (.agg #[(.int .i64 p1.Width), (.int .i64 p1.Height), (.slice A_p1_Cells p1.Cells.length c_p1_Cells)])] w (fun v w' => v = (.bool r) ∧ Keeps NoS w w') := by
  have hS : St NoS w w [rowR enc_Tile A_p0 c_p0 p0, rowR encInt A_p1_Cells c_p1_Cells p1.Cells] [] := St.init (ro_cons hR0 (ro_cons hR1 (ro_nil _ _)))
  refine enter 13 Tryd.func16 rfl Tryd.ntmps16 rfl ?_
  unfold tile_Repeats at hf
  refine WC.seq ?_
  refine WC.region ?_
  refine WL.new hS 3 [] (fun g => (.pointer (some ⟨g, 0, none⟩))) (.cells #[(.int .i64 p1.Width), (.int .i64 p1.Height), (.slice A_p1_Cells p1.Cells.length c_p1_Cells)] 35 (0, 0)) [] (fun fb g => by kernel_rfl) trivial (fun g3998 w3999 hS4000 => ?_)
  refine ⟨trivial, ?_⟩
  refine seg 2 [] [0, 3] [(0, (.slice A_p0 p0.length c_p0)), (3, (.pointer (some ⟨g3998, 0, none⟩)))] [] (fun fb => by kernel_rfl) rfl trivial ?_
  refine WL.done rfl ?_
  refine WX.next ?_
  refine WC.seq ?_
  refine WC.region ?_
  refine seg 2 [.v (.int .i64 p1.Width), .v (.int .i64 p1.Height), .v (.slice A_p1_Cells p1.Cells.length c_p1_Cells)] [0, 3, 5, 6] [(0, (.slice A_p0 p0.length c_p0)), (3, (.pointer (some ⟨g3998, 0, none⟩))), (5, (.slice A_p0 p0.length c_p0)), (6, (.agg #[(.int .i64 p1.Width), (.int .i64 p1.Height), (.slice A_p1_Cells p1.Cells.length c_p1_Cells)]))] [.cell ⟨g3998, 0, none⟩ (.int .i64 p1.Width), .cell ⟨g3998, 1, none⟩ (.int .i64 p1.Height), .cell ⟨g3998, 2, none⟩ (.slice A_p1_Cells p1.Cells.length c_p1_Cells)] (fun fb => by kernel_rfl) rfl ⟨hS4000.cell 0 rfl 0 rfl, hS4000.cell 0 rfl 1 rfl, hS4000.cell 0 rfl 2 rfl, trivial⟩ ?_
  obtain ⟨t4111, ht4112, hf⟩ := bind_some hf
  refine WL.call (some 7) 44 #[(.slice A_p0 p0.length c_p0), (.agg #[(.int .i64 p1.Width), (.int .i64 p1.Height), (.slice A_p1_Cells p1.Cells.length c_p1_Cells)])] (fun fb => by kernel_rfl) (tile_of_calls _ p0 p1 A_p0 c_p0 A_p1_Cells c_p1_Cells t4111 _ (hS4000.rd 0) (hS4000.rd 1) ht4112) (fun v w4113 hR4114 => ?_)
  obtain ⟨rfl, hk_⟩ := hR4114
  have hS4115 := hS4000.keepN hk_
  refine ⟨trivial, ?_⟩
  refine seg 4 [] [0, 3, 8] [(0, (.slice A_p0 p0.length c_p0)), (3, (.pointer (some ⟨g3998, 0, none⟩))), (8, (.bool t4111))] [] (fun fb => by kernel_rfl) rfl trivial ?_
  obtain ⟨x4388, hx4389, hf⟩ := bind_some hf
  refine WL.cutW (T := Bool) 8 (fun t => [(12, (.bool t))]) (fun t w1 => (St NoS w w1 [rowR enc_Tile A_p0 c_p0 p0, rowR encInt A_p1_Cells c_p1_Cells p1.Cells] [] ∧ x4388 = t) ∧ CellsOK [] w1) (fun K => ?_) ?_
  ·
    rcases br_some hx4389 with ⟨h4390, hx4389⟩ | ⟨h4390, hx4389⟩
    ·
      refine WL.setB 8 h4390 rfl ?_
      refine seg 6 [.v (.int .i64 p1.Width), .v (.int .i64 p1.Height), .v (.slice A_p1_Cells p1.Cells.length c_p1_Cells)] [8, 9, 10] [(8, (.bool true)), (9, (.slice A_p0 p0.length c_p0)), (10, (.agg #[(.int .i64 p1.Width), (.int .i64 p1.Height), (.slice A_p1_Cells p1.Cells.length c_p1_Cells)]))] [.cell ⟨g3998, 0, none⟩ (.int .i64 p1.Width), .cell ⟨g3998, 1, none⟩ (.int .i64 p1.Height), .cell ⟨g3998, 2, none⟩ (.slice A_p1_Cells p1.Cells.length c_p1_Cells)] (fun fb => by kernel_rfl) rfl ⟨hS4115.cell 0 rfl 0 rfl, hS4115.cell 0 rfl 1 rfl, hS4115.cell 0 rfl 2 rfl, trivial⟩ ?_
      obtain ⟨t4391, ht4392, hx4389⟩ := bind_some hx4389
      refine WL.call (some 11) 45 #[(.slice A_p0 p0.length c_p0), (.agg #[(.int .i64 p1.Width), (.int .i64 p1.Height), (.slice A_p1_Cells p1.Cells.length c_p1_Cells)]), (.bool true)] (fun fb => by kernel_rfl) (tile_joins_calls _ p0 p1 true A_p0 c_p0 A_p1_Cells c_p1_Cells t4391 _ (hS4115.rd 0) (hS4115.rd 1) ht4392) (fun v w4393 hR4394 => ?_)
      obtain ⟨rfl, hk_⟩ := hR4394
      have hS4395 := hS4115.keepN hk_
      refine ⟨trivial, ?_⟩
      refine seg 8 [] [12] [(12, (.bool t4391))] [] (fun fb => by kernel_rfl) rfl trivial ?_
      injection hx4389 with hx4389
      exact WL.to K t4391 [12] rfl ⟨⟨(hS4395.subR [0, 1]).sub [] (by decide), hx4389.symm⟩, trivial⟩
    refine WL.setB 8 h4390 rfl ?_
    refine seg 8 [] [12] [(12, (.bool false))] [] (fun fb => by kernel_rfl) rfl trivial ?_
    injection hx4389 with hx4389
    exact WL.to K false [12] rfl ⟨⟨(hS4115.subR [0, 1]).sub [] (by decide), hx4389.symm⟩, trivial⟩
  rintro y4396 w4398 ⟨⟨hS4399, hq4397⟩, hF4400⟩
  subst hq4397
  refine seg 9 [] [4] [(4, (.bool x4388))] [] (fun fb => by kernel_rfl) rfl trivial ?_
  refine WL.done rfl ?_
  refine WX.next ?_
  refine WC.ret ?_
  injection hf with hf
  subst hf
  exact WX.ret_ [] (.bool x4388) [] (fun fb => by kernel_rfl) trivial ⟨_, rfl, rfl, hS4399.keep⟩
theorem tile_Fits_calls (k : Nat) (p0 : List Tile) (p1 : Pattern) (A_p0 : Option Addr) (c_p0 : Nat) (A_p1_Cells : Option Addr) (c_p1_Cells : Nat) (r : Bool) (w : World) (hR0 : RO NoS w (rowR enc_Tile A_p0 c_p0 p0)) (hR1 : RO NoS w (rowR encInt A_p1_Cells c_p1_Cells p1.Cells)) (hf : tile_Fits k p0 p1 = some r) :
    CallsR Tryd.prog 14 #[(.slice A_p0 p0.length c_p0), (.agg #[(.int .i64 p1.Width), (.int .i64 p1.Height), (.slice A_p1_Cells p1.Cells.length c_p1_Cells)])] w (fun v w' => v = (.bool r) ∧ Keeps NoS w w') := by
  have hS : St NoS w w [rowR enc_Tile A_p0 c_p0 p0, rowR encInt A_p1_Cells c_p1_Cells p1.Cells] [] := St.init (ro_cons hR0 (ro_cons hR1 (ro_nil _ _)))
  refine enter 13 Tryd.func14 rfl Tryd.ntmps14 rfl ?_
  unfold tile_Fits at hf
  refine WC.seq ?_
  refine WC.region ?_
  refine WL.new hS 3 [] (fun g => (.pointer (some ⟨g, 0, none⟩))) (.cells #[(.int .i64 p1.Width), (.int .i64 p1.Height), (.slice A_p1_Cells p1.Cells.length c_p1_Cells)] 35 (0, 0)) [] (fun fb g => by kernel_rfl) trivial (fun g4449 w4450 hS4451 => ?_)
  refine ⟨trivial, ?_⟩
  refine seg 2 [] [0, 3] [(0, (.slice A_p0 p0.length c_p0)), (3, (.pointer (some ⟨g4449, 0, none⟩)))] [] (fun fb => by kernel_rfl) rfl trivial ?_
  refine WL.done rfl ?_
  refine WX.next ?_
  refine WC.seq ?_
  refine WC.region ?_
  refine seg 2 [.v (.int .i64 p1.Width), .v (.int .i64 p1.Height), .v (.slice A_p1_Cells p1.Cells.length c_p1_Cells)] [0, 3, 5, 6] [(0, (.slice A_p0 p0.length c_p0)), (3, (.pointer (some ⟨g4449, 0, none⟩))), (5, (.slice A_p0 p0.length c_p0)), (6, (.agg #[(.int .i64 p1.Width), (.int .i64 p1.Height), (.slice A_p1_Cells p1.Cells.length c_p1_Cells)]))] [.cell ⟨g4449, 0, none⟩ (.int .i64 p1.Width), .cell ⟨g4449, 1, none⟩ (.int .i64 p1.Height), .cell ⟨g4449, 2, none⟩ (.slice A_p1_Cells p1.Cells.length c_p1_Cells)] (fun fb => by kernel_rfl) rfl ⟨hS4451.cell 0 rfl 0 rfl, hS4451.cell 0 rfl 1 rfl, hS4451.cell 0 rfl 2 rfl, trivial⟩ ?_
  obtain ⟨t4453, ht4454, hf⟩ := bind_some hf
  refine WL.call (some 7) 44 #[(.slice A_p0 p0.length c_p0), (.agg #[(.int .i64 p1.Width), (.int .i64 p1.Height), (.slice A_p1_Cells p1.Cells.length c_p1_Cells)])] (fun fb => by kernel_rfl) (tile_of_calls _ p0 p1 A_p0 c_p0 A_p1_Cells c_p1_Cells t4453 _ (hS4451.rd 0) (hS4451.rd 1) ht4454) (fun v w4455 hR4456 => ?_)
  obtain ⟨rfl, hk_⟩ := hR4456
  have hS4457 := hS4451.keepN hk_
  refine ⟨trivial, ?_⟩
  refine seg 4 [] [0, 3, 8] [(0, (.slice A_p0 p0.length c_p0)), (3, (.pointer (some ⟨g4449, 0, none⟩))), (8, (.bool t4453))] [] (fun fb => by kernel_rfl) rfl trivial ?_
  obtain ⟨x4464, hx4465, hf⟩ := bind_some hf
  refine WL.cutW (T := Bool) 8 (fun t => [(12, (.bool t))]) (fun t w1 => (St NoS w w1 [rowR enc_Tile A_p0 c_p0 p0, rowR encInt A_p1_Cells c_p1_Cells p1.Cells] [] ∧ x4464 = t) ∧ CellsOK [] w1) (fun K => ?_) ?_
  ·
    rcases br_some hx4465 with ⟨h4466, hx4465⟩ | ⟨h4466, hx4465⟩
    ·
      refine WL.setB 8 h4466 rfl ?_
      refine seg 6 [.v (.int .i64 p1.Width), .v (.int .i64 p1.Height), .v (.slice A_p1_Cells p1.Cells.length c_p1_Cells)] [8, 9, 10] [(8, (.bool true)), (9, (.slice A_p0 p0.length c_p0)), (10, (.agg #[(.int .i64 p1.Width), (.int .i64 p1.Height), (.slice A_p1_Cells p1.Cells.length c_p1_Cells)]))] [.cell ⟨g4449, 0, none⟩ (.int .i64 p1.Width), .cell ⟨g4449, 1, none⟩ (.int .i64 p1.Height), .cell ⟨g4449, 2, none⟩ (.slice A_p1_Cells p1.Cells.length c_p1_Cells)] (fun fb => by kernel_rfl) rfl ⟨hS4457.cell 0 rfl 0 rfl, hS4457.cell 0 rfl 1 rfl, hS4457.cell 0 rfl 2 rfl, trivial⟩ ?_
      obtain ⟨t4467, ht4468, hx4465⟩ := bind_some hx4465
      refine WL.call (some 11) 45 #[(.slice A_p0 p0.length c_p0), (.agg #[(.int .i64 p1.Width), (.int .i64 p1.Height), (.slice A_p1_Cells p1.Cells.length c_p1_Cells)]), (.bool false)] (fun fb => by kernel_rfl) (tile_joins_calls _ p0 p1 false A_p0 c_p0 A_p1_Cells c_p1_Cells t4467 _ (hS4457.rd 0) (hS4457.rd 1) ht4468) (fun v w4469 hR4470 => ?_)
      obtain ⟨rfl, hk_⟩ := hR4470
      have hS4471 := hS4457.keepN hk_
      refine ⟨trivial, ?_⟩
      refine seg 8 [] [12] [(12, (.bool t4467))] [] (fun fb => by kernel_rfl) rfl trivial ?_
      injection hx4465 with hx4465
      exact WL.to K t4467 [12] rfl ⟨⟨(hS4471.subR [0, 1]).sub [] (by decide), hx4465.symm⟩, trivial⟩
    refine WL.setB 8 h4466 rfl ?_
    refine seg 8 [] [12] [(12, (.bool false))] [] (fun fb => by kernel_rfl) rfl trivial ?_
    injection hx4465 with hx4465
    exact WL.to K false [12] rfl ⟨⟨(hS4457.subR [0, 1]).sub [] (by decide), hx4465.symm⟩, trivial⟩
  rintro y4472 w4474 ⟨⟨hS4475, hq4473⟩, hF4476⟩
  subst hq4473
  refine seg 9 [] [4] [(4, (.bool x4464))] [] (fun fb => by kernel_rfl) rfl trivial ?_
  refine WL.done rfl ?_
  refine WX.next ?_
  refine WC.ret ?_
  injection hf with hf
  subst hf
  exact WX.ret_ [] (.bool x4464) [] (fun fb => by kernel_rfl) trivial ⟨_, rfl, rfl, hS4475.keep⟩
theorem law01_awake_calls (k : Nat)  (mG : Int) (r : Bool) (w : World) (hR0 : RO NoS w (cel ⟨2, 0, none⟩ (.int .i64 mG))) (hf : law01_awake k = some r) :
    CallsR Tryd.prog 8 #[] w (fun v w' => v = (.bool r) ∧ Keeps NoS w w') := by
  have hS : St NoS w w [cel ⟨2, 0, none⟩ (.int .i64 mG)] [] := St.init (ro_cons hR0 (ro_nil _ _))
  refine enter 55 Tryd.func8 rfl Tryd.ntmps8 rfl ?_
  unfold law01_awake at hf
  refine WC.seq ?_
  refine WC.region ?_
  refine seg 1 [] [] [] [] (fun fb => by kernel_rfl) rfl trivial ?_
  refine WL.done rfl ?_
  refine WX.next ?_
  refine WC.seq ?_
  refine WC.region ?_
  obtain ⟨t3946, ht3947, hf⟩ := bind_some hf
  refine WL.call (some 9) 9 #[(.string (⟨#[48, 46, 49, 46, 48, 46, 49]⟩ : ByteArray))] (fun fb => by kernel_rfl) (tile_Parse_calls _ (⟨#[48, 46, 49, 46, 48, 46, 49]⟩ : ByteArray) mG t3946 _ (hS.rd 0) ht3947) (fun v w3948 hR3949 => ?_)
  obtain ⟨A3951, c3952, rfl, hk_⟩ := hR3949
  have hS3950 : St NoS w w3948 [cel ⟨2, 0, none⟩ (.int .i64 mG)] [rowO 62 enc_Tile A3951 c3952 t3946.1] := hS.call hk_ [] [] (fun g hg => hg.elim) (by simp) (by decide)
  refine ⟨trivial, ?_⟩
  refine seg 6 [] [1, 2] [(1, (.slice A3951 t3946.1.length c3952)), (2, (.int .i64 t3946.2))] [] (fun fb => by kernel_rfl) rfl trivial ?_
  refine WL.done rfl ?_
  refine WX.next ?_
  refine WC.seq ?_
  refine WC.region ?_
  obtain ⟨t3953, ht3954, hf⟩ := bind_some hf
  refine WL.call (some 13) 9 #[(.string (⟨#[48, 46, 49, 46, 49, 46, 48, 32, 49, 46, 48, 46, 48, 46, 49]⟩ : ByteArray))] (fun fb => by kernel_rfl) (tile_Parse_calls _ (⟨#[48, 46, 49, 46, 49, 46, 48, 32, 49, 46, 48, 46, 48, 46, 49]⟩ : ByteArray) mG t3953 _ (hS3950.rd 0) ht3954) (fun v w3955 hR3956 => ?_)
  obtain ⟨A3958, c3959, rfl, hk_⟩ := hR3956
  have hS3957 : St NoS w w3955 [cel ⟨2, 0, none⟩ (.int .i64 mG)] [rowO 62 enc_Tile A3958 c3959 t3953.1, rowO 62 enc_Tile A3951 c3952 t3946.1] := hS3950.call hk_ [] [0] (fun g hg => hg.elim) (by simp) (by decide)
  refine ⟨trivial, ?_⟩
  refine seg 6 [] [1, 2, 3, 4] [(1, (.slice A3951 t3946.1.length c3952)), (2, (.int .i64 t3946.2)), (3, (.slice A3958 t3953.1.length c3959)), (4, (.int .i64 t3953.2))] [] (fun fb => by kernel_rfl) rfl trivial ?_
  refine WL.done rfl ?_
  refine WX.next ?_
  refine WC.seq ?_
  refine WC.region ?_
  refine WL.new hS3957 16 [] (fun g => (.slice (some ⟨g, 0, none⟩) 4 4)) (.cells #[(.int .i64 0), (.int .i64 1), (.int .i64 1), (.int .i64 0)] 3 (0, 0)) [] (fun fb g => by kernel_rfl) trivial (fun g3960 w3961 hS3962 => ?_)
  refine ⟨trivial, ?_⟩
  have hS3964 : St NoS w w3961 [cel ⟨2, 0, none⟩ (.int .i64 mG)] [rowO 3 encInt (some ⟨g3960, 0, none⟩) 4 [0, 1, 1, 0], rowO 62 enc_Tile A3958 c3959 t3953.1, rowO 62 enc_Tile A3951 c3952 t3946.1] := hS3962.map1 0 _ (fun h => rowO.ofBlk h rfl (Nat.le_of_ble_eq_true (by kernel_rfl))) (fun _ h => by obtain ⟨_, h1, h2⟩ := h; injection h1 with h1; subst h1; exact h2) [1, 2] (by decide) (by decide)
  refine seg 2 [] [1, 2, 3, 4, 17] [(1, (.slice A3951 t3946.1.length c3952)), (2, (.int .i64 t3946.2)), (3, (.slice A3958 t3953.1.length c3959)), (4, (.int .i64 t3953.2)), (17, (.agg #[(.int .i64 2), (.int .i64 2), (.slice (some ⟨g3960, 0, none⟩) [0, 1, 1, 0].length 4)]))] [] (fun fb => by kernel_rfl) rfl trivial ?_
  refine WL.new hS3964 5 [] (fun g => (.pointer (some ⟨g, 0, none⟩))) (.cells #[(.int .i64 0), (.int .i64 0), (.slice none 0 0)] 35 (0, 0)) [] (fun fb g => by kernel_rfl) trivial (fun g3965 w3966 hS3967 => ?_)
  refine ⟨trivial, ?_⟩
  refine WL.store hS3967 0 rfl [(0, (.int .i64 2)), (1, (.int .i64 2)), (2, (.slice (some ⟨g3960, 0, none⟩) [0, 1, 1, 0].length 4))] #[(.int .i64 2), (.int .i64 2), (.slice (some ⟨g3960, 0, none⟩) [0, 1, 1, 0].length 4)] (fun fb => by kernel_rfl) (by kernel_rfl) rfl [1, 2, 3] (by decide) (by decide) (fun w3969 hS3970 => ?_)
  refine ⟨trivial, ?_⟩
  refine WL.done rfl ?_
  refine WX.next ?_
  refine WC.seq ?_
  refine WC.region ?_
  refine seg 1 [] [1, 2, 3, 4, 5, 19] [(1, (.slice A3951 t3946.1.length c3952)), (2, (.int .i64 t3946.2)), (3, (.slice A3958 t3953.1.length c3959)), (4, (.int .i64 t3953.2)), (5, (.pointer (some ⟨g3965, 0, none⟩))), (19, (.slice A3958 t3953.1.length c3959))] [] (fun fb => by kernel_rfl) rfl trivial ?_
  obtain ⟨t3982, ht3983, hf⟩ := bind_some hf
  refine WL.call (some 20) 11 #[(.slice A3958 t3953.1.length c3959)] (fun fb => by kernel_rfl) (tile_Text_calls _ t3953.1 A3958 c3959 t3982 _ (hS3970.ow 2).ofO ht3983) (fun v w3984 hR3985 => ?_)
  obtain ⟨rfl, hk_⟩ := hR3985
  have hS3986 := hS3970.keepN hk_
  refine ⟨trivial, ?_⟩
  refine seg 7 [] [1, 2, 3, 4, 5, 6, 7] [(1, (.slice A3951 t3946.1.length c3952)), (2, (.int .i64 t3946.2)), (3, (.slice A3958 t3953.1.length c3959)), (4, (.int .i64 t3953.2)), (5, (.pointer (some ⟨g3965, 0, none⟩))), (6, (.string t3982.1)), (7, (.int .i64 t3982.2))] [] (fun fb => by kernel_rfl) rfl trivial ?_
  refine WL.done rfl ?_
  refine WX.next ?_
  refine WC.seq ?_
  refine WC.region ?_
  refine seg 3 [] [1, 3, 4, 5, 6, 7, 25] [(1, (.slice A3951 t3946.1.length c3952)), (3, (.slice A3958 t3953.1.length c3959)), (4, (.int .i64 t3953.2)), (5, (.pointer (some ⟨g3965, 0, none⟩))), (6, (.string t3982.1)), (7, (.int .i64 t3982.2)), (25, (.bool (t3946.2 == 0)))] [] (fun fb => by kernel_rfl) rfl trivial ?_
  refine WL.cutV (T := Bool) 6 (fun t => [(28, (.bool t)), (1, (.slice A3951 t3946.1.length c3952)), (3, (.slice A3958 t3953.1.length c3959)), (5, (.pointer (some ⟨g3965, 0, none⟩))), (6, (.string t3982.1)), (7, (.int .i64 t3982.2))]) (fun t => t = ((t3946.2 == 0) && (t3953.2 == 0))) (fun K => ?_) ?_
  ·
    rcases Bool.eq_false_or_eq_true (t3946.2 == 0) with h3987 | h3987
    ·
      refine WL.setB 25 h3987 rfl ?_
      refine seg 6 [] [1, 3, 5, 6, 7, 28] [(1, (.slice A3951 t3946.1.length c3952)), (3, (.slice A3958 t3953.1.length c3959)), (5, (.pointer (some ⟨g3965, 0, none⟩))), (6, (.string t3982.1)), (7, (.int .i64 t3982.2)), (28, (.bool (t3953.2 == 0)))] [] (fun fb => by kernel_rfl) rfl trivial ?_
      exact WL.toV K (t3953.2 == 0) [28, 1, 3, 5, 6, 7] rfl (by first | (rw [h3987]; done) | (rw [h3987]; rfl))
    refine WL.setB 25 h3987 rfl ?_
    refine seg 6 [] [1, 3, 5, 6, 7, 28] [(1, (.slice A3951 t3946.1.length c3952)), (3, (.slice A3958 t3953.1.length c3959)), (5, (.pointer (some ⟨g3965, 0, none⟩))), (6, (.string t3982.1)), (7, (.int .i64 t3982.2)), (28, (.bool false))] [] (fun fb => by kernel_rfl) rfl trivial ?_
    exact WL.toV K false [28, 1, 3, 5, 6, 7] rfl (by first | (rw [h3987]; done) | (rw [h3987]; rfl))
  rintro b3988 rfl
  refine seg 7 [] [1, 3, 5, 6, 7, 29] [(1, (.slice A3951 t3946.1.length c3952)), (3, (.slice A3958 t3953.1.length c3959)), (5, (.pointer (some ⟨g3965, 0, none⟩))), (6, (.string t3982.1)), (7, (.int .i64 t3982.2)), (29, (.bool ((t3946.2 == 0) && (t3953.2 == 0))))] [] (fun fb => by kernel_rfl) rfl trivial ?_
  refine WL.cutV (T := Bool) 10 (fun t => [(32, (.bool t)), (1, (.slice A3951 t3946.1.length c3952)), (3, (.slice A3958 t3953.1.length c3959)), (5, (.pointer (some ⟨g3965, 0, none⟩))), (6, (.string t3982.1))]) (fun t => t = (((t3946.2 == 0) && (t3953.2 == 0)) && (t3982.2 == 0))) (fun K => ?_) ?_
  ·
    rcases Bool.eq_false_or_eq_true ((t3946.2 == 0) && (t3953.2 == 0)) with h3989 | h3989
    ·
      refine WL.setB 29 h3989 rfl ?_
      refine seg 10 [] [1, 3, 5, 6, 32] [(1, (.slice A3951 t3946.1.length c3952)), (3, (.slice A3958 t3953.1.length c3959)), (5, (.pointer (some ⟨g3965, 0, none⟩))), (6, (.string t3982.1)), (32, (.bool (t3982.2 == 0)))] [] (fun fb => by kernel_rfl) rfl trivial ?_
      exact WL.toV K (t3982.2 == 0) [32, 1, 3, 5, 6] rfl (by first | (rw [h3989]; done) | (rw [h3989]; rfl))
    refine WL.setB 29 h3989 rfl ?_
    refine seg 10 [] [1, 3, 5, 6, 32] [(1, (.slice A3951 t3946.1.length c3952)), (3, (.slice A3958 t3953.1.length c3959)), (5, (.pointer (some ⟨g3965, 0, none⟩))), (6, (.string t3982.1)), (32, (.bool false))] [] (fun fb => by kernel_rfl) rfl trivial ?_
    exact WL.toV K false [32, 1, 3, 5, 6] rfl (by first | (rw [h3989]; done) | (rw [h3989]; rfl))
  rintro b3990 rfl
  refine seg 11 [] [1, 3, 5, 6, 33] [(1, (.slice A3951 t3946.1.length c3952)), (3, (.slice A3958 t3953.1.length c3959)), (5, (.pointer (some ⟨g3965, 0, none⟩))), (6, (.string t3982.1)), (33, (.bool (((t3946.2 == 0) && (t3953.2 == 0)) && (t3982.2 == 0))))] [] (fun fb => by kernel_rfl) rfl trivial ?_
  refine WL.cutV (T := Bool) 14 (fun t => [(36, (.bool t)), (1, (.slice A3951 t3946.1.length c3952)), (3, (.slice A3958 t3953.1.length c3959)), (5, (.pointer (some ⟨g3965, 0, none⟩)))]) (fun t => t = ((((t3946.2 == 0) && (t3953.2 == 0)) && (t3982.2 == 0)) && (strEq t3982.1 (⟨#[48, 46, 49, 46, 49, 46, 48, 32, 49, 46, 48, 46, 48, 46, 49]⟩ : ByteArray)))) (fun K => ?_) ?_
  ·
    rcases Bool.eq_false_or_eq_true (((t3946.2 == 0) && (t3953.2 == 0)) && (t3982.2 == 0)) with h3991 | h3991
    ·
      refine WL.setB 33 h3991 rfl ?_
      refine seg 12 [] [1, 3, 5, 33, 34] [(1, (.slice A3951 t3946.1.length c3952)), (3, (.slice A3958 t3953.1.length c3959)), (5, (.pointer (some ⟨g3965, 0, none⟩))), (33, (.bool true)), (34, (.string t3982.1))] [] (fun fb => by kernel_rfl) rfl trivial ?_
      refine seg 13 [] [1, 3, 5, 33, 35] [(1, (.slice A3951 t3946.1.length c3952)), (3, (.slice A3958 t3953.1.length c3959)), (5, (.pointer (some ⟨g3965, 0, none⟩))), (33, (.bool true)), (35, (.bool (t3982.1.toList == (⟨#[48, 46, 49, 46, 49, 46, 48, 32, 49, 46, 48, 46, 48, 46, 49]⟩ : ByteArray).toList)))] [] (fun fb => by kernel_rfl) rfl trivial ?_
      refine WL.setB 35 (strEq_raw t3982.1 (⟨#[48, 46, 49, 46, 49, 46, 48, 32, 49, 46, 48, 46, 48, 46, 49]⟩ : ByteArray)) rfl ?_
      refine seg 14 [] [1, 3, 5, 36] [(1, (.slice A3951 t3946.1.length c3952)), (3, (.slice A3958 t3953.1.length c3959)), (5, (.pointer (some ⟨g3965, 0, none⟩))), (36, (.bool (strEq t3982.1 (⟨#[48, 46, 49, 46, 49, 46, 48, 32, 49, 46, 48, 46, 48, 46, 49]⟩ : ByteArray))))] [] (fun fb => by kernel_rfl) rfl trivial ?_
      exact WL.toV K (strEq t3982.1 (⟨#[48, 46, 49, 46, 49, 46, 48, 32, 49, 46, 48, 46, 48, 46, 49]⟩ : ByteArray)) [36, 1, 3, 5] rfl (by first | (rw [h3991]; done) | (rw [h3991]; rfl))
    refine WL.setB 33 h3991 rfl ?_
    refine seg 14 [] [1, 3, 5, 36] [(1, (.slice A3951 t3946.1.length c3952)), (3, (.slice A3958 t3953.1.length c3959)), (5, (.pointer (some ⟨g3965, 0, none⟩))), (36, (.bool false))] [] (fun fb => by kernel_rfl) rfl trivial ?_
    exact WL.toV K false [36, 1, 3, 5] rfl (by first | (rw [h3991]; done) | (rw [h3991]; rfl))
  rintro b3992 rfl
  refine seg 15 [] [1, 3, 5, 37] [(1, (.slice A3951 t3946.1.length c3952)), (3, (.slice A3958 t3953.1.length c3959)), (5, (.pointer (some ⟨g3965, 0, none⟩))), (37, (.bool ((((t3946.2 == 0) && (t3953.2 == 0)) && (t3982.2 == 0)) && (strEq t3982.1 (⟨#[48, 46, 49, 46, 49, 46, 48, 32, 49, 46, 48, 46, 48, 46, 49]⟩ : ByteArray)))))] [] (fun fb => by kernel_rfl) rfl trivial ?_
  obtain ⟨x4407, hx4408, hf⟩ := bind_some hf
  refine WL.cutW (T := Bool) 20 (fun t => [(3, (.slice A3958 t3953.1.length c3959)), (5, (.pointer (some ⟨g3965, 0, none⟩))), (42, (.bool t))]) (fun t w1 => (St NoS w w1 [cel ⟨2, 0, none⟩ (.int .i64 mG)] [rowO 62 enc_Tile A3958 c3959 t3953.1, blk g3965 (.cells #[(.int .i64 2), (.int .i64 2), (.slice (some ⟨g3960, 0, none⟩) [0, 1, 1, 0].length 4)] 35 (0, 0)), rowO 3 encInt (some ⟨g3960, 0, none⟩) 4 [0, 1, 1, 0]] ∧ x4407 = t) ∧ CellsOK [] w1) (fun K => ?_) ?_
  ·
    rcases br_some hx4408 with ⟨h4409, hx4408⟩ | ⟨h4409, hx4408⟩
    ·
      refine WL.setB 37 h4409 rfl ?_
      refine seg 16 [] [3, 5, 37, 38] [(3, (.slice A3958 t3953.1.length c3959)), (5, (.pointer (some ⟨g3965, 0, none⟩))), (37, (.bool true)), (38, (.slice A3951 t3946.1.length c3952))] [] (fun fb => by kernel_rfl) rfl trivial ?_
      refine WL.new hS3986 39 [] (fun g => (.slice (some ⟨g, 0, none⟩) 1 1)) (.cells #[(.int .i64 0)] 3 (0, 0)) [] (fun fb g => by kernel_rfl) trivial (fun g4410 w4411 hS4412 => ?_)
      refine ⟨trivial, ?_⟩
      have hS4414 : St NoS w w4411 [cel ⟨2, 0, none⟩ (.int .i64 mG)] [rowO 3 encInt (some ⟨g4410, 0, none⟩) 1 [0], blk g3965 (.cells #[(.int .i64 2), (.int .i64 2), (.slice (some ⟨g3960, 0, none⟩) [0, 1, 1, 0].length 4)] 35 (0, 0)), rowO 3 encInt (some ⟨g3960, 0, none⟩) 4 [0, 1, 1, 0], rowO 62 enc_Tile A3958 c3959 t3953.1, rowO 62 enc_Tile A3951 c3952 t3946.1] := hS4412.map1 0 _ (fun h => rowO.ofBlk h rfl (Nat.le_of_ble_eq_true (by kernel_rfl))) (fun _ h => by obtain ⟨_, h1, h2⟩ := h; injection h1 with h1; subst h1; exact h2) [1, 2, 3, 4] (by decide) (by decide)
      refine seg 18 [] [3, 5, 37, 38, 40] [(3, (.slice A3958 t3953.1.length c3959)), (5, (.pointer (some ⟨g3965, 0, none⟩))), (37, (.bool true)), (38, (.slice A3951 t3946.1.length c3952)), (40, (.agg #[(.int .i64 1), (.int .i64 1), (.slice (some ⟨g4410, 0, none⟩) [0].length 1)]))] [] (fun fb => by kernel_rfl) rfl trivial ?_
      obtain ⟨t4415, ht4416, hx4408⟩ := bind_some hx4408
      refine WL.call (some 41) 16 #[(.slice A3951 t3946.1.length c3952), (.agg #[(.int .i64 1), (.int .i64 1), (.slice (some ⟨g4410, 0, none⟩) [0].length 1)])] (fun fb => by kernel_rfl) (tile_Repeats_calls _ t3946.1 (Pattern.mk 1 1 [0]) A3951 c3952 (some ⟨g4410, 0, none⟩) 1 t4415 _ (hS4414.ow 4).ofO (hS4414.ow 0).ofO ht4416) (fun v w4417 hR4418 => ?_)
      obtain ⟨rfl, hk_⟩ := hR4418
      have hS4419 := hS4414.keepN hk_
      refine ⟨trivial, ?_⟩
      refine seg 20 [] [3, 5, 42] [(3, (.slice A3958 t3953.1.length c3959)), (5, (.pointer (some ⟨g3965, 0, none⟩))), (42, (.bool t4415))] [] (fun fb => by kernel_rfl) rfl trivial ?_
      injection hx4408 with hx4408
      exact WL.to K t4415 [3, 5, 42] rfl ⟨⟨(hS4419.subR [0]).sub [3, 1, 2] (by decide), hx4408.symm⟩, trivial⟩
    refine WL.setB 37 h4409 rfl ?_
    refine seg 20 [] [3, 5, 42] [(3, (.slice A3958 t3953.1.length c3959)), (5, (.pointer (some ⟨g3965, 0, none⟩))), (42, (.bool false))] [] (fun fb => by kernel_rfl) rfl trivial ?_
    injection hx4408 with hx4408
    exact WL.to K false [3, 5, 42] rfl ⟨⟨(hS3986.subR [0]).sub [2, 0, 1] (by decide), hx4408.symm⟩, trivial⟩
  rintro y4420 w4422 ⟨⟨hS4423, hq4421⟩, hF4424⟩
  subst hq4421
  refine seg 21 [] [3, 5, 43] [(3, (.slice A3958 t3953.1.length c3959)), (5, (.pointer (some ⟨g3965, 0, none⟩))), (43, (.bool x4407))] [] (fun fb => by kernel_rfl) rfl trivial ?_
  obtain ⟨x4431, hx4432, hf⟩ := bind_some hf
  refine WL.cutW (T := Bool) 25 (fun t => [(3, (.slice A3958 t3953.1.length c3959)), (47, (.bool t))]) (fun t w1 => (St NoS w w1 [cel ⟨2, 0, none⟩ (.int .i64 mG)] [rowO 62 enc_Tile A3958 c3959 t3953.1] ∧ x4431 = t) ∧ CellsOK [] w1) (fun K => ?_) ?_
  ·
    rcases br_some hx4432 with ⟨h4433, hx4432⟩ | ⟨h4433, hx4432⟩
    ·
      refine WL.setB 43 h4433 rfl ?_
      refine seg 23 [.v (.int .i64 2), .v (.int .i64 2), .v (.slice (some ⟨g3960, 0, none⟩) [0, 1, 1, 0].length 4)] [3, 43, 44, 45] [(3, (.slice A3958 t3953.1.length c3959)), (43, (.bool true)), (44, (.slice A3958 t3953.1.length c3959)), (45, (.agg #[(.int .i64 2), (.int .i64 2), (.slice (some ⟨g3960, 0, none⟩) [0, 1, 1, 0].length 4)]))] [.cell ⟨g3965, 0, none⟩ (.int .i64 2), .cell ⟨g3965, 1, none⟩ (.int .i64 2), .cell ⟨g3965, 2, none⟩ (.slice (some ⟨g3960, 0, none⟩) [0, 1, 1, 0].length 4)] (fun fb => by kernel_rfl) rfl ⟨hS4423.cell 1 rfl 0 rfl, hS4423.cell 1 rfl 1 rfl, hS4423.cell 1 rfl 2 rfl, trivial⟩ ?_
      obtain ⟨t4434, ht4435, hx4432⟩ := bind_some hx4432
      refine WL.call (some 46) 16 #[(.slice A3958 t3953.1.length c3959), (.agg #[(.int .i64 2), (.int .i64 2), (.slice (some ⟨g3960, 0, none⟩) [0, 1, 1, 0].length 4)])] (fun fb => by kernel_rfl) (tile_Repeats_calls _ t3953.1 (Pattern.mk 2 2 [0, 1, 1, 0]) A3958 c3959 (some ⟨g3960, 0, none⟩) 4 t4434 _ (hS4423.ow 0).ofO (hS4423.ow 2).ofO ht4435) (fun v w4436 hR4437 => ?_)
      obtain ⟨rfl, hk_⟩ := hR4437
      have hS4438 := hS4423.keepN hk_
      refine ⟨trivial, ?_⟩
      refine seg 25 [] [3, 47] [(3, (.slice A3958 t3953.1.length c3959)), (47, (.bool t4434))] [] (fun fb => by kernel_rfl) rfl trivial ?_
      injection hx4432 with hx4432
      exact WL.to K t4434 [3, 47] rfl ⟨⟨(hS4438.subR [0]).sub [0] (by decide), hx4432.symm⟩, trivial⟩
    refine WL.setB 43 h4433 rfl ?_
    refine seg 25 [] [3, 47] [(3, (.slice A3958 t3953.1.length c3959)), (47, (.bool false))] [] (fun fb => by kernel_rfl) rfl trivial ?_
    injection hx4432 with hx4432
    exact WL.to K false [3, 47] rfl ⟨⟨(hS4423.subR [0]).sub [0] (by decide), hx4432.symm⟩, trivial⟩
  rintro y4439 w4441 ⟨⟨hS4442, hq4440⟩, hF4443⟩
  subst hq4440
  refine seg 26 [] [3, 48] [(3, (.slice A3958 t3953.1.length c3959)), (48, (.bool x4431))] [] (fun fb => by kernel_rfl) rfl trivial ?_
  obtain ⟨x4483, hx4484, hf⟩ := bind_some hf
  refine WL.cutW (T := Bool) 32 (fun t => [(54, (.bool t))]) (fun t w1 => (St NoS w w1 [cel ⟨2, 0, none⟩ (.int .i64 mG)] [] ∧ x4483 = t) ∧ CellsOK [] w1) (fun K => ?_) ?_
  ·
    rcases br_some hx4484 with ⟨h4485, hx4484⟩ | ⟨h4485, hx4484⟩
    ·
      refine WL.setB 48 h4485 rfl ?_
      refine seg 27 [] [48, 49] [(48, (.bool true)), (49, (.slice A3958 t3953.1.length c3959))] [] (fun fb => by kernel_rfl) rfl trivial ?_
      refine WL.new hS4442 50 [] (fun g => (.slice (some ⟨g, 0, none⟩) 2 2)) (.cells #[(.int .i64 0), (.int .i64 0)] 3 (0, 0)) [] (fun fb g => by kernel_rfl) trivial (fun g4486 w4487 hS4488 => ?_)
      refine ⟨trivial, ?_⟩
      have hS4490 : St NoS w w4487 [cel ⟨2, 0, none⟩ (.int .i64 mG)] [rowO 3 encInt (some ⟨g4486, 0, none⟩) 2 [0, 0], rowO 62 enc_Tile A3958 c3959 t3953.1] := hS4488.map1 0 _ (fun h => rowO.ofBlk h rfl (Nat.le_of_ble_eq_true (by kernel_rfl))) (fun _ h => by obtain ⟨_, h1, h2⟩ := h; injection h1 with h1; subst h1; exact h2) [1] (by decide) (by decide)
      refine seg 29 [] [48, 49, 51] [(48, (.bool true)), (49, (.slice A3958 t3953.1.length c3959)), (51, (.agg #[(.int .i64 2), (.int .i64 1), (.slice (some ⟨g4486, 0, none⟩) [0, 0].length 2)]))] [] (fun fb => by kernel_rfl) rfl trivial ?_
      obtain ⟨t4491, ht4492, hx4484⟩ := bind_some hx4484
      refine WL.call (some 52) 14 #[(.slice A3958 t3953.1.length c3959), (.agg #[(.int .i64 2), (.int .i64 1), (.slice (some ⟨g4486, 0, none⟩) [0, 0].length 2)])] (fun fb => by kernel_rfl) (tile_Fits_calls _ t3953.1 (Pattern.mk 2 1 [0, 0]) A3958 c3959 (some ⟨g4486, 0, none⟩) 2 t4491 _ (hS4490.ow 1).ofO (hS4490.ow 0).ofO ht4492) (fun v w4493 hR4494 => ?_)
      obtain ⟨rfl, hk_⟩ := hR4494
      have hS4495 := hS4490.keepN hk_
      refine ⟨trivial, ?_⟩
      refine seg 32 [] [54] [(54, (.bool (!t4491)))] [] (fun fb => by kernel_rfl) rfl trivial ?_
      injection hx4484 with hx4484
      exact WL.to K (!t4491) [54] rfl ⟨⟨(hS4495.subR [0]).sub [] (by decide), hx4484.symm⟩, trivial⟩
    refine WL.setB 48 h4485 rfl ?_
    refine seg 32 [] [54] [(54, (.bool false))] [] (fun fb => by kernel_rfl) rfl trivial ?_
    injection hx4484 with hx4484
    exact WL.to K false [54] rfl ⟨⟨(hS4442.subR [0]).sub [] (by decide), hx4484.symm⟩, trivial⟩
  rintro y4496 w4498 ⟨⟨hS4499, hq4497⟩, hF4500⟩
  subst hq4497
  refine seg 33 [] [0] [(0, (.bool x4483))] [] (fun fb => by kernel_rfl) rfl trivial ?_
  refine WL.done rfl ?_
  refine WX.next ?_
  refine WC.ret ?_
  injection hf with hf
  subst hf
  exact WX.ret_ [] (.bool x4483) [] (fun fb => by kernel_rfl) trivial ⟨_, rfl, rfl, hS4499.keep⟩
theorem tile_changes_calls   (r : A3_Change) (w : World)  (hf : tile_changes = some r) :
    CallsR Tryd.prog 64 #[] w (fun v w' => v = (.agg #[(.func (.func 79) #[] #[]), (.func (.func 80) #[] #[]), (.func (.func 81) #[] #[]), (.func (.func 82) #[] #[]), (.func (.func 80) #[] #[]), (.func (.func 83) #[] #[]), (.func (.func 84) #[] #[]), (.func (.func 85) #[] #[]), (.func (.func 86) #[] #[])]) ∧ Keeps NoS w w') := by
  have hS : St NoS w w [] [] := St.init (ro_nil _ _)
  refine enter 5 Tryd.func64 rfl Tryd.ntmps64 rfl ?_
  unfold tile_changes at hf
  refine WC.seq ?_
  refine WC.region ?_
  refine WL.new hS 0 [] (fun g => (.pointer (some ⟨g, 0, none⟩))) (.cells #[.nilFunc, .nilFunc, .nilFunc, .nilFunc, .nilFunc, .nilFunc, .nilFunc, .nilFunc, .nilFunc] 84 (0, 0)) [] (fun fb g => by kernel_rfl) trivial (fun g4541 w4542 hS4543 => ?_)
  refine ⟨trivial, ?_⟩
  refine WL.done rfl ?_
  refine WX.next ?_
  refine WC.seq ?_
  refine WC.region ?_
  refine seg 4 [] [0, 4] [(0, (.pointer (some ⟨g4541, 0, none⟩))), (4, (.agg #[(.func (.func 79) #[] #[]), (.func (.func 80) #[] #[]), (.func (.func 81) #[] #[]), (.func (.func 82) #[] #[]), (.func (.func 80) #[] #[]), (.func (.func 83) #[] #[]), (.func (.func 84) #[] #[]), (.func (.func 85) #[] #[]), (.func (.func 86) #[] #[])]))] [] (fun fb => by kernel_rfl) rfl trivial ?_
  refine WL.store hS4543 0 rfl [(0, (.func (.func 79) #[] #[])), (1, (.func (.func 80) #[] #[])), (2, (.func (.func 81) #[] #[])), (3, (.func (.func 82) #[] #[])), (4, (.func (.func 80) #[] #[])), (5, (.func (.func 83) #[] #[])), (6, (.func (.func 84) #[] #[])), (7, (.func (.func 85) #[] #[])), (8, (.func (.func 86) #[] #[]))] #[(.func (.func 79) #[] #[]), (.func (.func 80) #[] #[]), (.func (.func 81) #[] #[]), (.func (.func 82) #[] #[]), (.func (.func 80) #[] #[]), (.func (.func 83) #[] #[]), (.func (.func 84) #[] #[]), (.func (.func 85) #[] #[]), (.func (.func 86) #[] #[])] (fun fb => by kernel_rfl) (by kernel_rfl) rfl [] (by decide) (by decide) (fun w4545 hS4546 => ?_)
  refine ⟨trivial, ?_⟩
  refine WL.done rfl ?_
  refine WX.next ?_
  refine WC.ret ?_
  injection hf with hf
  subst hf
  exact WX.ret_ [.v (.func (.func 79) #[] #[]), .v (.func (.func 80) #[] #[]), .v (.func (.func 81) #[] #[]), .v (.func (.func 82) #[] #[]), .v (.func (.func 80) #[] #[]), .v (.func (.func 83) #[] #[]), .v (.func (.func 84) #[] #[]), .v (.func (.func 85) #[] #[]), .v (.func (.func 86) #[] #[])] (.agg #[(.func (.func 79) #[] #[]), (.func (.func 80) #[] #[]), (.func (.func 81) #[] #[]), (.func (.func 82) #[] #[]), (.func (.func 80) #[] #[]), (.func (.func 83) #[] #[]), (.func (.func 84) #[] #[]), (.func (.func 85) #[] #[]), (.func (.func 86) #[] #[])]) [.cell ⟨g4541, 0, none⟩ (.func (.func 79) #[] #[]), .cell ⟨g4541, 1, none⟩ (.func (.func 80) #[] #[]), .cell ⟨g4541, 2, none⟩ (.func (.func 81) #[] #[]), .cell ⟨g4541, 3, none⟩ (.func (.func 82) #[] #[]), .cell ⟨g4541, 4, none⟩ (.func (.func 80) #[] #[]), .cell ⟨g4541, 5, none⟩ (.func (.func 83) #[] #[]), .cell ⟨g4541, 6, none⟩ (.func (.func 84) #[] #[]), .cell ⟨g4541, 7, none⟩ (.func (.func 85) #[] #[]), .cell ⟨g4541, 8, none⟩ (.func (.func 86) #[] #[])] (fun fb => by kernel_rfl) ⟨hS4546.cell 0 rfl 0 rfl, hS4546.cell 0 rfl 1 rfl, hS4546.cell 0 rfl 2 rfl, hS4546.cell 0 rfl 3 rfl, hS4546.cell 0 rfl 4 rfl, hS4546.cell 0 rfl 5 rfl, hS4546.cell 0 rfl 6 rfl, hS4546.cell 0 rfl 7 rfl, hS4546.cell 0 rfl 8 rfl, trivial⟩ ⟨_, rfl, rfl, hS4546.keep⟩
theorem tile_changes_5_calls (p0 : Tile)  (r : Tile) (w : World)  (hf : tile_changes_5 p0 = some r) :
    CallsR Tryd.prog 84 #[(.agg #[(.int .i64 p0.N), (.int .i64 p0.E), (.int .i64 p0.S), (.int .i64 p0.W)])] w (fun v w' => v = (.agg #[(.int .i64 r.N), (.int .i64 r.E), (.int .i64 r.S), (.int .i64 r.W)]) ∧ Keeps NoS w w') := by
  have hS : St NoS w w [] [] := St.init (ro_nil _ _)
  refine enter 12 Tryd.func84 rfl Tryd.ntmps84 rfl ?_
  unfold tile_changes_5 at hf
  refine WC.seq ?_
  refine WC.region ?_
  refine WL.new hS 1 [] (fun g => (.pointer (some ⟨g, 0, none⟩))) (.cells #[(.int .i64 p0.N), (.int .i64 p0.E), (.int .i64 p0.S), (.int .i64 p0.W)] 62 (0, 0)) [] (fun fb g => by kernel_rfl) trivial (fun g4552 w4553 hS4554 => ?_)
  refine ⟨trivial, ?_⟩
  refine WL.new hS4554 2 [] (fun g => (.pointer (some ⟨g, 0, none⟩))) (.cells #[(.int .i64 0), (.int .i64 0), (.int .i64 0), (.int .i64 0)] 62 (0, 0)) [] (fun fb g => by kernel_rfl) trivial (fun g4556 w4557 hS4558 => ?_)
  refine ⟨trivial, ?_⟩
  refine WL.done rfl ?_
  refine WX.next ?_
  refine WC.seq ?_
  refine WC.region ?_
  refine seg 9 [.v (.int .i64 p0.W), .v (.int .i64 p0.N), .v (.int .i64 p0.E), .v (.int .i64 p0.S)] [2, 11] [(2, (.pointer (some ⟨g4556, 0, none⟩))), (11, (.agg #[(.int .i64 p0.W), (.int .i64 p0.N), (.int .i64 p0.E), (.int .i64 p0.S)]))] [.cell ⟨g4552, 3, none⟩ (.int .i64 p0.W), .cell ⟨g4552, 0, none⟩ (.int .i64 p0.N), .cell ⟨g4552, 1, none⟩ (.int .i64 p0.E), .cell ⟨g4552, 2, none⟩ (.int .i64 p0.S)] (fun fb => by kernel_rfl) rfl ⟨hS4558.cell 1 rfl 3 rfl, hS4558.cell 1 rfl 0 rfl, hS4558.cell 1 rfl 1 rfl, hS4558.cell 1 rfl 2 rfl, trivial⟩ ?_
  refine WL.store hS4558 0 rfl [(0, (.int .i64 p0.W)), (1, (.int .i64 p0.N)), (2, (.int .i64 p0.E)), (3, (.int .i64 p0.S))] #[(.int .i64 p0.W), (.int .i64 p0.N), (.int .i64 p0.E), (.int .i64 p0.S)] (fun fb => by kernel_rfl) (by kernel_rfl) rfl [1] (by decide) (by decide) (fun w4560 hS4561 => ?_)
  refine ⟨trivial, ?_⟩
  refine WL.done rfl ?_
  refine WX.next ?_
  refine WC.ret ?_
  injection hf with hf
  subst hf
  exact WX.ret_ [.v (.int .i64 p0.W), .v (.int .i64 p0.N), .v (.int .i64 p0.E), .v (.int .i64 p0.S)] (.agg #[(.int .i64 p0.W), (.int .i64 p0.N), (.int .i64 p0.E), (.int .i64 p0.S)]) [.cell ⟨g4556, 0, none⟩ (.int .i64 p0.W), .cell ⟨g4556, 1, none⟩ (.int .i64 p0.N), .cell ⟨g4556, 2, none⟩ (.int .i64 p0.E), .cell ⟨g4556, 3, none⟩ (.int .i64 p0.S)] (fun fb => by kernel_rfl) ⟨hS4561.cell 0 rfl 0 rfl, hS4561.cell 0 rfl 1 rfl, hS4561.cell 0 rfl 2 rfl, hS4561.cell 0 rfl 3 rfl, trivial⟩ ⟨_, rfl, rfl, hS4561.keep⟩
theorem tile_changed_at2_calls (k : Nat) (p0 : List Tile) (A_p0 : Option Addr) (c_p0 : Nat) (r : (List Tile) × Int) (w : World) (hR0 : RO NoS w (rowR enc_Tile A_p0 c_p0 p0)) (hf : tile_changed_at2 k p0 = some r) :
    CallsR Tryd.prog 50 #[(.slice A_p0 p0.length c_p0), (.int .i64 2)] w (fun v w' => ∃ (A1_ : Option Addr), ∃ (c1_ : Nat), v = (.tuple #[(.slice A1_ r.1.length c1_), (.int .i64 r.2)]) ∧ St NoS w w' [] [rowO 62 enc_Tile A1_ c1_ r.1]) := by
  have hS : St NoS w w [rowR enc_Tile A_p0 c_p0 p0] [] := St.init (ro_cons hR0 (ro_nil _ _))
  refine enter 29 Tryd.func50 rfl Tryd.ntmps50 rfl ?_
  unfold tile_changed_at2 at hf
  refine WC.seq ?_
  refine WC.region ?_
  refine seg 2 [] [0, 1] [(0, (.slice A_p0 p0.length c_p0)), (1, (.int .i64 2))] [] (fun fb => by kernel_rfl) rfl trivial ?_
  refine WL.done rfl ?_
  refine WX.next ?_
  refine WC.seq ?_
  refine WC.seq ?_
  refine WC.region ?_
  refine seg 1 [] [0, 1, 9] [(0, (.slice A_p0 p0.length c_p0)), (1, (.int .i64 2)), (9, (.slice A_p0 p0.length c_p0))] [] (fun fb => by kernel_rfl) rfl trivial ?_
  obtain ⟨t4526, ht4527, hf⟩ := bind_some hf
  refine WL.call (some 10) 22 #[(.slice A_p0 p0.length c_p0)] (fun fb => by kernel_rfl) (tile_Valid_calls _ p0 A_p0 c_p0 t4526 _ (hS.rd 0) ht4527) (fun v w4528 hR4529 => ?_)
  obtain ⟨rfl, hk_⟩ := hR4529
  have hS4530 := hS.keepN hk_
  refine ⟨trivial, ?_⟩
  refine seg 3 [] [0, 1, 11] [(0, (.slice A_p0 p0.length c_p0)), (1, (.int .i64 2)), (11, (.bool (!t4526)))] [] (fun fb => by kernel_rfl) rfl trivial ?_
  refine WL.done rfl ?_
  refine WX.next ?_
  rcases br_some hf with ⟨h4531, hf⟩ | ⟨h4531, hf⟩
  · refine WC.condT2 (fun fb => by kernel_rfl) h4531 ?_
    refine WC.seq ?_
    refine WC.region ?_
    refine seg 2 [] [4, 5] [(4, (.slice none 0 0)), (5, (.int .i64 1))] [] (fun fb => by kernel_rfl) rfl trivial ?_
    refine WL.done rfl ?_
    refine WX.next ?_
    refine WC.ret ?_
    have hS4532 := hS4530.nilrow 62 enc_Tile
    injection hf with hf
    subst hf
    exact WX.thenR (WX.ret_ [] (.tuple #[(.slice none ([] : List Tile).length 0), (.int .i64 1)]) [] (fun fb => by kernel_rfl) trivial ⟨_, rfl, none, 0, rfl, (hS4532.sub [0] (by decide)).noR⟩)
  refine WC.condF2 (fun fb => by kernel_rfl) h4531 ?_
  refine WC.skip ?_
  refine WX.next ?_
  refine WC.seq ?_
  refine WC.region ?_
  refine seg 1 [] [0, 1, 6] [(0, (.slice A_p0 p0.length c_p0)), (1, (.int .i64 2)), (6, (.slice none 0 0))] [] (fun fb => by kernel_rfl) rfl trivial ?_
  refine WL.done rfl ?_
  refine WX.next ?_
  refine WC.seq ?_
  refine WC.seq ?_
  refine WC.region ?_
  refine seg 3 [] [1, 6, 12, 13, 14] [(1, (.int .i64 2)), (6, (.slice none 0 0)), (12, (.slice A_p0 p0.length c_p0)), (13, (.int .i64 (p0.length : Int))), (14, (.int .i64 0))] [] (fun fb => by kernel_rfl) rfl trivial ?_
  refine WL.done rfl ?_
  refine WX.next ?_
  have hS4656 := hS4530.nilrow 62 enc_Tile
  obtain ⟨x4664, hx4665, hf⟩ := bind_some hf
  refine WC.cutN (T := (List Tile) × (Option Addr) × Nat) (fun t => [(6, (.slice t.2.1 t.1.length t.2.2))]) (fun t w1 => St NoS w w1 [rowR enc_Tile A_p0 c_p0 p0] [rowO 62 enc_Tile t.2.1 t.2.2 t.1] ∧ x4664 = t.1) (fun Kx4664 => ?_) ?_
  ·
    refine WC.block ?_
    refine WC.loop (T := ((List Tile) × Int) × (Option Addr) × Nat) (fun t => [(1, (.int .i64 2)), (6, (.slice t.2.1 t.1.1.length t.2.2)), (12, (.slice A_p0 p0.length c_p0)), (13, (.int .i64 (p0.length : Int))), (14, (.int .i64 t.1.2))]) (fun n t w1 => St NoS w w1 [rowR enc_Tile A_p0 c_p0 p0] [rowO 62 enc_Tile t.2.1 t.2.2 t.1.1] ∧ tile_changed_at2.l0 n t.1.1 t.1.2 p0 = some x4664) k ((([] : List Tile), 0), none, 0) [1, 6, 12, 13, 14] rfl ⟨(hS4656.subR [0]).sub [0] (by decide), hx4665⟩ ?_
    rintro k4666 ⟨⟨l4659, x4660⟩, A4657, c4658⟩ w4667 ⟨hS4668, hl4669⟩
    cases k4666 with
    | zero => rw [tile_changed_at2.l0] at hl4669; cases hl4669
    | succ k4666 =>
      rw [tile_changed_at2.l0] at hl4669
      refine WC.seq ?_
      refine WC.region ?_
      refine seg 1 [] [1, 6, 12, 13, 14, 15] [(1, (.int .i64 2)), (6, (.slice A4657 l4659.length c4658)), (12, (.slice A_p0 p0.length c_p0)), (13, (.int .i64 (p0.length : Int))), (14, (.int .i64 x4660)), (15, (.bool (decide (x4660 < (p0.length : Int)))))] [] (fun fb => by kernel_rfl) rfl trivial ?_
      refine WL.done rfl ?_
      refine WX.next ?_
      refine WC.seq ?_
      rcases br_some hl4669 with ⟨h4670, hl4669⟩ | ⟨h4670, hl4669⟩
      · refine WC.condT2 (fun fb => by kernel_rfl) h4670 ?_
        refine WC.skip ?_
        refine WX.next ?_
        refine WC.seq ?_
        refine WC.block ?_
        refine WC.seq ?_
        refine WC.region ?_
        obtain ⟨h4671, hl4669⟩ := as_some hl4669
        refine seg 2 [.v (.int .i64 ((rdD p0 x4660 z_Tile).N)), .v (.int .i64 ((rdD p0 x4660 z_Tile).E)), .v (.int .i64 ((rdD p0 x4660 z_Tile).S)), .v (.int .i64 ((rdD p0 x4660 z_Tile).W))] [1, 6, 12, 13, 14, 17] [(1, (.int .i64 2)), (6, (.slice A4657 l4659.length c4658)), (12, (.slice A_p0 p0.length c_p0)), (13, (.int .i64 (p0.length : Int))), (14, (.int .i64 x4660)), (17, (.agg #[(.int .i64 ((rdD p0 x4660 z_Tile).N)), (.int .i64 ((rdD p0 x4660 z_Tile).E)), (.int .i64 ((rdD p0 x4660 z_Tile).S)), (.int .i64 ((rdD p0 x4660 z_Tile).W))]))] [.idx A_p0 x4660 p0.length, .cell ((adr A_p0).add ((x4660).toNat * 4)) (.int .i64 ((rdD p0 x4660 z_Tile).N)), .cell (((adr A_p0).add ((x4660).toNat * 4)).add 1) (.int .i64 ((rdD p0 x4660 z_Tile).E)), .cell (((adr A_p0).add ((x4660).toNat * 4)).add 2) (.int .i64 ((rdD p0 x4660 z_Tile).S)), .cell (((adr A_p0).add ((x4660).toNat * 4)).add 3) (.int .i64 ((rdD p0 x4660 z_Tile).W))] (fun fb => by kernel_rfl) rfl ⟨rowR.adr (hS4668.rd 0).1 h4671.1 h4671.2, rowR.cell (hS4668.rd 0).1 z_Tile h4671.1 h4671.2 0 rfl, rowR.cell (hS4668.rd 0).1 z_Tile h4671.1 h4671.2 1 rfl, rowR.cell (hS4668.rd 0).1 z_Tile h4671.1 h4671.2 2 rfl, rowR.cell (hS4668.rd 0).1 z_Tile h4671.1 h4671.2 3 rfl, trivial⟩ ?_
        refine WL.new hS4668 8 [] (fun g => (.pointer (some ⟨g, 0, none⟩))) (.cells #[(.int .i64 0), (.int .i64 0), (.int .i64 0), (.int .i64 0)] 62 (0, 0)) [] (fun fb g => by kernel_rfl) trivial (fun g4672 w4673 hS4674 => ?_)
        refine ⟨trivial, ?_⟩
        refine WL.store hS4674 0 rfl [(0, (.int .i64 ((rdD p0 x4660 z_Tile).N))), (1, (.int .i64 ((rdD p0 x4660 z_Tile).E))), (2, (.int .i64 ((rdD p0 x4660 z_Tile).S))), (3, (.int .i64 ((rdD p0 x4660 z_Tile).W)))] #[(.int .i64 ((rdD p0 x4660 z_Tile).N)), (.int .i64 ((rdD p0 x4660 z_Tile).E)), (.int .i64 ((rdD p0 x4660 z_Tile).S)), (.int .i64 ((rdD p0 x4660 z_Tile).W))] (fun fb => by kernel_rfl) (by kernel_rfl) rfl [1] (by decide) (by decide) (fun w4676 hS4677 => ?_)
        refine ⟨trivial, ?_⟩
        refine WL.done rfl ?_
        refine WX.next ?_
        refine WC.regionD ([(5, ⟨g4672, 0, none⟩, (.int .i64 ((rdD p0 x4660 z_Tile).N))), (5, ⟨g4672, 1, none⟩, (.int .i64 ((rdD p0 x4660 z_Tile).E))), (5, ⟨g4672, 2, none⟩, (.int .i64 ((rdD p0 x4660 z_Tile).S))), (5, ⟨g4672, 3, none⟩, (.int .i64 ((rdD p0 x4660 z_Tile).W)))], [0, 2, 3, 4, 5, 9], [[], [], [], [1, 2], [1, 2, 3], [], [1, 2, 3, 4, 5], [1, 2, 3, 4, 5, 6], [0, 1, 2, 3, 4, 5, 6, 7], [0, 1, 2, 3, 4, 5, 6, 7, 8]]) [[0, 2, 5, 1, 3, 4, 6, 7, 8, 9]] (by kernel_rfl) (by kernel_rfl) (NoPanic.block (NoPanic.seq (NoPanic.seq (NoPanic.block (NoPanic.seq (NoPanic.body)))))) ?_
        have hS4699 := hS4677.drew
        revert hS4699
        generalize World.drew w4676 = w4698
        intro hS4699
        refine ⟨⟨hS4699.cell 0 rfl 0 rfl, hS4699.cell 0 rfl 1 rfl, hS4699.cell 0 rfl 2 rfl, hS4699.cell 0 rfl 3 rfl, trivial⟩, forallC ?_ (forallN)⟩
        refine segF 3 [.v (.int .i64 ((rdD p0 x4660 z_Tile).N)), .v (.int .i64 ((rdD p0 x4660 z_Tile).E)), .v (.int .i64 ((rdD p0 x4660 z_Tile).S)), .v (.int .i64 ((rdD p0 x4660 z_Tile).W))] [1, 12, 13, 14, 18, 20, 23] [(1, (.int .i64 2)), (12, (.slice A_p0 p0.length c_p0)), (13, (.int .i64 (p0.length : Int))), (14, (.int .i64 x4660)), (18, (.slice A4657 l4659.length c4658)), (20, (.int .i64 2)), (23, (.agg #[(.int .i64 ((rdD p0 x4660 z_Tile).N)), (.int .i64 ((rdD p0 x4660 z_Tile).E)), (.int .i64 ((rdD p0 x4660 z_Tile).S)), (.int .i64 ((rdD p0 x4660 z_Tile).W))]))] [] [0, 1, 2, 3] [(5, ⟨g4672, 0, none⟩, (.int .i64 ((rdD p0 x4660 z_Tile).N))), (5, ⟨g4672, 1, none⟩, (.int .i64 ((rdD p0 x4660 z_Tile).E))), (5, ⟨g4672, 2, none⟩, (.int .i64 ((rdD p0 x4660 z_Tile).S))), (5, ⟨g4672, 3, none⟩, (.int .i64 ((rdD p0 x4660 z_Tile).W)))] (fun fb => by kernel_rfl) rfl trivial rfl ?_
        obtain ⟨t4700, ht4701, hl4669⟩ := bind_some hl4669
        refine WL.call (some 19) 64 #[] (fun fb => by kernel_rfl) (tile_changes_calls t4700 _ ht4701) (fun v w4702 hR4703 => ?_)
        obtain ⟨rfl, hk_⟩ := hR4703
        have hS4704 := hS4699.keepN hk_
        refine ⟨⟨hS4704.cell 0 rfl 0 rfl, hS4704.cell 0 rfl 1 rfl, hS4704.cell 0 rfl 2 rfl, hS4704.cell 0 rfl 3 rfl, trivial⟩, ?_⟩
        refine seg 6 [] [1, 12, 13, 14, 18, 22, 23] [(1, (.int .i64 2)), (12, (.slice A_p0 p0.length c_p0)), (13, (.int .i64 (p0.length : Int))), (14, (.int .i64 x4660)), (18, (.slice A4657 l4659.length c4658)), (22, (.func (.func 84) #[] #[])), (23, (.agg #[(.int .i64 ((rdD p0 x4660 z_Tile).N)), (.int .i64 ((rdD p0 x4660 z_Tile).E)), (.int .i64 ((rdD p0 x4660 z_Tile).S)), (.int .i64 ((rdD p0 x4660 z_Tile).W))]))] [] (fun fb => by kernel_rfl) rfl trivial ?_
        obtain ⟨t4705, ht4706, hl4669⟩ := bind_some hl4669
        refine WL.call (some 24) 84 #[(.agg #[(.int .i64 ((rdD p0 x4660 z_Tile).N)), (.int .i64 ((rdD p0 x4660 z_Tile).E)), (.int .i64 ((rdD p0 x4660 z_Tile).S)), (.int .i64 ((rdD p0 x4660 z_Tile).W))])] (fun fb => by kernel_rfl) (tile_changes_5_calls (rdD p0 x4660 z_Tile) t4705 _ ht4706) (fun v w4707 hR4708 => ?_)
        obtain ⟨rfl, hk_⟩ := hR4708
        have hS4709 := hS4704.keepN hk_
        refine ⟨trivial, ?_⟩
        refine WL.new hS4709 25 [] (fun g => (.slice (some ⟨g, 0, none⟩) 1 1)) (.cells #[(.int .i64 t4705.N), (.int .i64 t4705.E), (.int .i64 t4705.S), (.int .i64 t4705.W)] 62 (0, 0)) [] (fun fb g => by kernel_rfl) trivial (fun g4710 w4711 hS4712 => ?_)
        refine ⟨trivial, ?_⟩
        have hS4714 : St NoS w w4711 [rowR enc_Tile A_p0 c_p0 p0] [rowO 62 enc_Tile (some ⟨g4710, 0, none⟩) 1 [t4705], blk g4672 (.cells #[(.int .i64 ((rdD p0 x4660 z_Tile).N)), (.int .i64 ((rdD p0 x4660 z_Tile).E)), (.int .i64 ((rdD p0 x4660 z_Tile).S)), (.int .i64 ((rdD p0 x4660 z_Tile).W))] 62 (0, 0)), rowO 62 enc_Tile A4657 c4658 l4659] := hS4712.map1 0 _ (fun h => rowO.ofBlk h rfl (Nat.le_of_ble_eq_true (by kernel_rfl))) (fun _ h => by obtain ⟨_, h1, h2⟩ := h; injection h1 with h1; subst h1; exact h2) [1, 2] (by decide) (by decide)
        obtain ⟨h4715, hl4669⟩ := as_some hl4669
        refine WL.append hS4714 2 (d := 26) (tS := 23) (z := (.agg #[(.int .i64 0), (.int .i64 0), (.int .i64 0), (.int .i64 0)])) (bytes := 32) (c2 := 1) rfl (fun fb => by kernel_rfl) (rowO.rd (hS4714.own 0).1) (by kernel_rfl) (by kernel_rfl) rfl (by decide) h4715 (by decide) [0, 1] (by decide) (by decide) (fun A4716 c4717 w4718 hS4719 => ?_)
        refine ⟨trivial, ?_⟩
        refine seg 10 [] [1, 6, 12, 13, 14] [(1, (.int .i64 2)), (6, (.slice A4716 (l4659 ++ [t4705]).length c4717)), (12, (.slice A_p0 p0.length c_p0)), (13, (.int .i64 (p0.length : Int))), (14, (.int .i64 x4660))] [] (fun fb => by kernel_rfl) rfl trivial ?_
        refine WL.done rfl ?_
        refine WX.blockN (WX.next ?_)
        refine WC.region ?_
        refine seg 2 [] [1, 6, 12, 13, 14] [(1, (.int .i64 2)), (6, (.slice A4716 (l4659 ++ [t4705]).length c4717)), (12, (.slice A_p0 p0.length c_p0)), (13, (.int .i64 (p0.length : Int))), (14, (.int .i64 (w64 (x4660 + 1))))] [] (fun fb => by kernel_rfl) rfl trivial ?_
        refine WL.done rfl ?_
        exact WX.again k4666 (Nat.lt_succ_self _) ((l4659 ++ [t4705], w64 (x4660 + 1)), A4716, c4717) [1, 6, 12, 13, 14] rfl ⟨(hS4719.subR [0]).sub [0] (by decide), hl4669⟩
      refine WC.condF2 (fun fb => by kernel_rfl) h4670 ?_
      refine WC.exit ?_
      injection hl4669 with hl4669
      exact WX.thenX (WX.thenX (WX.blockHere (WX.to Kx4664 (l4659, A4657, c4658) [6] rfl ⟨(hS4668.subR [0]).sub [0] (by decide), hl4669.symm⟩)))
  rintro ⟨y4723, A4661, c4662⟩ w4720 ⟨hS4721, hq4722⟩
  subst hq4722
  refine WX.next ?_
  refine WC.seq ?_
  refine WC.region ?_
  refine seg 3 [] [4, 5] [(4, (.slice A4661 x4664.length c4662)), (5, (.int .i64 0))] [] (fun fb => by kernel_rfl) rfl trivial ?_
  refine WL.done rfl ?_
  refine WX.next ?_
  refine WC.ret ?_
  injection hf with hf
  subst hf
  exact WX.ret_ [] (.tuple #[(.slice A4661 x4664.length c4662), (.int .i64 0)]) [] (fun fb => by kernel_rfl) trivial ⟨_, rfl, A4661, c4662, rfl, (hS4721.sub [0] (by decide)).noR⟩
theorem tile_Turn_calls (k : Nat) (p0 : List Tile) (A_p0 : Option Addr) (c_p0 : Nat) (r : (List Tile) × Int) (w : World) (hR0 : RO NoS w (rowR enc_Tile A_p0 c_p0 p0)) (hf : tile_Turn k p0 = some r) :
    CallsR Tryd.prog 21 #[(.slice A_p0 p0.length c_p0)] w (fun v w' => ∃ (A1_ : Option Addr), ∃ (c1_ : Nat), v = (.tuple #[(.slice A1_ r.1.length c1_), (.int .i64 r.2)]) ∧ St NoS w w' [] [rowO 62 enc_Tile A1_ c1_ r.1]) := by
  have hS : St NoS w w [rowR enc_Tile A_p0 c_p0 p0] [] := St.init (ro_cons hR0 (ro_nil _ _))
  refine enter 8 Tryd.func21 rfl Tryd.ntmps21 rfl ?_
  unfold tile_Turn at hf
  refine WC.seq ?_
  refine WC.region ?_
  refine seg 2 [] [0] [(0, (.slice A_p0 p0.length c_p0))] [] (fun fb => by kernel_rfl) rfl trivial ?_
  refine WL.done rfl ?_
  refine WX.next ?_
  refine WC.seq ?_
  refine WC.region ?_
  refine seg 1 [] [4] [(4, (.slice A_p0 p0.length c_p0))] [] (fun fb => by kernel_rfl) rfl trivial ?_
  obtain ⟨t4724, ht4725, hf⟩ := bind_some hf
  refine WL.call (some 5) 50 #[(.slice A_p0 p0.length c_p0), (.int .i64 2)] (fun fb => by kernel_rfl) (tile_changed_at2_calls _ p0 A_p0 c_p0 t4724 _ (hS.rd 0) ht4725) (fun v w4726 hR4727 => ?_)
  obtain ⟨A4729, c4730, rfl, hk_⟩ := hR4727
  have hS4728 : St NoS w w4726 [rowR enc_Tile A_p0 c_p0 p0] [rowO 62 enc_Tile A4729 c4730 t4724.1] := hS.call hk_ [] [] (fun g hg => hg.elim) (by simp) (by decide)
  refine ⟨trivial, ?_⟩
  refine seg 6 [] [2, 3] [(2, (.slice A4729 t4724.1.length c4730)), (3, (.int .i64 t4724.2))] [] (fun fb => by kernel_rfl) rfl trivial ?_
  refine WL.done rfl ?_
  refine WX.next ?_
  refine WC.ret ?_
  injection hf with hf
  subst hf
  exact WX.ret_ [] (.tuple #[(.slice A4729 t4724.1.length c4730), (.int .i64 t4724.2)]) [] (fun fb => by kernel_rfl) trivial ⟨_, rfl, A4729, c4730, rfl, (hS4728.sub [0] (by decide)).noR⟩
theorem tile_changes_6_calls (p0 : Int) (p1 : Int)  (r : Int × Int) (w : World)  (hf : tile_changes_6 p0 p1 = some r) :
    CallsR Tryd.prog 85 #[(.int .i64 p0), (.int .i64 p1)] w (fun v w' => v = (.tuple #[(.int .i64 r.1), (.int .i64 r.2)]) ∧ Keeps NoS w w') := by
  have hS : St NoS w w [] [] := St.init (ro_nil _ _)
  refine enter 8 Tryd.func85 rfl Tryd.ntmps85 rfl ?_
  unfold tile_changes_6 at hf
  refine WC.seq ?_
  refine WC.region ?_
  refine seg 2 [] [0, 1] [(0, (.int .i64 p0)), (1, (.int .i64 p1))] [] (fun fb => by kernel_rfl) rfl trivial ?_
  refine WL.done rfl ?_
  refine WX.next ?_
  refine WC.seq ?_
  refine WC.region ?_
  refine seg 4 [] [4, 5] [(4, (.int .i64 p1)), (5, (.int .i64 p0))] [] (fun fb => by kernel_rfl) rfl trivial ?_
  refine WL.done rfl ?_
  refine WX.next ?_
  refine WC.ret ?_
  injection hf with hf
  subst hf
  exact WX.ret_ [] (.tuple #[(.int .i64 p1), (.int .i64 p0)]) [] (fun fb => by kernel_rfl) trivial ⟨_, rfl, rfl, hS.keep⟩
theorem tile_changes_7_calls (p0 : Pattern) (p1 : Int) (p2 : Int) (A_p0_Cells : Option Addr) (c_p0_Cells : Nat) (r : Int × Int) (w : World) (hR0 : RO NoS w (rowR encInt A_p0_Cells c_p0_Cells p0.Cells)) (hf : tile_changes_7 p0 p1 p2 = some r) :
    CallsR Tryd.prog 86 #[(.agg #[(.int .i64 p0.Width), (.int .i64 p0.Height), (.slice A_p0_Cells p0.Cells.length c_p0_Cells)]), (.int .i64 p1), (.int .i64 p2)] w (fun v w' => v = (.tuple #[(.int .i64 r.1), (.int .i64 r.2)]) ∧ Keeps NoS w w') := by
  have hS : St NoS w w [rowR encInt A_p0_Cells c_p0_Cells p0.Cells] [] := St.init (ro_cons hR0 (ro_nil _ _))
  refine enter 14 Tryd.func86 rfl Tryd.ntmps86 rfl ?_
  unfold tile_changes_7 at hf
  refine WC.seq ?_
  refine WC.region ?_
  refine WL.new hS 3 [] (fun g => (.pointer (some ⟨g, 0, none⟩))) (.cells #[(.int .i64 p0.Width), (.int .i64 p0.Height), (.slice A_p0_Cells p0.Cells.length c_p0_Cells)] 35 (0, 0)) [] (fun fb g => by kernel_rfl) trivial (fun g4789 w4790 hS4791 => ?_)
  refine ⟨trivial, ?_⟩
  refine seg 3 [] [1, 2, 3] [(1, (.int .i64 p1)), (2, (.int .i64 p2)), (3, (.pointer (some ⟨g4789, 0, none⟩)))] [] (fun fb => by kernel_rfl) rfl trivial ?_
  refine WL.done rfl ?_
  refine WX.next ?_
  refine WC.seq ?_
  refine WC.region ?_
  refine seg 8 [.v (.int .i64 p0.Width)] [6, 7] [(6, (.int .i64 (w64 ((w64 (p0.Width - 1)) - p2)))), (7, (.int .i64 p1))] [.cell ⟨g4789, 0, none⟩ (.int .i64 p0.Width)] (fun fb => by kernel_rfl) rfl ⟨hS4791.cell 0 rfl 0 rfl, trivial⟩ ?_
  refine WL.done rfl ?_
  refine WX.next ?_
  refine WC.ret ?_
  injection hf with hf
  subst hf
  exact WX.ret_ [] (.tuple #[(.int .i64 (w64 ((w64 (p0.Width - 1)) - p2))), (.int .i64 p1)]) [] (fun fb => by kernel_rfl) trivial ⟨_, rfl, rfl, hS4791.keep⟩
theorem tile_changedPattern_at2_calls (k : Nat) (p0 : Pattern) (A_p0_Cells : Option Addr) (c_p0_Cells : Nat) (r : Pattern × Int) (w : World) (hR0 : RO NoS w (rowR encInt A_p0_Cells c_p0_Cells p0.Cells)) (hf : tile_changedPattern_at2 k p0 = some r) :
    CallsR Tryd.prog 53 #[(.agg #[(.int .i64 p0.Width), (.int .i64 p0.Height), (.slice A_p0_Cells p0.Cells.length c_p0_Cells)]), (.int .i64 2)] w (fun v w' => ∃ (A1_ : Option Addr), ∃ (c1_ : Nat), v = (.tuple #[(.agg #[(.int .i64 r.1.Width), (.int .i64 r.1.Height), (.slice A1_ r.1.Cells.length c1_)]), (.int .i64 r.2)]) ∧ St NoS w w' [] [rowO 3 encInt A1_ c1_ r.1.Cells]) := by
  have hS : St NoS w w [rowR encInt A_p0_Cells c_p0_Cells p0.Cells] [] := St.init (ro_cons hR0 (ro_nil _ _))
  refine enter 68 Tryd.func53 rfl Tryd.ntmps53 rfl ?_
  unfold tile_changedPattern_at2 at hf
  refine WC.seq ?_
  refine WC.region ?_
  refine WL.new hS 2 [] (fun g => (.pointer (some ⟨g, 0, none⟩))) (.cells #[(.int .i64 p0.Width), (.int .i64 p0.Height), (.slice A_p0_Cells p0.Cells.length c_p0_Cells)] 35 (0, 0)) [] (fun fb g => by kernel_rfl) trivial (fun g4746 w4747 hS4748 => ?_)
  refine ⟨trivial, ?_⟩
  refine WL.new hS4748 4 [] (fun g => (.pointer (some ⟨g, 0, none⟩))) (.cells #[(.int .i64 0), (.int .i64 0), (.slice none 0 0)] 35 (0, 0)) [] (fun fb g => by kernel_rfl) trivial (fun g4750 w4751 hS4752 => ?_)
  refine ⟨trivial, ?_⟩
  refine seg 3 [] [1, 2, 4] [(1, (.int .i64 2)), (2, (.pointer (some ⟨g4746, 0, none⟩))), (4, (.pointer (some ⟨g4750, 0, none⟩)))] [] (fun fb => by kernel_rfl) rfl trivial ?_
  refine WL.done rfl ?_
  refine WX.next ?_
  refine WC.seq ?_
  refine WC.seq ?_
  refine WC.region ?_
  refine seg 1 [.v (.int .i64 p0.Width), .v (.int .i64 p0.Height), .v (.slice A_p0_Cells p0.Cells.length c_p0_Cells)] [1, 2, 4, 12] [(1, (.int .i64 2)), (2, (.pointer (some ⟨g4746, 0, none⟩))), (4, (.pointer (some ⟨g4750, 0, none⟩))), (12, (.agg #[(.int .i64 p0.Width), (.int .i64 p0.Height), (.slice A_p0_Cells p0.Cells.length c_p0_Cells)]))] [.cell ⟨g4746, 0, none⟩ (.int .i64 p0.Width), .cell ⟨g4746, 1, none⟩ (.int .i64 p0.Height), .cell ⟨g4746, 2, none⟩ (.slice A_p0_Cells p0.Cells.length c_p0_Cells)] (fun fb => by kernel_rfl) rfl ⟨hS4752.cell 1 rfl 0 rfl, hS4752.cell 1 rfl 1 rfl, hS4752.cell 1 rfl 2 rfl, trivial⟩ ?_
  obtain ⟨t4754, ht4755, hf⟩ := bind_some hf
  refine WL.call (some 13) 54 #[(.agg #[(.int .i64 p0.Width), (.int .i64 p0.Height), (.slice A_p0_Cells p0.Cells.length c_p0_Cells)])] (fun fb => by kernel_rfl) (tile_Form_calls p0 A_p0_Cells c_p0_Cells t4754 _ (hS4752.rd 0) ht4755) (fun v w4756 hR4757 => ?_)
  obtain ⟨rfl, hk_⟩ := hR4757
  have hS4758 := hS4752.keepN hk_
  refine ⟨trivial, ?_⟩
  refine seg 3 [] [1, 2, 4, 14] [(1, (.int .i64 2)), (2, (.pointer (some ⟨g4746, 0, none⟩))), (4, (.pointer (some ⟨g4750, 0, none⟩))), (14, (.bool (!t4754)))] [] (fun fb => by kernel_rfl) rfl trivial ?_
  refine WL.done rfl ?_
  refine WX.next ?_
  rcases br_some hf with ⟨h4759, hf⟩ | ⟨h4759, hf⟩
  · refine WC.condT2 (fun fb => by kernel_rfl) h4759 ?_
    refine WC.seq ?_
    refine WC.region ?_
    refine seg 1 [] [4, 15] [(4, (.pointer (some ⟨g4750, 0, none⟩))), (15, (.agg #[(.int .i64 0), (.int .i64 0), (.slice none 0 0)]))] [] (fun fb => by kernel_rfl) rfl trivial ?_
    refine WL.store hS4758 0 rfl [(0, (.int .i64 0)), (1, (.int .i64 0)), (2, (.slice none 0 0))] #[(.int .i64 0), (.int .i64 0), (.slice none 0 0)] (fun fb => by kernel_rfl) (by kernel_rfl) rfl [1] (by decide) (by decide) (fun w4760 hS4761 => ?_)
    refine ⟨trivial, ?_⟩
    refine seg 3 [] [4, 5] [(4, (.pointer (some ⟨g4750, 0, none⟩))), (5, (.int .i64 1))] [] (fun fb => by kernel_rfl) rfl trivial ?_
    refine WL.done rfl ?_
    refine WX.next ?_
    refine WC.ret ?_
    have hS4762 := hS4761.nilrow 3 encInt
    injection hf with hf
    subst hf
    exact WX.thenR (WX.ret_ [.v (.int .i64 0), .v (.int .i64 0), .v (.slice none 0 0)] (.tuple #[(.agg #[(.int .i64 0), (.int .i64 0), (.slice none ([] : List Int).length 0)]), (.int .i64 1)]) [.cell ⟨g4750, 0, none⟩ (.int .i64 0), .cell ⟨g4750, 1, none⟩ (.int .i64 0), .cell ⟨g4750, 2, none⟩ (.slice none 0 0)] (fun fb => by kernel_rfl) ⟨hS4761.cell 0 rfl 0 rfl, hS4761.cell 0 rfl 1 rfl, hS4761.cell 0 rfl 2 rfl, trivial⟩ ⟨_, rfl, none, 0, rfl, (hS4762.sub [0] (by decide)).noR⟩)
  refine WC.condF2 (fun fb => by kernel_rfl) h4759 ?_
  refine WC.skip ?_
  refine WX.next ?_
  refine WC.seq ?_
  refine WC.region ?_
  obtain ⟨t4763, ht4764, hf⟩ := bind_some hf
  refine WL.call (some 16) 64 #[] (fun fb => by kernel_rfl) (tile_changes_calls t4763 _ ht4764) (fun v w4765 hR4766 => ?_)
  obtain ⟨rfl, hk_⟩ := hR4766
  have hS4767 := hS4758.keepN hk_
  refine ⟨trivial, ?_⟩
  refine seg 3 [] [2, 4, 18] [(2, (.pointer (some ⟨g4746, 0, none⟩))), (4, (.pointer (some ⟨g4750, 0, none⟩))), (18, (.agg #[(.func (.func 84) #[] #[]), (.func (.func 85) #[] #[]), (.func (.func 86) #[] #[])]))] [] (fun fb => by kernel_rfl) rfl trivial ?_
  refine WL.new hS4767 6 [] (fun g => (.pointer (some ⟨g, 0, none⟩))) (.cells #[.nilFunc, .nilFunc, .nilFunc] 83 (0, 0)) [] (fun fb g => by kernel_rfl) trivial (fun g4768 w4769 hS4770 => ?_)
  refine ⟨trivial, ?_⟩
  refine WL.store hS4770 0 rfl [(0, (.func (.func 84) #[] #[])), (1, (.func (.func 85) #[] #[])), (2, (.func (.func 86) #[] #[]))] #[(.func (.func 84) #[] #[]), (.func (.func 85) #[] #[]), (.func (.func 86) #[] #[])] (fun fb => by kernel_rfl) (by kernel_rfl) rfl [1, 2] (by decide) (by decide) (fun w4772 hS4773 => ?_)
  refine ⟨trivial, ?_⟩
  refine WL.done rfl ?_
  refine WX.next ?_
  refine WC.seq ?_
  refine WC.region ?_
  refine WL.new hS4773 7 [] (fun g => (.pointer (some ⟨g, 0, none⟩))) (.cells #[(.int .i64 0), (.int .i64 0), (.slice none 0 0)] 35 (0, 0)) [] (fun fb g => by kernel_rfl) trivial (fun g4774 w4775 hS4776 => ?_)
  refine ⟨trivial, ?_⟩
  refine WL.done rfl ?_
  refine WX.next ?_
  refine WC.seq ?_
  refine WC.region ?_
  refine seg 6 [.v (.func (.func 85) #[] #[]), .v (.int .i64 p0.Width), .v (.int .i64 p0.Height)] [2, 4, 6, 7, 21, 23, 25] [(2, (.pointer (some ⟨g4746, 0, none⟩))), (4, (.pointer (some ⟨g4750, 0, none⟩))), (6, (.pointer (some ⟨g4768, 0, none⟩))), (7, (.pointer (some ⟨g4774, 0, none⟩))), (21, (.func (.func 85) #[] #[])), (23, (.int .i64 p0.Width)), (25, (.int .i64 p0.Height))] [.cell ⟨g4768, 1, none⟩ (.func (.func 85) #[] #[]), .cell ⟨g4746, 0, none⟩ (.int .i64 p0.Width), .cell ⟨g4746, 1, none⟩ (.int .i64 p0.Height)] (fun fb => by kernel_rfl) rfl ⟨hS4776.cell 1 rfl 1 rfl, hS4776.cell 3 rfl 0 rfl, hS4776.cell 3 rfl 1 rfl, trivial⟩ ?_
  obtain ⟨t4778, ht4779, hf⟩ := bind_some hf
  refine WL.call (some 26) 85 #[(.int .i64 p0.Width), (.int .i64 p0.Height)] (fun fb => by kernel_rfl) (tile_changes_6_calls p0.Width p0.Height t4778 _ ht4779) (fun v w4780 hR4781 => ?_)
  obtain ⟨rfl, hk_⟩ := hR4781
  have hS4782 := hS4776.keepN hk_
  refine ⟨trivial, ?_⟩
  refine seg 11 [] [2, 4, 6, 7, 27, 28, 29] [(2, (.pointer (some ⟨g4746, 0, none⟩))), (4, (.pointer (some ⟨g4750, 0, none⟩))), (6, (.pointer (some ⟨g4768, 0, none⟩))), (7, (.pointer (some ⟨g4774, 0, none⟩))), (27, (.int .i64 t4778.1)), (28, (.int .i64 t4778.2)), (29, (.pointer (some ⟨g4774, 0, none⟩)))] [] (fun fb => by kernel_rfl) rfl trivial ?_
  refine WL.store hS4782 0 rfl [(0, (.int .i64 t4778.1))] #[(.int .i64 t4778.1), (.int .i64 0), (.slice none 0 0)] (fun fb => by kernel_rfl) (by kernel_rfl) rfl [1, 2, 3] (by decide) (by decide) (fun w4783 hS4784 => ?_)
  refine ⟨trivial, ?_⟩
  refine seg 13 [] [2, 4, 6, 7, 28, 30] [(2, (.pointer (some ⟨g4746, 0, none⟩))), (4, (.pointer (some ⟨g4750, 0, none⟩))), (6, (.pointer (some ⟨g4768, 0, none⟩))), (7, (.pointer (some ⟨g4774, 0, none⟩))), (28, (.int .i64 t4778.2)), (30, (.pointer (some ⟨g4774, 1, none⟩)))] [] (fun fb => by kernel_rfl) rfl trivial ?_
  refine WL.store hS4784 0 rfl [(1, (.int .i64 t4778.2))] #[(.int .i64 t4778.1), (.int .i64 t4778.2), (.slice none 0 0)] (fun fb => by kernel_rfl) (by kernel_rfl) rfl [1, 2, 3] (by decide) (by decide) (fun w4785 hS4786 => ?_)
  refine ⟨trivial, ?_⟩
  refine WL.done rfl ?_
  refine WX.next ?_
  refine WC.seq ?_
  refine WC.seq ?_
  refine WC.region ?_
  refine seg 3 [.v (.int .i64 t4778.2)] [2, 4, 6, 7, 32, 33] [(2, (.pointer (some ⟨g4746, 0, none⟩))), (4, (.pointer (some ⟨g4750, 0, none⟩))), (6, (.pointer (some ⟨g4768, 0, none⟩))), (7, (.pointer (some ⟨g4774, 0, none⟩))), (32, (.int .i64 t4778.2)), (33, (.int .i64 0))] [.cell ⟨g4774, 1, none⟩ (.int .i64 t4778.2)] (fun fb => by kernel_rfl) rfl ⟨hS4786.cell 0 rfl 1 rfl, trivial⟩ ?_
  refine WL.done rfl ?_
  refine WX.next ?_
  have hS5054 := hS4786.nilrow 3 encInt
  obtain ⟨x5062, hx5063, hf⟩ := bind_some hf
  refine WC.cutN (T := (List Int) × (Option Addr) × Nat) (fun t => [(4, (.pointer (some ⟨g4750, 0, none⟩))), (7, (.pointer (some ⟨g4774, 0, none⟩)))]) (fun t w1 => St NoS w w1 [rowR encInt A_p0_Cells c_p0_Cells p0.Cells] [blk g4750 (.cells #[(.int .i64 0), (.int .i64 0), (.slice none 0 0)] 35 (0, 0)), blk g4774 (.cells #[(.int .i64 t4778.1), (.int .i64 t4778.2), (.slice t.2.1 t.1.length t.2.2)] 35 (0, 0)), rowO 3 encInt t.2.1 t.2.2 t.1] ∧ x5062 = t.1) (fun Kx5062 => ?_) ?_
  ·
    refine WC.block ?_
    refine WC.loop (T := ((List Int) × Int) × (Option Addr) × Nat) (fun t => [(2, (.pointer (some ⟨g4746, 0, none⟩))), (4, (.pointer (some ⟨g4750, 0, none⟩))), (6, (.pointer (some ⟨g4768, 0, none⟩))), (7, (.pointer (some ⟨g4774, 0, none⟩))), (32, (.int .i64 t4778.2)), (33, (.int .i64 t.1.2))]) (fun n t w1 => St NoS w w1 [rowR encInt A_p0_Cells c_p0_Cells p0.Cells] [blk g4746 (.cells #[(.int .i64 p0.Width), (.int .i64 p0.Height), (.slice A_p0_Cells p0.Cells.length c_p0_Cells)] 35 (0, 0)), blk g4750 (.cells #[(.int .i64 0), (.int .i64 0), (.slice none 0 0)] 35 (0, 0)), blk g4768 (.cells #[(.func (.func 84) #[] #[]), (.func (.func 85) #[] #[]), (.func (.func 86) #[] #[])] 83 (0, 0)), blk g4774 (.cells #[(.int .i64 t4778.1), (.int .i64 t4778.2), (.slice t.2.1 t.1.1.length t.2.2)] 35 (0, 0)), rowO 3 encInt t.2.1 t.2.2 t.1.1] ∧ tile_changedPattern_at2.l0 n t.1.1 t.1.2 p0 t4778 = some x5062) k ((([] : List Int), 0), none, 0) [2, 4, 6, 7, 32, 33] rfl ⟨(hS5054.subR [0]).sub [4, 3, 2, 1, 0] (by decide), hx5063⟩ ?_
    rintro k5064 ⟨⟨l5057, x5058⟩, A5055, c5056⟩ w5065 ⟨hS5066, hl5067⟩
    cases k5064 with
    | zero => rw [tile_changedPattern_at2.l0] at hl5067; cases hl5067
    | succ k5064 =>
      rw [tile_changedPattern_at2.l0] at hl5067
      refine WC.seq ?_
      refine WC.region ?_
      refine seg 1 [] [2, 4, 6, 7, 32, 33, 34] [(2, (.pointer (some ⟨g4746, 0, none⟩))), (4, (.pointer (some ⟨g4750, 0, none⟩))), (6, (.pointer (some ⟨g4768, 0, none⟩))), (7, (.pointer (some ⟨g4774, 0, none⟩))), (32, (.int .i64 t4778.2)), (33, (.int .i64 x5058)), (34, (.bool (decide (x5058 < t4778.2))))] [] (fun fb => by kernel_rfl) rfl trivial ?_
      refine WL.done rfl ?_
      refine WX.next ?_
      refine WC.seq ?_
      rcases br_some hl5067 with ⟨h5068, hl5067⟩ | ⟨h5068, hl5067⟩
      · refine WC.condT2 (fun fb => by kernel_rfl) h5068 ?_
        refine WC.skip ?_
        refine WX.next ?_
        refine WC.seq ?_
        refine WC.block ?_
        refine WC.seq ?_
        refine WC.region ?_
        refine seg 2 [] [2, 4, 6, 7, 8, 32, 33] [(2, (.pointer (some ⟨g4746, 0, none⟩))), (4, (.pointer (some ⟨g4750, 0, none⟩))), (6, (.pointer (some ⟨g4768, 0, none⟩))), (7, (.pointer (some ⟨g4774, 0, none⟩))), (8, (.int .i64 x5058)), (32, (.int .i64 t4778.2)), (33, (.int .i64 x5058))] [] (fun fb => by kernel_rfl) rfl trivial ?_
        refine WL.done rfl ?_
        refine WX.next ?_
        refine WC.seq ?_
        refine WC.region ?_
        refine seg 3 [.v (.int .i64 t4778.1)] [2, 4, 6, 7, 8, 32, 33, 37, 38] [(2, (.pointer (some ⟨g4746, 0, none⟩))), (4, (.pointer (some ⟨g4750, 0, none⟩))), (6, (.pointer (some ⟨g4768, 0, none⟩))), (7, (.pointer (some ⟨g4774, 0, none⟩))), (8, (.int .i64 x5058)), (32, (.int .i64 t4778.2)), (33, (.int .i64 x5058)), (37, (.int .i64 t4778.1)), (38, (.int .i64 0))] [.cell ⟨g4774, 0, none⟩ (.int .i64 t4778.1)] (fun fb => by kernel_rfl) rfl ⟨hS5066.cell 3 rfl 0 rfl, trivial⟩ ?_
        refine WL.done rfl ?_
        refine WX.next ?_
        obtain ⟨x5150, hx5151, hl5067⟩ := bind_some hl5067
        refine WC.cutN (T := (List Int) × (Option Addr) × Nat) (fun t => [(2, (.pointer (some ⟨g4746, 0, none⟩))), (4, (.pointer (some ⟨g4750, 0, none⟩))), (6, (.pointer (some ⟨g4768, 0, none⟩))), (7, (.pointer (some ⟨g4774, 0, none⟩))), (32, (.int .i64 t4778.2)), (33, (.int .i64 x5058))]) (fun t w1 => St NoS w w1 [rowR encInt A_p0_Cells c_p0_Cells p0.Cells] [blk g4746 (.cells #[(.int .i64 p0.Width), (.int .i64 p0.Height), (.slice A_p0_Cells p0.Cells.length c_p0_Cells)] 35 (0, 0)), blk g4750 (.cells #[(.int .i64 0), (.int .i64 0), (.slice none 0 0)] 35 (0, 0)), blk g4768 (.cells #[(.func (.func 84) #[] #[]), (.func (.func 85) #[] #[]), (.func (.func 86) #[] #[])] 83 (0, 0)), blk g4774 (.cells #[(.int .i64 t4778.1), (.int .i64 t4778.2), (.slice t.2.1 t.1.length t.2.2)] 35 (0, 0)), rowO 3 encInt t.2.1 t.2.2 t.1] ∧ x5150 = t.1) (fun Kx5150 => ?_) ?_
        ·
          refine WC.block ?_
          refine WC.loop (T := ((List Int) × Int) × (Option Addr) × Nat) (fun t => [(2, (.pointer (some ⟨g4746, 0, none⟩))), (4, (.pointer (some ⟨g4750, 0, none⟩))), (6, (.pointer (some ⟨g4768, 0, none⟩))), (7, (.pointer (some ⟨g4774, 0, none⟩))), (8, (.int .i64 x5058)), (32, (.int .i64 t4778.2)), (33, (.int .i64 x5058)), (37, (.int .i64 t4778.1)), (38, (.int .i64 t.1.2))]) (fun n t w1 => St NoS w w1 [rowR encInt A_p0_Cells c_p0_Cells p0.Cells] [blk g4746 (.cells #[(.int .i64 p0.Width), (.int .i64 p0.Height), (.slice A_p0_Cells p0.Cells.length c_p0_Cells)] 35 (0, 0)), blk g4750 (.cells #[(.int .i64 0), (.int .i64 0), (.slice none 0 0)] 35 (0, 0)), blk g4768 (.cells #[(.func (.func 84) #[] #[]), (.func (.func 85) #[] #[]), (.func (.func 86) #[] #[])] 83 (0, 0)), blk g4774 (.cells #[(.int .i64 t4778.1), (.int .i64 t4778.2), (.slice t.2.1 t.1.1.length t.2.2)] 35 (0, 0)), rowO 3 encInt t.2.1 t.2.2 t.1.1] ∧ tile_changedPattern_at2.l1 n t.1.1 t.1.2 p0 t4778 x5058 = some x5150) k5064 ((l5057, 0), A5055, c5056) [2, 4, 6, 7, 8, 32, 33, 37, 38] rfl ⟨(hS5066.subR [0]).sub [0, 1, 2, 3, 4] (by decide), hx5151⟩ ?_
          rintro k5152 ⟨⟨l5145, x5146⟩, A5143, c5144⟩ w5153 ⟨hS5154, hl5155⟩
          cases k5152 with
          | zero => rw [tile_changedPattern_at2.l1] at hl5155; cases hl5155
          | succ k5152 =>
            rw [tile_changedPattern_at2.l1] at hl5155
            refine WC.seq ?_
            refine WC.region ?_
            refine seg 1 [] [2, 4, 6, 7, 8, 32, 33, 37, 38, 39] [(2, (.pointer (some ⟨g4746, 0, none⟩))), (4, (.pointer (some ⟨g4750, 0, none⟩))), (6, (.pointer (some ⟨g4768, 0, none⟩))), (7, (.pointer (some ⟨g4774, 0, none⟩))), (8, (.int .i64 x5058)), (32, (.int .i64 t4778.2)), (33, (.int .i64 x5058)), (37, (.int .i64 t4778.1)), (38, (.int .i64 x5146)), (39, (.bool (decide (x5146 < t4778.1))))] [] (fun fb => by kernel_rfl) rfl trivial ?_
            refine WL.done rfl ?_
            refine WX.next ?_
            refine WC.seq ?_
            rcases br_some hl5155 with ⟨h5156, hl5155⟩ | ⟨h5156, hl5155⟩
            · refine WC.condT2 (fun fb => by kernel_rfl) h5156 ?_
              refine WC.skip ?_
              refine WX.next ?_
              refine WC.seq ?_
              refine WC.block ?_
              refine WC.seq ?_
              refine WC.region ?_
              refine seg 2 [] [2, 4, 6, 7, 8, 9, 32, 33, 37, 38] [(2, (.pointer (some ⟨g4746, 0, none⟩))), (4, (.pointer (some ⟨g4750, 0, none⟩))), (6, (.pointer (some ⟨g4768, 0, none⟩))), (7, (.pointer (some ⟨g4774, 0, none⟩))), (8, (.int .i64 x5058)), (9, (.int .i64 x5146)), (32, (.int .i64 t4778.2)), (33, (.int .i64 x5058)), (37, (.int .i64 t4778.1)), (38, (.int .i64 x5146))] [] (fun fb => by kernel_rfl) rfl trivial ?_
              refine WL.done rfl ?_
              refine WX.next ?_
              refine WC.seq ?_
              refine WC.region ?_
              refine seg 5 [.v (.func (.func 86) #[] #[]), .v (.int .i64 p0.Width), .v (.int .i64 p0.Height), .v (.slice A_p0_Cells p0.Cells.length c_p0_Cells)] [2, 4, 6, 7, 8, 32, 33, 37, 38, 43, 44, 45, 46] [(2, (.pointer (some ⟨g4746, 0, none⟩))), (4, (.pointer (some ⟨g4750, 0, none⟩))), (6, (.pointer (some ⟨g4768, 0, none⟩))), (7, (.pointer (some ⟨g4774, 0, none⟩))), (8, (.int .i64 x5058)), (32, (.int .i64 t4778.2)), (33, (.int .i64 x5058)), (37, (.int .i64 t4778.1)), (38, (.int .i64 x5146)), (43, (.func (.func 86) #[] #[])), (44, (.agg #[(.int .i64 p0.Width), (.int .i64 p0.Height), (.slice A_p0_Cells p0.Cells.length c_p0_Cells)])), (45, (.int .i64 x5146)), (46, (.int .i64 x5058))] [.cell ⟨g4768, 2, none⟩ (.func (.func 86) #[] #[]), .cell ⟨g4746, 0, none⟩ (.int .i64 p0.Width), .cell ⟨g4746, 1, none⟩ (.int .i64 p0.Height), .cell ⟨g4746, 2, none⟩ (.slice A_p0_Cells p0.Cells.length c_p0_Cells)] (fun fb => by kernel_rfl) rfl ⟨hS5154.cell 2 rfl 2 rfl, hS5154.cell 0 rfl 0 rfl, hS5154.cell 0 rfl 1 rfl, hS5154.cell 0 rfl 2 rfl, trivial⟩ ?_
              obtain ⟨t5157, ht5158, hl5155⟩ := bind_some hl5155
              refine WL.call (some 47) 86 #[(.agg #[(.int .i64 p0.Width), (.int .i64 p0.Height), (.slice A_p0_Cells p0.Cells.length c_p0_Cells)]), (.int .i64 x5146), (.int .i64 x5058)] (fun fb => by kernel_rfl) (tile_changes_7_calls p0 x5146 x5058 A_p0_Cells c_p0_Cells t5157 _ (hS5154.rd 0) ht5158) (fun v w5159 hR5160 => ?_)
              obtain ⟨rfl, hk_⟩ := hR5160
              have hS5161 := hS5154.keepN hk_
              refine ⟨trivial, ?_⟩
              refine seg 11 [] [2, 4, 6, 7, 8, 10, 11, 32, 33, 37, 38] [(2, (.pointer (some ⟨g4746, 0, none⟩))), (4, (.pointer (some ⟨g4750, 0, none⟩))), (6, (.pointer (some ⟨g4768, 0, none⟩))), (7, (.pointer (some ⟨g4774, 0, none⟩))), (8, (.int .i64 x5058)), (10, (.int .i64 t5157.1)), (11, (.int .i64 t5157.2)), (32, (.int .i64 t4778.2)), (33, (.int .i64 x5058)), (37, (.int .i64 t4778.1)), (38, (.int .i64 x5146))] [] (fun fb => by kernel_rfl) rfl trivial ?_
              refine WL.done rfl ?_
              refine WX.next ?_
              obtain ⟨h5178, hl5155⟩ := as_some hl5155
              refine WC.regionD ([(1, ⟨g4774, 2, none⟩, (.slice A5143 l5145.length c5144)), (3, ⟨g4746, 2, none⟩, (.slice A_p0_Cells p0.Cells.length c_p0_Cells)), (6, ⟨g4746, 0, none⟩, (.int .i64 p0.Width)), (11, ((adr A_p0_Cells).add ((w64 ((w64 (t5157.2 * p0.Width)) + t5157.1)).toNat * 1)), (.int .i64 (rdD p0.Cells (w64 ((w64 (t5157.2 * p0.Width)) + t5157.1)) 0)))], [0, 1, 2, 3, 4, 5, 6, 7, 8, 9, 10, 11, 14], [[], [0], [], [2], [], [], [5], [4, 5, 6], [], [4, 5, 6, 7, 8], [2, 3, 4, 5, 6, 7, 8, 9], [2, 3, 4, 5, 6, 7, 8, 9, 10], [2, 3, 4, 5, 6, 7, 8, 9, 10, 11], [0, 1, 2, 3, 4, 5, 6, 7, 8, 9, 10, 11, 12], [0, 1, 2, 3, 4, 5, 6, 7, 8, 9, 10, 11, 12, 13], [0, 1, 2, 3, 4, 5, 6, 7, 8, 9, 10, 11, 12, 13, 14]]) [[0, 1, 2, 3, 4, 5, 6, 7, 8, 9, 10, 11, 12, 13, 14, 15]] (by kernel_rfl) (by kernel_rfl) (NoPanic.block (NoPanic.seq (NoPanic.seq (NoPanic.block (NoPanic.block (NoPanic.seq (NoPanic.seq (NoPanic.block (NoPanic.seq (NoPanic.body)))))))))) ?_
              have hS5176 := hS5161.drew
              revert hS5176
              generalize World.drew w5159 = w5175
              intro hS5176
              refine ⟨⟨hS5176.cell 3 rfl 2 rfl, hS5176.cell 0 rfl 2 rfl, hS5176.cell 0 rfl 0 rfl, rowR.cell (hS5176.rd 0).1 0 h5178.1 h5178.2 0 rfl, trivial⟩, forallC ?_ (forallN)⟩
              refine segF 12 [.v (.slice A5143 l5145.length c5144), .v (.slice A_p0_Cells p0.Cells.length c_p0_Cells), .v (.int .i64 p0.Width), .v (.int .i64 (rdD p0.Cells (w64 ((w64 (t5157.2 * p0.Width)) + t5157.1)) 0))] [2, 4, 6, 7, 8, 32, 33, 37, 38, 51, 61] [(2, (.pointer (some ⟨g4746, 0, none⟩))), (4, (.pointer (some ⟨g4750, 0, none⟩))), (6, (.pointer (some ⟨g4768, 0, none⟩))), (7, (.pointer (some ⟨g4774, 0, none⟩))), (8, (.int .i64 x5058)), (32, (.int .i64 t4778.2)), (33, (.int .i64 x5058)), (37, (.int .i64 t4778.1)), (38, (.int .i64 x5146)), (51, (.slice A5143 l5145.length c5144)), (61, (.int .i64 (rdD p0.Cells (w64 ((w64 (t5157.2 * p0.Width)) + t5157.1)) 0)))] [.idx A_p0_Cells (w64 ((w64 (t5157.2 * p0.Width)) + t5157.1)) p0.Cells.length] [0, 1, 2, 3] [(1, ⟨g4774, 2, none⟩, (.slice A5143 l5145.length c5144)), (3, ⟨g4746, 2, none⟩, (.slice A_p0_Cells p0.Cells.length c_p0_Cells)), (6, ⟨g4746, 0, none⟩, (.int .i64 p0.Width)), (11, ((adr A_p0_Cells).add ((w64 ((w64 (t5157.2 * p0.Width)) + t5157.1)).toNat * 1)), (.int .i64 (rdD p0.Cells (w64 ((w64 (t5157.2 * p0.Width)) + t5157.1)) 0)))] (fun fb => by kernel_rfl) rfl ⟨rowR.adr (hS5176.rd 0).1 h5178.1 h5178.2, trivial⟩ rfl ?_
              refine WL.new hS5176 62 [] (fun g => (.slice (some ⟨g, 0, none⟩) 1 1)) (.cells #[(.int .i64 (rdD p0.Cells (w64 ((w64 (t5157.2 * p0.Width)) + t5157.1)) 0))] 3 (0, 0)) [] (fun fb g => by kernel_rfl) trivial (fun g5179 w5180 hS5181 => ?_)
              refine ⟨⟨hS5181.cell 4 rfl 2 rfl, trivial⟩, ?_⟩
              have hS5183 : St NoS w w5180 [rowR encInt A_p0_Cells c_p0_Cells p0.Cells] [rowO 3 encInt (some ⟨g5179, 0, none⟩) 1 [(rdD p0.Cells (w64 ((w64 (t5157.2 * p0.Width)) + t5157.1)) 0)], blk g4746 (.cells #[(.int .i64 p0.Width), (.int .i64 p0.Height), (.slice A_p0_Cells p0.Cells.length c_p0_Cells)] 35 (0, 0)), blk g4750 (.cells #[(.int .i64 0), (.int .i64 0), (.slice none 0 0)] 35 (0, 0)), blk g4768 (.cells #[(.func (.func 84) #[] #[]), (.func (.func 85) #[] #[]), (.func (.func 86) #[] #[])] 83 (0, 0)), blk g4774 (.cells #[(.int .i64 t4778.1), (.int .i64 t4778.2), (.slice A5143 l5145.length c5144)] 35 (0, 0)), rowO 3 encInt A5143 c5144 l5145] := hS5181.map1 0 _ (fun h => rowO.ofBlk h rfl (Nat.le_of_ble_eq_true (by kernel_rfl))) (fun _ h => by obtain ⟨_, h1, h2⟩ := h; injection h1 with h1; subst h1; exact h2) [1, 2, 3, 4, 5] (by decide) (by decide)
              obtain ⟨h5184, hl5155⟩ := as_some hl5155
              refine WL.append hS5183 5 (d := 63) (tS := 33) (z := (.int .i64 0)) (bytes := 8) (c2 := 1) rfl (fun fb => by kernel_rfl) (rowO.rd (hS5183.own 0).1) (by kernel_rfl) (by kernel_rfl) rfl (by decide) h5184 (by decide) [0, 1, 2, 3, 4] (by decide) (by decide) (fun A5185 c5186 w5187 hS5188 => ?_)
              refine ⟨trivial, ?_⟩
              refine seg 15 [] [2, 4, 6, 7, 8, 32, 33, 37, 38, 63, 64] [(2, (.pointer (some ⟨g4746, 0, none⟩))), (4, (.pointer (some ⟨g4750, 0, none⟩))), (6, (.pointer (some ⟨g4768, 0, none⟩))), (7, (.pointer (some ⟨g4774, 0, none⟩))), (8, (.int .i64 x5058)), (32, (.int .i64 t4778.2)), (33, (.int .i64 x5058)), (37, (.int .i64 t4778.1)), (38, (.int .i64 x5146)), (63, (.slice A5185 (l5145 ++ [(rdD p0.Cells (w64 ((w64 (t5157.2 * p0.Width)) + t5157.1)) 0)]).length c5186)), (64, (.pointer (some ⟨g4774, 2, none⟩)))] [] (fun fb => by kernel_rfl) rfl trivial ?_
              refine WL.store hS5188 5 rfl [(2, (.slice A5185 (l5145 ++ [(rdD p0.Cells (w64 ((w64 (t5157.2 * p0.Width)) + t5157.1)) 0)]).length c5186))] #[(.int .i64 t4778.1), (.int .i64 t4778.2), (.slice A5185 (l5145 ++ [(rdD p0.Cells (w64 ((w64 (t5157.2 * p0.Width)) + t5157.1)) 0)]).length c5186)] (fun fb => by kernel_rfl) (by kernel_rfl) rfl [0, 1, 2, 3, 4] (by decide) (by decide) (fun w5189 hS5190 => ?_)
              refine ⟨trivial, ?_⟩
              refine WL.done rfl ?_
              refine WX.blockN (WX.next ?_)
              refine WC.region ?_
              refine seg 2 [] [2, 4, 6, 7, 8, 32, 33, 37, 38] [(2, (.pointer (some ⟨g4746, 0, none⟩))), (4, (.pointer (some ⟨g4750, 0, none⟩))), (6, (.pointer (some ⟨g4768, 0, none⟩))), (7, (.pointer (some ⟨g4774, 0, none⟩))), (8, (.int .i64 x5058)), (32, (.int .i64 t4778.2)), (33, (.int .i64 x5058)), (37, (.int .i64 t4778.1)), (38, (.int .i64 (w64 (x5146 + 1))))] [] (fun fb => by kernel_rfl) rfl trivial ?_
              refine WL.done rfl ?_
              exact WX.again k5152 (Nat.lt_succ_self _) ((l5145 ++ [(rdD p0.Cells (w64 ((w64 (t5157.2 * p0.Width)) + t5157.1)) 0)], w64 (x5146 + 1)), A5185, c5186) [2, 4, 6, 7, 8, 32, 33, 37, 38] rfl ⟨(hS5190.subR [0]).sub [3, 4, 5, 0, 1] (by decide), hl5155⟩
            refine WC.condF2 (fun fb => by kernel_rfl) h5156 ?_
            refine WC.exit ?_
            injection hl5155 with hl5155
            exact WX.thenX (WX.thenX (WX.blockHere (WX.to Kx5150 (l5145, A5143, c5144) [2, 4, 6, 7, 32, 33] rfl ⟨(hS5154.subR [0]).sub [0, 1, 2, 3, 4] (by decide), hl5155.symm⟩)))
        rintro ⟨y5194, A5147, c5148⟩ w5191 ⟨hS5192, hq5193⟩
        subst hq5193
        refine WX.blockN (WX.next ?_)
        refine WC.region ?_
        refine seg 2 [] [2, 4, 6, 7, 32, 33] [(2, (.pointer (some ⟨g4746, 0, none⟩))), (4, (.pointer (some ⟨g4750, 0, none⟩))), (6, (.pointer (some ⟨g4768, 0, none⟩))), (7, (.pointer (some ⟨g4774, 0, none⟩))), (32, (.int .i64 t4778.2)), (33, (.int .i64 (w64 (x5058 + 1))))] [] (fun fb => by kernel_rfl) rfl trivial ?_
        refine WL.done rfl ?_
        exact WX.again k5064 (Nat.lt_succ_self _) ((x5150, w64 (x5058 + 1)), A5147, c5148) [2, 4, 6, 7, 32, 33] rfl ⟨(hS5192.subR [0]).sub [0, 1, 2, 3, 4] (by decide), hl5067⟩
      refine WC.condF2 (fun fb => by kernel_rfl) h5068 ?_
      refine WC.exit ?_
      injection hl5067 with hl5067
      exact WX.thenX (WX.thenX (WX.blockHere (WX.to Kx5062 (l5057, A5055, c5056) [4, 7] rfl ⟨(hS5066.subR [0]).sub [1, 3, 4] (by decide), hl5067.symm⟩)))
  rintro ⟨y5198, A5059, c5060⟩ w5195 ⟨hS5196, hq5197⟩
  subst hq5197
  refine WX.next ?_
  refine WC.seq ?_
  refine WC.region ?_
  refine seg 1 [.v (.int .i64 t4778.1), .v (.int .i64 t4778.2), .v (.slice A5059 x5062.length c5060)] [4, 67] [(4, (.pointer (some ⟨g4750, 0, none⟩))), (67, (.agg #[(.int .i64 t4778.1), (.int .i64 t4778.2), (.slice A5059 x5062.length c5060)]))] [.cell ⟨g4774, 0, none⟩ (.int .i64 t4778.1), .cell ⟨g4774, 1, none⟩ (.int .i64 t4778.2), .cell ⟨g4774, 2, none⟩ (.slice A5059 x5062.length c5060)] (fun fb => by kernel_rfl) rfl ⟨hS5196.cell 1 rfl 0 rfl, hS5196.cell 1 rfl 1 rfl, hS5196.cell 1 rfl 2 rfl, trivial⟩ ?_
  refine WL.store hS5196 0 rfl [(0, (.int .i64 t4778.1)), (1, (.int .i64 t4778.2)), (2, (.slice A5059 x5062.length c5060))] #[(.int .i64 t4778.1), (.int .i64 t4778.2), (.slice A5059 x5062.length c5060)] (fun fb => by kernel_rfl) (by kernel_rfl) rfl [1, 2] (by decide) (by decide) (fun w5199 hS5200 => ?_)
  refine ⟨trivial, ?_⟩
  refine seg 3 [] [4, 5] [(4, (.pointer (some ⟨g4750, 0, none⟩))), (5, (.int .i64 0))] [] (fun fb => by kernel_rfl) rfl trivial ?_
  refine WL.done rfl ?_
  refine WX.next ?_
  refine WC.ret ?_
  injection hf with hf
  subst hf
  exact WX.ret_ [.v (.int .i64 t4778.1), .v (.int .i64 t4778.2), .v (.slice A5059 x5062.length c5060)] (.tuple #[(.agg #[(.int .i64 t4778.1), (.int .i64 t4778.2), (.slice A5059 x5062.length c5060)]), (.int .i64 0)]) [.cell ⟨g4750, 0, none⟩ (.int .i64 t4778.1), .cell ⟨g4750, 1, none⟩ (.int .i64 t4778.2), .cell ⟨g4750, 2, none⟩ (.slice A5059 x5062.length c5060)] (fun fb => by kernel_rfl) ⟨hS5200.cell 0 rfl 0 rfl, hS5200.cell 0 rfl 1 rfl, hS5200.cell 0 rfl 2 rfl, trivial⟩ ⟨_, rfl, A5059, c5060, rfl, (hS5200.sub [2] (by decide)).noR⟩
theorem tile_TurnPattern_calls (k : Nat) (p0 : Pattern) (A_p0_Cells : Option Addr) (c_p0_Cells : Nat) (r : Pattern × Int) (w : World) (hR0 : RO NoS w (rowR encInt A_p0_Cells c_p0_Cells p0.Cells)) (hf : tile_TurnPattern k p0 = some r) :
    CallsR Tryd.prog 30 #[(.agg #[(.int .i64 p0.Width), (.int .i64 p0.Height), (.slice A_p0_Cells p0.Cells.length c_p0_Cells)])] w (fun v w' => ∃ (A1_ : Option Addr), ∃ (c1_ : Nat), v = (.tuple #[(.agg #[(.int .i64 r.1.Width), (.int .i64 r.1.Height), (.slice A1_ r.1.Cells.length c1_)]), (.int .i64 r.2)]) ∧ St NoS w w' [] [rowO 3 encInt A1_ c1_ r.1.Cells]) := by
  have hS : St NoS w w [rowR encInt A_p0_Cells c_p0_Cells p0.Cells] [] := St.init (ro_cons hR0 (ro_nil _ _))
  refine enter 8 Tryd.func30 rfl Tryd.ntmps30 rfl ?_
  unfold tile_TurnPattern at hf
  refine WC.seq ?_
  refine WC.region ?_
  refine WL.new hS 1 [] (fun g => (.pointer (some ⟨g, 0, none⟩))) (.cells #[(.int .i64 p0.Width), (.int .i64 p0.Height), (.slice A_p0_Cells p0.Cells.length c_p0_Cells)] 35 (0, 0)) [] (fun fb g => by kernel_rfl) trivial (fun g4738 w4739 hS4740 => ?_)
  refine ⟨trivial, ?_⟩
  refine WL.new hS4740 2 [] (fun g => (.pointer (some ⟨g, 0, none⟩))) (.cells #[(.int .i64 0), (.int .i64 0), (.slice none 0 0)] 35 (0, 0)) [] (fun fb g => by kernel_rfl) trivial (fun g4742 w4743 hS4744 => ?_)
  refine ⟨trivial, ?_⟩
  refine seg 3 [] [1, 2] [(1, (.pointer (some ⟨g4738, 0, none⟩))), (2, (.pointer (some ⟨g4742, 0, none⟩)))] [] (fun fb => by kernel_rfl) rfl trivial ?_
  refine WL.done rfl ?_
  refine WX.next ?_
  refine WC.seq ?_
  refine WC.region ?_
  refine seg 1 [.v (.int .i64 p0.Width), .v (.int .i64 p0.Height), .v (.slice A_p0_Cells p0.Cells.length c_p0_Cells)] [2, 4] [(2, (.pointer (some ⟨g4742, 0, none⟩))), (4, (.agg #[(.int .i64 p0.Width), (.int .i64 p0.Height), (.slice A_p0_Cells p0.Cells.length c_p0_Cells)]))] [.cell ⟨g4738, 0, none⟩ (.int .i64 p0.Width), .cell ⟨g4738, 1, none⟩ (.int .i64 p0.Height), .cell ⟨g4738, 2, none⟩ (.slice A_p0_Cells p0.Cells.length c_p0_Cells)] (fun fb => by kernel_rfl) rfl ⟨hS4744.cell 1 rfl 0 rfl, hS4744.cell 1 rfl 1 rfl, hS4744.cell 1 rfl 2 rfl, trivial⟩ ?_
  obtain ⟨t5201, ht5202, hf⟩ := bind_some hf
  refine WL.call (some 5) 53 #[(.agg #[(.int .i64 p0.Width), (.int .i64 p0.Height), (.slice A_p0_Cells p0.Cells.length c_p0_Cells)]), (.int .i64 2)] (fun fb => by kernel_rfl) (tile_changedPattern_at2_calls _ p0 A_p0_Cells c_p0_Cells t5201 _ (hS4744.rd 0) ht5202) (fun v w5203 hR5204 => ?_)
  obtain ⟨A5206, c5207, rfl, hk_⟩ := hR5204
  have hS5205 : St NoS w w5203 [rowR encInt A_p0_Cells c_p0_Cells p0.Cells] [rowO 3 encInt A5206 c5207 t5201.1.Cells, blk g4742 (.cells #[(.int .i64 0), (.int .i64 0), (.slice none 0 0)] 35 (0, 0)), blk g4738 (.cells #[(.int .i64 p0.Width), (.int .i64 p0.Height), (.slice A_p0_Cells p0.Cells.length c_p0_Cells)] 35 (0, 0))] := hS4744.call hk_ [] [0, 1] (fun g hg => hg.elim) (by simp) (by decide)
  refine ⟨trivial, ?_⟩
  refine seg 4 [] [2, 6, 7] [(2, (.pointer (some ⟨g4742, 0, none⟩))), (6, (.agg #[(.int .i64 t5201.1.Width), (.int .i64 t5201.1.Height), (.slice A5206 t5201.1.Cells.length c5207)])), (7, (.int .i64 t5201.2))] [] (fun fb => by kernel_rfl) rfl trivial ?_
  refine WL.store hS5205 1 rfl [(0, (.int .i64 t5201.1.Width)), (1, (.int .i64 t5201.1.Height)), (2, (.slice A5206 t5201.1.Cells.length c5207))] #[(.int .i64 t5201.1.Width), (.int .i64 t5201.1.Height), (.slice A5206 t5201.1.Cells.length c5207)] (fun fb => by kernel_rfl) (by kernel_rfl) rfl [0, 2] (by decide) (by decide) (fun w5208 hS5209 => ?_)
  refine ⟨trivial, ?_⟩
  refine seg 6 [] [2, 3] [(2, (.pointer (some ⟨g4742, 0, none⟩))), (3, (.int .i64 t5201.2))] [] (fun fb => by kernel_rfl) rfl trivial ?_
  refine WL.done rfl ?_
  refine WX.next ?_
  refine WC.ret ?_
  injection hf with hf
  subst hf
  exact WX.ret_ [.v (.int .i64 t5201.1.Width), .v (.int .i64 t5201.1.Height), .v (.slice A5206 t5201.1.Cells.length c5207)] (.tuple #[(.agg #[(.int .i64 t5201.1.Width), (.int .i64 t5201.1.Height), (.slice A5206 t5201.1.Cells.length c5207)]), (.int .i64 t5201.2)]) [.cell ⟨g4742, 0, none⟩ (.int .i64 t5201.1.Width), .cell ⟨g4742, 1, none⟩ (.int .i64 t5201.1.Height), .cell ⟨g4742, 2, none⟩ (.slice A5206 t5201.1.Cells.length c5207)] (fun fb => by kernel_rfl) ⟨hS5209.cell 0 rfl 0 rfl, hS5209.cell 0 rfl 1 rfl, hS5209.cell 0 rfl 2 rfl, trivial⟩ ⟨_, rfl, A5206, c5207, rfl, (hS5209.sub [1] (by decide)).noR⟩
theorem ref01_SameSet_calls (k : Nat) (p0 : List Tile) (p1 : List Tile) (A_p0 : Option Addr) (c_p0 : Nat) (A_p1 : Option Addr) (c_p1 : Nat) (r : Bool) (w : World) (hR0 : RO NoS w (rowR enc_Tile A_p0 c_p0 p0)) (hR1 : RO NoS w (rowR enc_Tile A_p1 c_p1 p1)) (hf : ref01_SameSet k p0 p1 = some r) :
    CallsR Tryd.prog 12 #[(.slice A_p0 p0.length c_p0), (.slice A_p1 p1.length c_p1)] w (fun v w' => v = (.bool r) ∧ Keeps NoS w w') := by
  have hS : St NoS w w [rowR enc_Tile A_p0 c_p0 p0, rowR enc_Tile A_p1 c_p1 p1] [] := St.init (ro_cons hR0 (ro_cons hR1 (ro_nil _ _)))
  refine enter 26 Tryd.func12 rfl Tryd.ntmps12 rfl ?_
  unfold ref01_SameSet at hf
  refine WC.seq ?_
  refine WC.region ?_
  refine seg 1 [] [0, 1] [(0, (.slice A_p0 p0.length c_p0)), (1, (.slice A_p1 p1.length c_p1))] [] (fun fb => by kernel_rfl) rfl trivial ?_
  refine WL.done rfl ?_
  refine WX.next ?_
  refine WC.seq ?_
  refine WC.seq ?_
  refine WC.region ?_
  refine seg 5 [] [0, 1, 10] [(0, (.slice A_p0 p0.length c_p0)), (1, (.slice A_p1 p1.length c_p1)), (10, (.bool ((p0.length : Int) != (p1.length : Int))))] [] (fun fb => by kernel_rfl) rfl trivial ?_
  refine WL.done rfl ?_
  refine WX.next ?_
  rcases br_some hf with ⟨h5445, hf⟩ | ⟨h5445, hf⟩
  · refine WC.condT2 (fun fb => by kernel_rfl) h5445 ?_
    refine WC.seq ?_
    refine WC.region ?_
    refine seg 1 [] [4] [(4, (.bool false))] [] (fun fb => by kernel_rfl) rfl trivial ?_
    refine WL.done rfl ?_
    refine WX.next ?_
    refine WC.ret ?_
    injection hf with hf
    subst hf
    exact WX.thenR (WX.ret_ [] (.bool false) [] (fun fb => by kernel_rfl) trivial ⟨_, rfl, rfl, hS.keep⟩)
  refine WC.condF2 (fun fb => by kernel_rfl) h5445 ?_
  refine WC.skip ?_
  refine WX.next ?_
  refine WC.seq ?_
  refine WC.seq ?_
  refine WC.region ?_
  refine seg 1 [] [0, 1, 5] [(0, (.slice A_p0 p0.length c_p0)), (1, (.slice A_p1 p1.length c_p1)), (5, (.int .i64 0))] [] (fun fb => by kernel_rfl) rfl trivial ?_
  refine WL.done rfl ?_
  refine WX.next ?_
  obtain ⟨x5468, hx5469, hf⟩ := bind_some hf
  refine WC.cutN (T := Unit) (fun t => []) (fun t w1 => St NoS w w1 [rowR enc_Tile A_p0 c_p0 p0, rowR enc_Tile A_p1 c_p1 p1] [] ∧ x5468 = .inr t) (fun Kx5468 => ?_) ?_
  ·
    refine WC.block ?_
    refine WC.loop (T := Int) (fun t => [(0, (.slice A_p0 p0.length c_p0)), (1, (.slice A_p1 p1.length c_p1)), (5, (.int .i64 t))]) (fun n t w1 => St NoS w w1 [rowR enc_Tile A_p0 c_p0 p0, rowR enc_Tile A_p1 c_p1 p1] [] ∧ ref01_SameSet.l0 n t p0 p1 = some x5468) k 0 [0, 1, 5] rfl ⟨(hS.subR [0, 1]).sub [] (by decide), hx5469⟩ ?_
    rintro k5470 x5467 w5471 ⟨hS5472, hl5473⟩
    cases k5470 with
    | zero => rw [ref01_SameSet.l0] at hl5473; cases hl5473
    | succ k5470 =>
      rw [ref01_SameSet.l0] at hl5473
      refine WC.seq ?_
      refine WC.seq ?_
      refine WC.region ?_
      refine seg 4 [] [0, 1, 5, 14] [(0, (.slice A_p0 p0.length c_p0)), (1, (.slice A_p1 p1.length c_p1)), (5, (.int .i64 x5467)), (14, (.bool (decide (x5467 < (p0.length : Int)))))] [] (fun fb => by kernel_rfl) rfl trivial ?_
      refine WL.done rfl ?_
      refine WX.next ?_
      rcases br_some hl5473 with ⟨h5474, hl5473⟩ | ⟨h5474, hl5473⟩
      · refine WC.condT2 (fun fb => by kernel_rfl) h5474 ?_
        refine WC.skip ?_
        refine WX.next ?_
        refine WC.seq ?_
        refine WC.block ?_
        refine WC.seq ?_
        obtain ⟨h5481, hl5473⟩ := as_some hl5473
        obtain ⟨h5482, hl5473⟩ := as_some hl5473
        refine WC.regionD ([(3, ((adr A_p0).add ((x5467).toNat * 4)), (.int .i64 ((rdD p0 x5467 z_Tile).N))), (3, (((adr A_p0).add ((x5467).toNat * 4)).add 1), (.int .i64 ((rdD p0 x5467 z_Tile).E))), (3, (((adr A_p0).add ((x5467).toNat * 4)).add 2), (.int .i64 ((rdD p0 x5467 z_Tile).S))), (3, (((adr A_p0).add ((x5467).toNat * 4)).add 3), (.int .i64 ((rdD p0 x5467 z_Tile).W))), (7, ((adr A_p1).add ((x5467).toNat * 4)), (.int .i64 ((rdD p1 x5467 z_Tile).N))), (7, (((adr A_p1).add ((x5467).toNat * 4)).add 1), (.int .i64 ((rdD p1 x5467 z_Tile).E))), (7, (((adr A_p1).add ((x5467).toNat * 4)).add 2), (.int .i64 ((rdD p1 x5467 z_Tile).S))), (7, (((adr A_p1).add ((x5467).toNat * 4)).add 3), (.int .i64 ((rdD p1 x5467 z_Tile).W)))], [0, 1, 2, 3, 4, 5, 6, 7, 8], [[], [], [0, 1], [0, 1, 2], [], [], [4, 5], [4, 5, 6], [0, 1, 2, 3, 4, 5, 6, 7]]) [[0, 1, 2, 3, 4, 5, 6, 7, 8]] (by kernel_rfl) (by kernel_rfl) (NoPanic.seq (NoPanic.block (NoPanic.seq (NoPanic.seq (NoPanic.block (NoPanic.seq (NoPanic.body))))))) ?_
        have hS5478 := hS5472.drew
        revert hS5478
        generalize World.drew w5471 = w5477
        intro hS5478
        refine ⟨⟨rowR.cell (hS5478.rd 0).1 z_Tile h5481.1 h5481.2 0 rfl, rowR.cell (hS5478.rd 0).1 z_Tile h5481.1 h5481.2 1 rfl, rowR.cell (hS5478.rd 0).1 z_Tile h5481.1 h5481.2 2 rfl, rowR.cell (hS5478.rd 0).1 z_Tile h5481.1 h5481.2 3 rfl, rowR.cell (hS5478.rd 1).1 z_Tile h5482.1 h5482.2 0 rfl, rowR.cell (hS5478.rd 1).1 z_Tile h5482.1 h5482.2 1 rfl, rowR.cell (hS5478.rd 1).1 z_Tile h5482.1 h5482.2 2 rfl, rowR.cell (hS5478.rd 1).1 z_Tile h5482.1 h5482.2 3 rfl, trivial⟩, forallC ?_ (forallN)⟩
        refine segF 9 [.v (.int .i64 ((rdD p0 x5467 z_Tile).N)), .v (.int .i64 ((rdD p0 x5467 z_Tile).E)), .v (.int .i64 ((rdD p0 x5467 z_Tile).S)), .v (.int .i64 ((rdD p0 x5467 z_Tile).W)), .v (.int .i64 ((rdD p1 x5467 z_Tile).N)), .v (.int .i64 ((rdD p1 x5467 z_Tile).E)), .v (.int .i64 ((rdD p1 x5467 z_Tile).S)), .v (.int .i64 ((rdD p1 x5467 z_Tile).W))] [0, 1, 5, 25] [(0, (.slice A_p0 p0.length c_p0)), (1, (.slice A_p1 p1.length c_p1)), (5, (.int .i64 x5467)), (25, (.bool (!(((rdD p0 x5467 z_Tile).N) == ((rdD p1 x5467 z_Tile).N) && (((rdD p0 x5467 z_Tile).E) == ((rdD p1 x5467 z_Tile).E) && (((rdD p0 x5467 z_Tile).S) == ((rdD p1 x5467 z_Tile).S) && (((rdD p0 x5467 z_Tile).W) == ((rdD p1 x5467 z_Tile).W))))))))] [.idx A_p0 x5467 p0.length, .idx A_p1 x5467 p1.length] [0, 1, 2, 3, 4, 5, 6, 7] [(3, ((adr A_p0).add ((x5467).toNat * 4)), (.int .i64 ((rdD p0 x5467 z_Tile).N))), (3, (((adr A_p0).add ((x5467).toNat * 4)).add 1), (.int .i64 ((rdD p0 x5467 z_Tile).E))), (3, (((adr A_p0).add ((x5467).toNat * 4)).add 2), (.int .i64 ((rdD p0 x5467 z_Tile).S))), (3, (((adr A_p0).add ((x5467).toNat * 4)).add 3), (.int .i64 ((rdD p0 x5467 z_Tile).W))), (7, ((adr A_p1).add ((x5467).toNat * 4)), (.int .i64 ((rdD p1 x5467 z_Tile).N))), (7, (((adr A_p1).add ((x5467).toNat * 4)).add 1), (.int .i64 ((rdD p1 x5467 z_Tile).E))), (7, (((adr A_p1).add ((x5467).toNat * 4)).add 2), (.int .i64 ((rdD p1 x5467 z_Tile).S))), (7, (((adr A_p1).add ((x5467).toNat * 4)).add 3), (.int .i64 ((rdD p1 x5467 z_Tile).W)))] (fun fb => by kernel_rfl) rfl ⟨rowR.adr (hS5478.rd 0).1 h5481.1 h5481.2, rowR.adr (hS5478.rd 1).1 h5482.1 h5482.2, trivial⟩ rfl ?_
        refine WL.done rfl ?_
        refine WX.next ?_
        rcases br_some hl5473 with ⟨h5483, hl5473⟩ | ⟨h5483, hl5473⟩
        · refine WC.condT2 (fun fb => by kernel_rfl) h5483 ?_
          refine WC.seq ?_
          refine WC.region ?_
          refine seg 1 [] [4] [(4, (.bool false))] [] (fun fb => by kernel_rfl) rfl trivial ?_
          refine WL.done rfl ?_
          refine WX.next ?_
          refine WC.ret ?_
          injection hl5473 with hl5473
          subst hl5473
          injection hf with hf
          subst hf
          exact WX.blockR (WX.thenR (WX.thenR (WX.blockR (WX.thenR (WX.ret_ [] (.bool false) [] (fun fb => by kernel_rfl) trivial ⟨_, rfl, rfl, hS5478.keep⟩)))))
        refine WC.condF2 (fun fb => by kernel_rfl) h5483 ?_
        refine WC.skip ?_
        refine WX.blockN (WX.next ?_)
        refine WC.region ?_
        refine seg 3 [] [0, 1, 5] [(0, (.slice A_p0 p0.length c_p0)), (1, (.slice A_p1 p1.length c_p1)), (5, (.int .i64 (w64 (x5467 + 1))))] [] (fun fb => by kernel_rfl) rfl trivial ?_
        refine WL.done rfl ?_
        exact WX.again k5470 (Nat.lt_succ_self _) (w64 (x5467 + 1)) [0, 1, 5] rfl ⟨(hS5478.subR [0, 1]).sub [] (by decide), hl5473⟩
      refine WC.condF2 (fun fb => by kernel_rfl) h5474 ?_
      refine WC.exit ?_
      injection hl5473 with hl5473
      exact WX.thenX (WX.thenX (WX.blockHere (WX.to Kx5468 () [] rfl ⟨(hS5472.subR [0, 1]).sub [] (by decide), hl5473.symm⟩)))
  rintro y5487 w5484 ⟨hS5485, hq5486⟩
  subst hq5486
  have hf := sum_inr hf
  refine WX.next ?_
  refine WC.seq ?_
  refine WC.region ?_
  refine seg 1 [] [4] [(4, (.bool true))] [] (fun fb => by kernel_rfl) rfl trivial ?_
  refine WL.done rfl ?_
  refine WX.next ?_
  refine WC.ret ?_
  injection hf with hf
  subst hf
  exact WX.ret_ [] (.bool true) [] (fun fb => by kernel_rfl) trivial ⟨_, rfl, rfl, hS5485.keep⟩
theorem ref01_Same_calls (k : Nat) (p0 : List Int) (p1 : List Int) (A_p0 : Option Addr) (c_p0 : Nat) (A_p1 : Option Addr) (c_p1 : Nat) (r : Bool) (w : World) (hR0 : RO NoS w (rowR encInt A_p0 c_p0 p0)) (hR1 : RO NoS w (rowR encInt A_p1 c_p1 p1)) (hf : ref01_Same k p0 p1 = some r) :
    CallsR Tryd.prog 56 #[(.slice A_p0 p0.length c_p0), (.slice A_p1 p1.length c_p1)] w (fun v w' => v = (.bool r) ∧ Keeps NoS w w') := by
  have hS : St NoS w w [rowR encInt A_p0 c_p0 p0, rowR encInt A_p1 c_p1 p1] [] := St.init (ro_cons hR0 (ro_cons hR1 (ro_nil _ _)))
  refine enter 26 Tryd.func56 rfl Tryd.ntmps56 rfl ?_
  unfold ref01_Same at hf
  refine WC.seq ?_
  refine WC.region ?_
  refine seg 1 [] [0, 1] [(0, (.slice A_p0 p0.length c_p0)), (1, (.slice A_p1 p1.length c_p1))] [] (fun fb => by kernel_rfl) rfl trivial ?_
  refine WL.done rfl ?_
  refine WX.next ?_
  refine WC.seq ?_
  refine WC.seq ?_
  refine WC.region ?_
  refine seg 5 [] [0, 1, 10] [(0, (.slice A_p0 p0.length c_p0)), (1, (.slice A_p1 p1.length c_p1)), (10, (.bool ((p0.length : Int) != (p1.length : Int))))] [] (fun fb => by kernel_rfl) rfl trivial ?_
  refine WL.done rfl ?_
  refine WX.next ?_
  rcases br_some hf with ⟨h5504, hf⟩ | ⟨h5504, hf⟩
  · refine WC.condT2 (fun fb => by kernel_rfl) h5504 ?_
    refine WC.seq ?_
    refine WC.region ?_
    refine seg 1 [] [4] [(4, (.bool false))] [] (fun fb => by kernel_rfl) rfl trivial ?_
    refine WL.done rfl ?_
    refine WX.next ?_
    refine WC.ret ?_
    injection hf with hf
    subst hf
    exact WX.thenR (WX.ret_ [] (.bool false) [] (fun fb => by kernel_rfl) trivial ⟨_, rfl, rfl, hS.keep⟩)
  refine WC.condF2 (fun fb => by kernel_rfl) h5504 ?_
  refine WC.skip ?_
  refine WX.next ?_
  refine WC.seq ?_
  refine WC.seq ?_
  refine WC.region ?_
  refine seg 1 [] [0, 1, 5] [(0, (.slice A_p0 p0.length c_p0)), (1, (.slice A_p1 p1.length c_p1)), (5, (.int .i64 0))] [] (fun fb => by kernel_rfl) rfl trivial ?_
  refine WL.done rfl ?_
  refine WX.next ?_
  obtain ⟨x5527, hx5528, hf⟩ := bind_some hf
  refine WC.cutN (T := Unit) (fun t => []) (fun t w1 => St NoS w w1 [rowR encInt A_p0 c_p0 p0, rowR encInt A_p1 c_p1 p1] [] ∧ x5527 = .inr t) (fun Kx5527 => ?_) ?_
  ·
    refine WC.block ?_
    refine WC.loop (T := Int) (fun t => [(0, (.slice A_p0 p0.length c_p0)), (1, (.slice A_p1 p1.length c_p1)), (5, (.int .i64 t))]) (fun n t w1 => St NoS w w1 [rowR encInt A_p0 c_p0 p0, rowR encInt A_p1 c_p1 p1] [] ∧ ref01_Same.l0 n t p0 p1 = some x5527) k 0 [0, 1, 5] rfl ⟨(hS.subR [0, 1]).sub [] (by decide), hx5528⟩ ?_
    rintro k5529 x5526 w5530 ⟨hS5531, hl5532⟩
    cases k5529 with
    | zero => rw [ref01_Same.l0] at hl5532; cases hl5532
    | succ k5529 =>
      rw [ref01_Same.l0] at hl5532
      refine WC.seq ?_
      refine WC.seq ?_
      refine WC.region ?_
      refine seg 4 [] [0, 1, 5, 14] [(0, (.slice A_p0 p0.length c_p0)), (1, (.slice A_p1 p1.length c_p1)), (5, (.int .i64 x5526)), (14, (.bool (decide (x5526 < (p0.length : Int)))))] [] (fun fb => by kernel_rfl) rfl trivial ?_
      refine WL.done rfl ?_
      refine WX.next ?_
      rcases br_some hl5532 with ⟨h5533, hl5532⟩ | ⟨h5533, hl5532⟩
      · refine WC.condT2 (fun fb => by kernel_rfl) h5533 ?_
        refine WC.skip ?_
        refine WX.next ?_
        refine WC.seq ?_
        refine WC.block ?_
        refine WC.seq ?_
        obtain ⟨h5540, hl5532⟩ := as_some hl5532
        obtain ⟨h5541, hl5532⟩ := as_some hl5532
        refine WC.regionD ([(3, ((adr A_p0).add ((x5526).toNat * 1)), (.int .i64 (rdD p0 x5526 0))), (7, ((adr A_p1).add ((x5526).toNat * 1)), (.int .i64 (rdD p1 x5526 0)))], [0, 1, 2, 3, 4, 5, 6, 7, 8], [[], [], [0, 1], [0, 1, 2], [], [], [4, 5], [4, 5, 6], [0, 1, 2, 3, 4, 5, 6, 7]]) [[0, 1, 2, 3, 4, 5, 6, 7, 8]] (by kernel_rfl) (by kernel_rfl) (NoPanic.seq (NoPanic.block (NoPanic.seq (NoPanic.seq (NoPanic.block (NoPanic.seq (NoPanic.body))))))) ?_
        have hS5537 := hS5531.drew
        revert hS5537
        generalize World.drew w5530 = w5536
        intro hS5537
        refine ⟨⟨rowR.cell (hS5537.rd 0).1 0 h5540.1 h5540.2 0 rfl, rowR.cell (hS5537.rd 1).1 0 h5541.1 h5541.2 0 rfl, trivial⟩, forallC ?_ (forallN)⟩
        refine segF 9 [.v (.int .i64 (rdD p0 x5526 0)), .v (.int .i64 (rdD p1 x5526 0))] [0, 1, 5, 25] [(0, (.slice A_p0 p0.length c_p0)), (1, (.slice A_p1 p1.length c_p1)), (5, (.int .i64 x5526)), (25, (.bool ((rdD p0 x5526 0) != (rdD p1 x5526 0))))] [.idx A_p0 x5526 p0.length, .idx A_p1 x5526 p1.length] [0, 1] [(3, ((adr A_p0).add ((x5526).toNat * 1)), (.int .i64 (rdD p0 x5526 0))), (7, ((adr A_p1).add ((x5526).toNat * 1)), (.int .i64 (rdD p1 x5526 0)))] (fun fb => by kernel_rfl) rfl ⟨rowR.adr (hS5537.rd 0).1 h5540.1 h5540.2, rowR.adr (hS5537.rd 1).1 h5541.1 h5541.2, trivial⟩ rfl ?_
        refine WL.done rfl ?_
        refine WX.next ?_
        rcases br_some hl5532 with ⟨h5542, hl5532⟩ | ⟨h5542, hl5532⟩
        · refine WC.condT2 (fun fb => by kernel_rfl) h5542 ?_
          refine WC.seq ?_
          refine WC.region ?_
          refine seg 1 [] [4] [(4, (.bool false))] [] (fun fb => by kernel_rfl) rfl trivial ?_
          refine WL.done rfl ?_
          refine WX.next ?_
          refine WC.ret ?_
          injection hl5532 with hl5532
          subst hl5532
          injection hf with hf
          subst hf
          exact WX.blockR (WX.thenR (WX.thenR (WX.blockR (WX.thenR (WX.ret_ [] (.bool false) [] (fun fb => by kernel_rfl) trivial ⟨_, rfl, rfl, hS5537.keep⟩)))))
        refine WC.condF2 (fun fb => by kernel_rfl) h5542 ?_
        refine WC.skip ?_
        refine WX.blockN (WX.next ?_)
        refine WC.region ?_
        refine seg 3 [] [0, 1, 5] [(0, (.slice A_p0 p0.length c_p0)), (1, (.slice A_p1 p1.length c_p1)), (5, (.int .i64 (w64 (x5526 + 1))))] [] (fun fb => by kernel_rfl) rfl trivial ?_
        refine WL.done rfl ?_
        exact WX.again k5529 (Nat.lt_succ_self _) (w64 (x5526 + 1)) [0, 1, 5] rfl ⟨(hS5537.subR [0, 1]).sub [] (by decide), hl5532⟩
      refine WC.condF2 (fun fb => by kernel_rfl) h5533 ?_
      refine WC.exit ?_
      injection hl5532 with hl5532
      exact WX.thenX (WX.thenX (WX.blockHere (WX.to Kx5527 () [] rfl ⟨(hS5531.subR [0, 1]).sub [] (by decide), hl5532.symm⟩)))
  rintro y5546 w5543 ⟨hS5544, hq5545⟩
  subst hq5545
  have hf := sum_inr hf
  refine WX.next ?_
  refine WC.seq ?_
  refine WC.region ?_
  refine seg 1 [] [4] [(4, (.bool true))] [] (fun fb => by kernel_rfl) rfl trivial ?_
  refine WL.done rfl ?_
  refine WX.next ?_
  refine WC.ret ?_
  injection hf with hf
  subst hf
  exact WX.ret_ [] (.bool true) [] (fun fb => by kernel_rfl) trivial ⟨_, rfl, rfl, hS5544.keep⟩
theorem ref01_SamePattern_calls (k : Nat) (p0 : Pattern) (p1 : Pattern) (A_p0_Cells : Option Addr) (c_p0_Cells : Nat) (A_p1_Cells : Option Addr) (c_p1_Cells : Nat) (r : Bool) (w : World) (hR0 : RO NoS w (rowR encInt A_p0_Cells c_p0_Cells p0.Cells)) (hR1 : RO NoS w (rowR encInt A_p1_Cells c_p1_Cells p1.Cells)) (hf : ref01_SamePattern k p0 p1 = some r) :
    CallsR Tryd.prog 40 #[(.agg #[(.int .i64 p0.Width), (.int .i64 p0.Height), (.slice A_p0_Cells p0.Cells.length c_p0_Cells)]), (.agg #[(.int .i64 p1.Width), (.int .i64 p1.Height), (.slice A_p1_Cells p1.Cells.length c_p1_Cells)])] w (fun v w' => v = (.bool r) ∧ Keeps NoS w w') := by
  have hS : St NoS w w [rowR encInt A_p0_Cells c_p0_Cells p0.Cells, rowR encInt A_p1_Cells c_p1_Cells p1.Cells] [] := St.init (ro_cons hR0 (ro_cons hR1 (ro_nil _ _)))
  refine enter 24 Tryd.func40 rfl Tryd.ntmps40 rfl ?_
  unfold ref01_SamePattern at hf
  refine WC.seq ?_
  refine WC.region ?_
  refine WL.new hS 2 [] (fun g => (.pointer (some ⟨g, 0, none⟩))) (.cells #[(.int .i64 p0.Width), (.int .i64 p0.Height), (.slice A_p0_Cells p0.Cells.length c_p0_Cells)] 35 (0, 0)) [] (fun fb g => by kernel_rfl) trivial (fun g5494 w5495 hS5496 => ?_)
  refine ⟨trivial, ?_⟩
  refine WL.new hS5496 3 [] (fun g => (.pointer (some ⟨g, 0, none⟩))) (.cells #[(.int .i64 p1.Width), (.int .i64 p1.Height), (.slice A_p1_Cells p1.Cells.length c_p1_Cells)] 35 (0, 0)) [] (fun fb g => by kernel_rfl) trivial (fun g5498 w5499 hS5500 => ?_)
  refine ⟨trivial, ?_⟩
  refine seg 3 [] [2, 3] [(2, (.pointer (some ⟨g5494, 0, none⟩))), (3, (.pointer (some ⟨g5498, 0, none⟩)))] [] (fun fb => by kernel_rfl) rfl trivial ?_
  refine WL.done rfl ?_
  refine WX.next ?_
  refine WC.seq ?_
  refine WC.region ?_
  refine seg 6 [.v (.int .i64 p0.Width), .v (.int .i64 p1.Width)] [2, 3, 10] [(2, (.pointer (some ⟨g5494, 0, none⟩))), (3, (.pointer (some ⟨g5498, 0, none⟩))), (10, (.bool (p0.Width == p1.Width)))] [.cell ⟨g5494, 0, none⟩ (.int .i64 p0.Width), .cell ⟨g5498, 0, none⟩ (.int .i64 p1.Width)] (fun fb => by kernel_rfl) rfl ⟨hS5500.cell 1 rfl 0 rfl, hS5500.cell 0 rfl 0 rfl, trivial⟩ ?_
  refine WL.cutV (T := Bool) 12 (fun t => [(16, (.bool t)), (2, (.pointer (some ⟨g5494, 0, none⟩))), (3, (.pointer (some ⟨g5498, 0, none⟩)))]) (fun t => t = ((p0.Width == p1.Width) && (p0.Height == p1.Height))) (fun K => ?_) ?_
  ·
    rcases Bool.eq_false_or_eq_true (p0.Width == p1.Width) with h5502 | h5502
    ·
      refine WL.setB 10 h5502 rfl ?_
      refine seg 12 [.v (.int .i64 p0.Height), .v (.int .i64 p1.Height)] [2, 3, 16] [(2, (.pointer (some ⟨g5494, 0, none⟩))), (3, (.pointer (some ⟨g5498, 0, none⟩))), (16, (.bool (p0.Height == p1.Height)))] [.cell ⟨g5494, 1, none⟩ (.int .i64 p0.Height), .cell ⟨g5498, 1, none⟩ (.int .i64 p1.Height)] (fun fb => by kernel_rfl) rfl ⟨hS5500.cell 1 rfl 1 rfl, hS5500.cell 0 rfl 1 rfl, trivial⟩ ?_
      exact WL.toV K (p0.Height == p1.Height) [16, 2, 3] rfl (by first | (rw [h5502]; done) | (rw [h5502]; rfl))
    refine WL.setB 10 h5502 rfl ?_
    refine seg 12 [] [2, 3, 16] [(2, (.pointer (some ⟨g5494, 0, none⟩))), (3, (.pointer (some ⟨g5498, 0, none⟩))), (16, (.bool false))] [] (fun fb => by kernel_rfl) rfl trivial ?_
    exact WL.toV K false [16, 2, 3] rfl (by first | (rw [h5502]; done) | (rw [h5502]; rfl))
  rintro b5503 rfl
  refine seg 13 [] [2, 3, 17] [(2, (.pointer (some ⟨g5494, 0, none⟩))), (3, (.pointer (some ⟨g5498, 0, none⟩))), (17, (.bool ((p0.Width == p1.Width) && (p0.Height == p1.Height))))] [] (fun fb => by kernel_rfl) rfl trivial ?_
  obtain ⟨x5554, hx5555, hf⟩ := bind_some hf
  refine WL.cutW (T := Bool) 19 (fun t => [(23, (.bool t))]) (fun t w1 => (St NoS w w1 [rowR encInt A_p0_Cells c_p0_Cells p0.Cells, rowR encInt A_p1_Cells c_p1_Cells p1.Cells] [] ∧ x5554 = t) ∧ CellsOK [] w1) (fun K => ?_) ?_
  ·
    rcases br_some hx5555 with ⟨h5556, hx5555⟩ | ⟨h5556, hx5555⟩
    ·
      refine WL.setB 17 h5556 rfl ?_
      refine seg 17 [.v (.slice A_p0_Cells p0.Cells.length c_p0_Cells), .v (.slice A_p1_Cells p1.Cells.length c_p1_Cells)] [17, 19, 21] [(17, (.bool true)), (19, (.slice A_p0_Cells p0.Cells.length c_p0_Cells)), (21, (.slice A_p1_Cells p1.Cells.length c_p1_Cells))] [.cell ⟨g5494, 2, none⟩ (.slice A_p0_Cells p0.Cells.length c_p0_Cells), .cell ⟨g5498, 2, none⟩ (.slice A_p1_Cells p1.Cells.length c_p1_Cells)] (fun fb => by kernel_rfl) rfl ⟨hS5500.cell 1 rfl 2 rfl, hS5500.cell 0 rfl 2 rfl, trivial⟩ ?_
      obtain ⟨t5557, ht5558, hx5555⟩ := bind_some hx5555
      refine WL.call (some 22) 56 #[(.slice A_p0_Cells p0.Cells.length c_p0_Cells), (.slice A_p1_Cells p1.Cells.length c_p1_Cells)] (fun fb => by kernel_rfl) (ref01_Same_calls _ p0.Cells p1.Cells A_p0_Cells c_p0_Cells A_p1_Cells c_p1_Cells t5557 _ (hS5500.rd 0) (hS5500.rd 1) ht5558) (fun v w5559 hR5560 => ?_)
      obtain ⟨rfl, hk_⟩ := hR5560
      have hS5561 := hS5500.keepN hk_
      refine ⟨trivial, ?_⟩
      refine seg 19 [] [23] [(23, (.bool t5557))] [] (fun fb => by kernel_rfl) rfl trivial ?_
      injection hx5555 with hx5555
      exact WL.to K t5557 [23] rfl ⟨⟨(hS5561.subR [0, 1]).sub [] (by decide), hx5555.symm⟩, trivial⟩
    refine WL.setB 17 h5556 rfl ?_
    refine seg 19 [] [23] [(23, (.bool false))] [] (fun fb => by kernel_rfl) rfl trivial ?_
    injection hx5555 with hx5555
    exact WL.to K false [23] rfl ⟨⟨(hS5500.subR [0, 1]).sub [] (by decide), hx5555.symm⟩, trivial⟩
  rintro y5562 w5564 ⟨⟨hS5565, hq5563⟩, hF5566⟩
  subst hq5563
  refine seg 20 [] [4] [(4, (.bool x5554))] [] (fun fb => by kernel_rfl) rfl trivial ?_
  refine WL.done rfl ?_
  refine WX.next ?_
  refine WC.ret ?_
  injection hf with hf
  subst hf
  exact WX.ret_ [] (.bool x5554) [] (fun fb => by kernel_rfl) trivial ⟨_, rfl, rfl, hS5565.keep⟩
theorem tile_changes_1_calls (p0 : Tile)  (r : Tile) (w : World)  (hf : tile_changes_1 p0 = some r) :
    CallsR Tryd.prog 79 #[(.agg #[(.int .i64 p0.N), (.int .i64 p0.E), (.int .i64 p0.S), (.int .i64 p0.W)])] w (fun v w' => v = (.agg #[(.int .i64 r.N), (.int .i64 r.E), (.int .i64 r.S), (.int .i64 r.W)]) ∧ Keeps NoS w w') := by
  have hS : St NoS w w [] [] := St.init (ro_nil _ _)
  refine enter 12 Tryd.func79 rfl Tryd.ntmps79 rfl ?_
  unfold tile_changes_1 at hf
  refine WC.seq ?_
  refine WC.region ?_
  refine WL.new hS 1 [] (fun g => (.pointer (some ⟨g, 0, none⟩))) (.cells #[(.int .i64 p0.N), (.int .i64 p0.E), (.int .i64 p0.S), (.int .i64 p0.W)] 62 (0, 0)) [] (fun fb g => by kernel_rfl) trivial (fun g5608 w5609 hS5610 => ?_)
  refine ⟨trivial, ?_⟩
  refine WL.new hS5610 2 [] (fun g => (.pointer (some ⟨g, 0, none⟩))) (.cells #[(.int .i64 0), (.int .i64 0), (.int .i64 0), (.int .i64 0)] 62 (0, 0)) [] (fun fb g => by kernel_rfl) trivial (fun g5612 w5613 hS5614 => ?_)
  refine ⟨trivial, ?_⟩
  refine WL.done rfl ?_
  refine WX.next ?_
  refine WC.seq ?_
  refine WC.region ?_
  refine seg 9 [.v (.int .i64 p0.N), .v (.int .i64 p0.W), .v (.int .i64 p0.S), .v (.int .i64 p0.E)] [2, 11] [(2, (.pointer (some ⟨g5612, 0, none⟩))), (11, (.agg #[(.int .i64 p0.N), (.int .i64 p0.W), (.int .i64 p0.S), (.int .i64 p0.E)]))] [.cell ⟨g5608, 0, none⟩ (.int .i64 p0.N), .cell ⟨g5608, 3, none⟩ (.int .i64 p0.W), .cell ⟨g5608, 2, none⟩ (.int .i64 p0.S), .cell ⟨g5608, 1, none⟩ (.int .i64 p0.E)] (fun fb => by kernel_rfl) rfl ⟨hS5614.cell 1 rfl 0 rfl, hS5614.cell 1 rfl 3 rfl, hS5614.cell 1 rfl 2 rfl, hS5614.cell 1 rfl 1 rfl, trivial⟩ ?_
  refine WL.store hS5614 0 rfl [(0, (.int .i64 p0.N)), (1, (.int .i64 p0.W)), (2, (.int .i64 p0.S)), (3, (.int .i64 p0.E))] #[(.int .i64 p0.N), (.int .i64 p0.W), (.int .i64 p0.S), (.int .i64 p0.E)] (fun fb => by kernel_rfl) (by kernel_rfl) rfl [1] (by decide) (by decide) (fun w5616 hS5617 => ?_)
  refine ⟨trivial, ?_⟩
  refine WL.done rfl ?_
  refine WX.next ?_
  refine WC.ret ?_
  injection hf with hf
  subst hf
  exact WX.ret_ [.v (.int .i64 p0.N), .v (.int .i64 p0.W), .v (.int .i64 p0.S), .v (.int .i64 p0.E)] (.agg #[(.int .i64 p0.N), (.int .i64 p0.W), (.int .i64 p0.S), (.int .i64 p0.E)]) [.cell ⟨g5612, 0, none⟩ (.int .i64 p0.N), .cell ⟨g5612, 1, none⟩ (.int .i64 p0.W), .cell ⟨g5612, 2, none⟩ (.int .i64 p0.S), .cell ⟨g5612, 3, none⟩ (.int .i64 p0.E)] (fun fb => by kernel_rfl) ⟨hS5617.cell 0 rfl 0 rfl, hS5617.cell 0 rfl 1 rfl, hS5617.cell 0 rfl 2 rfl, hS5617.cell 0 rfl 3 rfl, trivial⟩ ⟨_, rfl, rfl, hS5617.keep⟩
theorem tile_changed_at0_calls (k : Nat) (p0 : List Tile) (A_p0 : Option Addr) (c_p0 : Nat) (r : (List Tile) × Int) (w : World) (hR0 : RO NoS w (rowR enc_Tile A_p0 c_p0 p0)) (hf : tile_changed_at0 k p0 = some r) :
    CallsR Tryd.prog 50 #[(.slice A_p0 p0.length c_p0), (.int .i64 0)] w (fun v w' => ∃ (A1_ : Option Addr), ∃ (c1_ : Nat), v = (.tuple #[(.slice A1_ r.1.length c1_), (.int .i64 r.2)]) ∧ St NoS w w' [] [rowO 62 enc_Tile A1_ c1_ r.1]) := by
  have hS : St NoS w w [rowR enc_Tile A_p0 c_p0 p0] [] := St.init (ro_cons hR0 (ro_nil _ _))
  refine enter 29 Tryd.func50 rfl Tryd.ntmps50 rfl ?_
  unfold tile_changed_at0 at hf
  refine WC.seq ?_
  refine WC.region ?_
  refine seg 2 [] [0, 1] [(0, (.slice A_p0 p0.length c_p0)), (1, (.int .i64 0))] [] (fun fb => by kernel_rfl) rfl trivial ?_
  refine WL.done rfl ?_
  refine WX.next ?_
  refine WC.seq ?_
  refine WC.seq ?_
  refine WC.region ?_
  refine seg 1 [] [0, 1, 9] [(0, (.slice A_p0 p0.length c_p0)), (1, (.int .i64 0)), (9, (.slice A_p0 p0.length c_p0))] [] (fun fb => by kernel_rfl) rfl trivial ?_
  obtain ⟨t5588, ht5589, hf⟩ := bind_some hf
  refine WL.call (some 10) 22 #[(.slice A_p0 p0.length c_p0)] (fun fb => by kernel_rfl) (tile_Valid_calls _ p0 A_p0 c_p0 t5588 _ (hS.rd 0) ht5589) (fun v w5590 hR5591 => ?_)
  obtain ⟨rfl, hk_⟩ := hR5591
  have hS5592 := hS.keepN hk_
  refine ⟨trivial, ?_⟩
  refine seg 3 [] [0, 1, 11] [(0, (.slice A_p0 p0.length c_p0)), (1, (.int .i64 0)), (11, (.bool (!t5588)))] [] (fun fb => by kernel_rfl) rfl trivial ?_
  refine WL.done rfl ?_
  refine WX.next ?_
  rcases br_some hf with ⟨h5593, hf⟩ | ⟨h5593, hf⟩
  · refine WC.condT2 (fun fb => by kernel_rfl) h5593 ?_
    refine WC.seq ?_
    refine WC.region ?_
    refine seg 2 [] [4, 5] [(4, (.slice none 0 0)), (5, (.int .i64 1))] [] (fun fb => by kernel_rfl) rfl trivial ?_
    refine WL.done rfl ?_
    refine WX.next ?_
    refine WC.ret ?_
    have hS5594 := hS5592.nilrow 62 enc_Tile
    injection hf with hf
    subst hf
    exact WX.thenR (WX.ret_ [] (.tuple #[(.slice none ([] : List Tile).length 0), (.int .i64 1)]) [] (fun fb => by kernel_rfl) trivial ⟨_, rfl, none, 0, rfl, (hS5594.sub [0] (by decide)).noR⟩)
  refine WC.condF2 (fun fb => by kernel_rfl) h5593 ?_
  refine WC.skip ?_
  refine WX.next ?_
  refine WC.seq ?_
  refine WC.region ?_
  refine seg 1 [] [0, 1, 6] [(0, (.slice A_p0 p0.length c_p0)), (1, (.int .i64 0)), (6, (.slice none 0 0))] [] (fun fb => by kernel_rfl) rfl trivial ?_
  refine WL.done rfl ?_
  refine WX.next ?_
  refine WC.seq ?_
  refine WC.seq ?_
  refine WC.region ?_
  refine seg 3 [] [1, 6, 12, 13, 14] [(1, (.int .i64 0)), (6, (.slice none 0 0)), (12, (.slice A_p0 p0.length c_p0)), (13, (.int .i64 (p0.length : Int))), (14, (.int .i64 0))] [] (fun fb => by kernel_rfl) rfl trivial ?_
  refine WL.done rfl ?_
  refine WX.next ?_
  have hS5712 := hS5592.nilrow 62 enc_Tile
  obtain ⟨x5720, hx5721, hf⟩ := bind_some hf
  refine WC.cutN (T := (List Tile) × (Option Addr) × Nat) (fun t => [(6, (.slice t.2.1 t.1.length t.2.2))]) (fun t w1 => St NoS w w1 [rowR enc_Tile A_p0 c_p0 p0] [rowO 62 enc_Tile t.2.1 t.2.2 t.1] ∧ x5720 = t.1) (fun Kx5720 => ?_) ?_
  ·
    refine WC.block ?_
    refine WC.loop (T := ((List Tile) × Int) × (Option Addr) × Nat) (fun t => [(1, (.int .i64 0)), (6, (.slice t.2.1 t.1.1.length t.2.2)), (12, (.slice A_p0 p0.length c_p0)), (13, (.int .i64 (p0.length : Int))), (14, (.int .i64 t.1.2))]) (fun n t w1 => St NoS w w1 [rowR enc_Tile A_p0 c_p0 p0] [rowO 62 enc_Tile t.2.1 t.2.2 t.1.1] ∧ tile_changed_at0.l0 n t.1.1 t.1.2 p0 = some x5720) k ((([] : List Tile), 0), none, 0) [1, 6, 12, 13, 14] rfl ⟨(hS5712.subR [0]).sub [0] (by decide), hx5721⟩ ?_
    rintro k5722 ⟨⟨l5715, x5716⟩, A5713, c5714⟩ w5723 ⟨hS5724, hl5725⟩
    cases k5722 with
    | zero => rw [tile_changed_at0.l0] at hl5725; cases hl5725
    | succ k5722 =>
      rw [tile_changed_at0.l0] at hl5725
      refine WC.seq ?_
      refine WC.region ?_
      refine seg 1 [] [1, 6, 12, 13, 14, 15] [(1, (.int .i64 0)), (6, (.slice A5713 l5715.length c5714)), (12, (.slice A_p0 p0.length c_p0)), (13, (.int .i64 (p0.length : Int))), (14, (.int .i64 x5716)), (15, (.bool (decide (x5716 < (p0.length : Int)))))] [] (fun fb => by kernel_rfl) rfl trivial ?_
      refine WL.done rfl ?_
      refine WX.next ?_
      refine WC.seq ?_
      rcases br_some hl5725 with ⟨h5726, hl5725⟩ | ⟨h5726, hl5725⟩
      · refine WC.condT2 (fun fb => by kernel_rfl) h5726 ?_
        refine WC.skip ?_
        refine WX.next ?_
        refine WC.seq ?_
        refine WC.block ?_
        refine WC.seq ?_
        refine WC.region ?_
        obtain ⟨h5727, hl5725⟩ := as_some hl5725
        refine seg 2 [.v (.int .i64 ((rdD p0 x5716 z_Tile).N)), .v (.int .i64 ((rdD p0 x5716 z_Tile).E)), .v (.int .i64 ((rdD p0 x5716 z_Tile).S)), .v (.int .i64 ((rdD p0 x5716 z_Tile).W))] [1, 6, 12, 13, 14, 17] [(1, (.int .i64 0)), (6, (.slice A5713 l5715.length c5714)), (12, (.slice A_p0 p0.length c_p0)), (13, (.int .i64 (p0.length : Int))), (14, (.int .i64 x5716)), (17, (.agg #[(.int .i64 ((rdD p0 x5716 z_Tile).N)), (.int .i64 ((rdD p0 x5716 z_Tile).E)), (.int .i64 ((rdD p0 x5716 z_Tile).S)), (.int .i64 ((rdD p0 x5716 z_Tile).W))]))] [.idx A_p0 x5716 p0.length, .cell ((adr A_p0).add ((x5716).toNat * 4)) (.int .i64 ((rdD p0 x5716 z_Tile).N)), .cell (((adr A_p0).add ((x5716).toNat * 4)).add 1) (.int .i64 ((rdD p0 x5716 z_Tile).E)), .cell (((adr A_p0).add ((x5716).toNat * 4)).add 2) (.int .i64 ((rdD p0 x5716 z_Tile).S)), .cell (((adr A_p0).add ((x5716).toNat * 4)).add 3) (.int .i64 ((rdD p0 x5716 z_Tile).W))] (fun fb => by kernel_rfl) rfl ⟨rowR.adr (hS5724.rd 0).1 h5727.1 h5727.2, rowR.cell (hS5724.rd 0).1 z_Tile h5727.1 h5727.2 0 rfl, rowR.cell (hS5724.rd 0).1 z_Tile h5727.1 h5727.2 1 rfl, rowR.cell (hS5724.rd 0).1 z_Tile h5727.1 h5727.2 2 rfl, rowR.cell (hS5724.rd 0).1 z_Tile h5727.1 h5727.2 3 rfl, trivial⟩ ?_
        refine WL.new hS5724 8 [] (fun g => (.pointer (some ⟨g, 0, none⟩))) (.cells #[(.int .i64 0), (.int .i64 0), (.int .i64 0), (.int .i64 0)] 62 (0, 0)) [] (fun fb g => by kernel_rfl) trivial (fun g5728 w5729 hS5730 => ?_)
        refine ⟨trivial, ?_⟩
        refine WL.store hS5730 0 rfl [(0, (.int .i64 ((rdD p0 x5716 z_Tile).N))), (1, (.int .i64 ((rdD p0 x5716 z_Tile).E))), (2, (.int .i64 ((rdD p0 x5716 z_Tile).S))), (3, (.int .i64 ((rdD p0 x5716 z_Tile).W)))] #[(.int .i64 ((rdD p0 x5716 z_Tile).N)), (.int .i64 ((rdD p0 x5716 z_Tile).E)), (.int .i64 ((rdD p0 x5716 z_Tile).S)), (.int .i64 ((rdD p0 x5716 z_Tile).W))] (fun fb => by kernel_rfl) (by kernel_rfl) rfl [1] (by decide) (by decide) (fun w5732 hS5733 => ?_)
        refine ⟨trivial, ?_⟩
        refine WL.done rfl ?_
        refine WX.next ?_
        refine WC.regionD ([(5, ⟨g5728, 0, none⟩, (.int .i64 ((rdD p0 x5716 z_Tile).N))), (5, ⟨g5728, 1, none⟩, (.int .i64 ((rdD p0 x5716 z_Tile).E))), (5, ⟨g5728, 2, none⟩, (.int .i64 ((rdD p0 x5716 z_Tile).S))), (5, ⟨g5728, 3, none⟩, (.int .i64 ((rdD p0 x5716 z_Tile).W)))], [0, 2, 3, 4, 5, 9], [[], [], [], [1, 2], [1, 2, 3], [], [1, 2, 3, 4, 5], [1, 2, 3, 4, 5, 6], [0, 1, 2, 3, 4, 5, 6, 7], [0, 1, 2, 3, 4, 5, 6, 7, 8]]) [[0, 2, 5, 1, 3, 4, 6, 7, 8, 9]] (by kernel_rfl) (by kernel_rfl) (NoPanic.block (NoPanic.seq (NoPanic.seq (NoPanic.block (NoPanic.seq (NoPanic.body)))))) ?_
        have hS5755 := hS5733.drew
        revert hS5755
        generalize World.drew w5732 = w5754
        intro hS5755
        refine ⟨⟨hS5755.cell 0 rfl 0 rfl, hS5755.cell 0 rfl 1 rfl, hS5755.cell 0 rfl 2 rfl, hS5755.cell 0 rfl 3 rfl, trivial⟩, forallC ?_ (forallN)⟩
        refine segF 3 [.v (.int .i64 ((rdD p0 x5716 z_Tile).N)), .v (.int .i64 ((rdD p0 x5716 z_Tile).E)), .v (.int .i64 ((rdD p0 x5716 z_Tile).S)), .v (.int .i64 ((rdD p0 x5716 z_Tile).W))] [1, 12, 13, 14, 18, 20, 23] [(1, (.int .i64 0)), (12, (.slice A_p0 p0.length c_p0)), (13, (.int .i64 (p0.length : Int))), (14, (.int .i64 x5716)), (18, (.slice A5713 l5715.length c5714)), (20, (.int .i64 0)), (23, (.agg #[(.int .i64 ((rdD p0 x5716 z_Tile).N)), (.int .i64 ((rdD p0 x5716 z_Tile).E)), (.int .i64 ((rdD p0 x5716 z_Tile).S)), (.int .i64 ((rdD p0 x5716 z_Tile).W))]))] [] [0, 1, 2, 3] [(5, ⟨g5728, 0, none⟩, (.int .i64 ((rdD p0 x5716 z_Tile).N))), (5, ⟨g5728, 1, none⟩, (.int .i64 ((rdD p0 x5716 z_Tile).E))), (5, ⟨g5728, 2, none⟩, (.int .i64 ((rdD p0 x5716 z_Tile).S))), (5, ⟨g5728, 3, none⟩, (.int .i64 ((rdD p0 x5716 z_Tile).W)))] (fun fb => by kernel_rfl) rfl trivial rfl ?_
        obtain ⟨t5756, ht5757, hl5725⟩ := bind_some hl5725
        refine WL.call (some 19) 64 #[] (fun fb => by kernel_rfl) (tile_changes_calls t5756 _ ht5757) (fun v w5758 hR5759 => ?_)
        obtain ⟨rfl, hk_⟩ := hR5759
        have hS5760 := hS5755.keepN hk_
        refine ⟨⟨hS5760.cell 0 rfl 0 rfl, hS5760.cell 0 rfl 1 rfl, hS5760.cell 0 rfl 2 rfl, hS5760.cell 0 rfl 3 rfl, trivial⟩, ?_⟩
        refine seg 6 [] [1, 12, 13, 14, 18, 22, 23] [(1, (.int .i64 0)), (12, (.slice A_p0 p0.length c_p0)), (13, (.int .i64 (p0.length : Int))), (14, (.int .i64 x5716)), (18, (.slice A5713 l5715.length c5714)), (22, (.func (.func 79) #[] #[])), (23, (.agg #[(.int .i64 ((rdD p0 x5716 z_Tile).N)), (.int .i64 ((rdD p0 x5716 z_Tile).E)), (.int .i64 ((rdD p0 x5716 z_Tile).S)), (.int .i64 ((rdD p0 x5716 z_Tile).W))]))] [] (fun fb => by kernel_rfl) rfl trivial ?_
        obtain ⟨t5761, ht5762, hl5725⟩ := bind_some hl5725
        refine WL.call (some 24) 79 #[(.agg #[(.int .i64 ((rdD p0 x5716 z_Tile).N)), (.int .i64 ((rdD p0 x5716 z_Tile).E)), (.int .i64 ((rdD p0 x5716 z_Tile).S)), (.int .i64 ((rdD p0 x5716 z_Tile).W))])] (fun fb => by kernel_rfl) (tile_changes_1_calls (rdD p0 x5716 z_Tile) t5761 _ ht5762) (fun v w5763 hR5764 => ?_)
        obtain ⟨rfl, hk_⟩ := hR5764
        have hS5765 := hS5760.keepN hk_
        refine ⟨trivial, ?_⟩
        refine WL.new hS5765 25 [] (fun g => (.slice (some ⟨g, 0, none⟩) 1 1)) (.cells #[(.int .i64 t5761.N), (.int .i64 t5761.E), (.int .i64 t5761.S), (.int .i64 t5761.W)] 62 (0, 0)) [] (fun fb g => by kernel_rfl) trivial (fun g5766 w5767 hS5768 => ?_)
        refine ⟨trivial, ?_⟩
        have hS5770 : St NoS w w5767 [rowR enc_Tile A_p0 c_p0 p0] [rowO 62 enc_Tile (some ⟨g5766, 0, none⟩) 1 [t5761], blk g5728 (.cells #[(.int .i64 ((rdD p0 x5716 z_Tile).N)), (.int .i64 ((rdD p0 x5716 z_Tile).E)), (.int .i64 ((rdD p0 x5716 z_Tile).S)), (.int .i64 ((rdD p0 x5716 z_Tile).W))] 62 (0, 0)), rowO 62 enc_Tile A5713 c5714 l5715] := hS5768.map1 0 _ (fun h => rowO.ofBlk h rfl (Nat.le_of_ble_eq_true (by kernel_rfl))) (fun _ h => by obtain ⟨_, h1, h2⟩ := h; injection h1 with h1; subst h1; exact h2) [1, 2] (by decide) (by decide)
        obtain ⟨h5771, hl5725⟩ := as_some hl5725
        refine WL.append hS5770 2 (d := 26) (tS := 23) (z := (.agg #[(.int .i64 0), (.int .i64 0), (.int .i64 0), (.int .i64 0)])) (bytes := 32) (c2 := 1) rfl (fun fb => by kernel_rfl) (rowO.rd (hS5770.own 0).1) (by kernel_rfl) (by kernel_rfl) rfl (by decide) h5771 (by decide) [0, 1] (by decide) (by decide) (fun A5772 c5773 w5774 hS5775 => ?_)
        refine ⟨trivial, ?_⟩
        refine seg 10 [] [1, 6, 12, 13, 14] [(1, (.int .i64 0)), (6, (.slice A5772 (l5715 ++ [t5761]).length c5773)), (12, (.slice A_p0 p0.length c_p0)), (13, (.int .i64 (p0.length : Int))), (14, (.int .i64 x5716))] [] (fun fb => by kernel_rfl) rfl trivial ?_
        refine WL.done rfl ?_
        refine WX.blockN (WX.next ?_)
        refine WC.region ?_
        refine seg 2 [] [1, 6, 12, 13, 14] [(1, (.int .i64 0)), (6, (.slice A5772 (l5715 ++ [t5761]).length c5773)), (12, (.slice A_p0 p0.length c_p0)), (13, (.int .i64 (p0.length : Int))), (14, (.int .i64 (w64 (x5716 + 1))))] [] (fun fb => by kernel_rfl) rfl trivial ?_
        refine WL.done rfl ?_
        exact WX.again k5722 (Nat.lt_succ_self _) ((l5715 ++ [t5761], w64 (x5716 + 1)), A5772, c5773) [1, 6, 12, 13, 14] rfl ⟨(hS5775.subR [0]).sub [0] (by decide), hl5725⟩
      refine WC.condF2 (fun fb => by kernel_rfl) h5726 ?_
      refine WC.exit ?_
      injection hl5725 with hl5725
      exact WX.thenX (WX.thenX (WX.blockHere (WX.to Kx5720 (l5715, A5713, c5714) [6] rfl ⟨(hS5724.subR [0]).sub [0] (by decide), hl5725.symm⟩)))
  rintro ⟨y5779, A5717, c5718⟩ w5776 ⟨hS5777, hq5778⟩
  subst hq5778
  refine WX.next ?_
  refine WC.seq ?_
  refine WC.region ?_
  refine seg 3 [] [4, 5] [(4, (.slice A5717 x5720.length c5718)), (5, (.int .i64 0))] [] (fun fb => by kernel_rfl) rfl trivial ?_
  refine WL.done rfl ?_
  refine WX.next ?_
  refine WC.ret ?_
  injection hf with hf
  subst hf
  exact WX.ret_ [] (.tuple #[(.slice A5717 x5720.length c5718), (.int .i64 0)]) [] (fun fb => by kernel_rfl) trivial ⟨_, rfl, A5717, c5718, rfl, (hS5777.sub [0] (by decide)).noR⟩
theorem tile_Mirror_calls (k : Nat) (p0 : List Tile) (A_p0 : Option Addr) (c_p0 : Nat) (r : (List Tile) × Int) (w : World) (hR0 : RO NoS w (rowR enc_Tile A_p0 c_p0 p0)) (hf : tile_Mirror k p0 = some r) :
    CallsR Tryd.prog 19 #[(.slice A_p0 p0.length c_p0)] w (fun v w' => ∃ (A1_ : Option Addr), ∃ (c1_ : Nat), v = (.tuple #[(.slice A1_ r.1.length c1_), (.int .i64 r.2)]) ∧ St NoS w w' [] [rowO 62 enc_Tile A1_ c1_ r.1]) := by
  have hS : St NoS w w [rowR enc_Tile A_p0 c_p0 p0] [] := St.init (ro_cons hR0 (ro_nil _ _))
  refine enter 8 Tryd.func19 rfl Tryd.ntmps19 rfl ?_
  unfold tile_Mirror at hf
  refine WC.seq ?_
  refine WC.region ?_
  refine seg 2 [] [0] [(0, (.slice A_p0 p0.length c_p0))] [] (fun fb => by kernel_rfl) rfl trivial ?_
  refine WL.done rfl ?_
  refine WX.next ?_
  refine WC.seq ?_
  refine WC.region ?_
  refine seg 1 [] [4] [(4, (.slice A_p0 p0.length c_p0))] [] (fun fb => by kernel_rfl) rfl trivial ?_
  obtain ⟨t5780, ht5781, hf⟩ := bind_some hf
  refine WL.call (some 5) 50 #[(.slice A_p0 p0.length c_p0), (.int .i64 0)] (fun fb => by kernel_rfl) (tile_changed_at0_calls _ p0 A_p0 c_p0 t5780 _ (hS.rd 0) ht5781) (fun v w5782 hR5783 => ?_)
  obtain ⟨A5785, c5786, rfl, hk_⟩ := hR5783
  have hS5784 : St NoS w w5782 [rowR enc_Tile A_p0 c_p0 p0] [rowO 62 enc_Tile A5785 c5786 t5780.1] := hS.call hk_ [] [] (fun g hg => hg.elim) (by simp) (by decide)
  refine ⟨trivial, ?_⟩
  refine seg 6 [] [2, 3] [(2, (.slice A5785 t5780.1.length c5786)), (3, (.int .i64 t5780.2))] [] (fun fb => by kernel_rfl) rfl trivial ?_
  refine WL.done rfl ?_
  refine WX.next ?_
  refine WC.ret ?_
  injection hf with hf
  subst hf
  exact WX.ret_ [] (.tuple #[(.slice A5785 t5780.1.length c5786), (.int .i64 t5780.2)]) [] (fun fb => by kernel_rfl) trivial ⟨_, rfl, A5785, c5786, rfl, (hS5784.sub [0] (by decide)).noR⟩
theorem tile_changes_3_calls (p0 : Tile)  (r : Tile) (w : World)  (hf : tile_changes_3 p0 = some r) :
    CallsR Tryd.prog 82 #[(.agg #[(.int .i64 p0.N), (.int .i64 p0.E), (.int .i64 p0.S), (.int .i64 p0.W)])] w (fun v w' => v = (.agg #[(.int .i64 r.N), (.int .i64 r.E), (.int .i64 r.S), (.int .i64 r.W)]) ∧ Keeps NoS w w') := by
  have hS : St NoS w w [] [] := St.init (ro_nil _ _)
  refine enter 12 Tryd.func82 rfl Tryd.ntmps82 rfl ?_
  unfold tile_changes_3 at hf
  refine WC.seq ?_
  refine WC.region ?_
  refine WL.new hS 1 [] (fun g => (.pointer (some ⟨g, 0, none⟩))) (.cells #[(.int .i64 p0.N), (.int .i64 p0.E), (.int .i64 p0.S), (.int .i64 p0.W)] 62 (0, 0)) [] (fun fb g => by kernel_rfl) trivial (fun g5814 w5815 hS5816 => ?_)
  refine ⟨trivial, ?_⟩
  refine WL.new hS5816 2 [] (fun g => (.pointer (some ⟨g, 0, none⟩))) (.cells #[(.int .i64 0), (.int .i64 0), (.int .i64 0), (.int .i64 0)] 62 (0, 0)) [] (fun fb g => by kernel_rfl) trivial (fun g5818 w5819 hS5820 => ?_)
  refine ⟨trivial, ?_⟩
  refine WL.done rfl ?_
  refine WX.next ?_
  refine WC.seq ?_
  refine WC.region ?_
  refine seg 9 [.v (.int .i64 p0.S), .v (.int .i64 p0.E), .v (.int .i64 p0.N), .v (.int .i64 p0.W)] [2, 11] [(2, (.pointer (some ⟨g5818, 0, none⟩))), (11, (.agg #[(.int .i64 p0.S), (.int .i64 p0.E), (.int .i64 p0.N), (.int .i64 p0.W)]))] [.cell ⟨g5814, 2, none⟩ (.int .i64 p0.S), .cell ⟨g5814, 1, none⟩ (.int .i64 p0.E), .cell ⟨g5814, 0, none⟩ (.int .i64 p0.N), .cell ⟨g5814, 3, none⟩ (.int .i64 p0.W)] (fun fb => by kernel_rfl) rfl ⟨hS5820.cell 1 rfl 2 rfl, hS5820.cell 1 rfl 1 rfl, hS5820.cell 1 rfl 0 rfl, hS5820.cell 1 rfl 3 rfl, trivial⟩ ?_
  refine WL.store hS5820 0 rfl [(0, (.int .i64 p0.S)), (1, (.int .i64 p0.E)), (2, (.int .i64 p0.N)), (3, (.int .i64 p0.W))] #[(.int .i64 p0.S), (.int .i64 p0.E), (.int .i64 p0.N), (.int .i64 p0.W)] (fun fb => by kernel_rfl) (by kernel_rfl) rfl [1] (by decide) (by decide) (fun w5822 hS5823 => ?_)
  refine ⟨trivial, ?_⟩
  refine WL.done rfl ?_
  refine WX.next ?_
  refine WC.ret ?_
  injection hf with hf
  subst hf
  exact WX.ret_ [.v (.int .i64 p0.S), .v (.int .i64 p0.E), .v (.int .i64 p0.N), .v (.int .i64 p0.W)] (.agg #[(.int .i64 p0.S), (.int .i64 p0.E), (.int .i64 p0.N), (.int .i64 p0.W)]) [.cell ⟨g5818, 0, none⟩ (.int .i64 p0.S), .cell ⟨g5818, 1, none⟩ (.int .i64 p0.E), .cell ⟨g5818, 2, none⟩ (.int .i64 p0.N), .cell ⟨g5818, 3, none⟩ (.int .i64 p0.W)] (fun fb => by kernel_rfl) ⟨hS5823.cell 0 rfl 0 rfl, hS5823.cell 0 rfl 1 rfl, hS5823.cell 0 rfl 2 rfl, hS5823.cell 0 rfl 3 rfl, trivial⟩ ⟨_, rfl, rfl, hS5823.keep⟩
theorem tile_changed_at1_calls (k : Nat) (p0 : List Tile) (A_p0 : Option Addr) (c_p0 : Nat) (r : (List Tile) × Int) (w : World) (hR0 : RO NoS w (rowR enc_Tile A_p0 c_p0 p0)) (hf : tile_changed_at1 k p0 = some r) :
    CallsR Tryd.prog 50 #[(.slice A_p0 p0.length c_p0), (.int .i64 1)] w (fun v w' => ∃ (A1_ : Option Addr), ∃ (c1_ : Nat), v = (.tuple #[(.slice A1_ r.1.length c1_), (.int .i64 r.2)]) ∧ St NoS w w' [] [rowO 62 enc_Tile A1_ c1_ r.1]) := by
  have hS : St NoS w w [rowR enc_Tile A_p0 c_p0 p0] [] := St.init (ro_cons hR0 (ro_nil _ _))
  refine enter 29 Tryd.func50 rfl Tryd.ntmps50 rfl ?_
  unfold tile_changed_at1 at hf
  refine WC.seq ?_
  refine WC.region ?_
  refine seg 2 [] [0, 1] [(0, (.slice A_p0 p0.length c_p0)), (1, (.int .i64 1))] [] (fun fb => by kernel_rfl) rfl trivial ?_
  refine WL.done rfl ?_
  refine WX.next ?_
  refine WC.seq ?_
  refine WC.seq ?_
  refine WC.region ?_
  refine seg 1 [] [0, 1, 9] [(0, (.slice A_p0 p0.length c_p0)), (1, (.int .i64 1)), (9, (.slice A_p0 p0.length c_p0))] [] (fun fb => by kernel_rfl) rfl trivial ?_
  obtain ⟨t5794, ht5795, hf⟩ := bind_some hf
  refine WL.call (some 10) 22 #[(.slice A_p0 p0.length c_p0)] (fun fb => by kernel_rfl) (tile_Valid_calls _ p0 A_p0 c_p0 t5794 _ (hS.rd 0) ht5795) (fun v w5796 hR5797 => ?_)
  obtain ⟨rfl, hk_⟩ := hR5797
  have hS5798 := hS.keepN hk_
  refine ⟨trivial, ?_⟩
  refine seg 3 [] [0, 1, 11] [(0, (.slice A_p0 p0.length c_p0)), (1, (.int .i64 1)), (11, (.bool (!t5794)))] [] (fun fb => by kernel_rfl) rfl trivial ?_
  refine WL.done rfl ?_
  refine WX.next ?_
  rcases br_some hf with ⟨h5799, hf⟩ | ⟨h5799, hf⟩
  · refine WC.condT2 (fun fb => by kernel_rfl) h5799 ?_
    refine WC.seq ?_
    refine WC.region ?_
    refine seg 2 [] [4, 5] [(4, (.slice none 0 0)), (5, (.int .i64 1))] [] (fun fb => by kernel_rfl) rfl trivial ?_
    refine WL.done rfl ?_
    refine WX.next ?_
    refine WC.ret ?_
    have hS5800 := hS5798.nilrow 62 enc_Tile
    injection hf with hf
    subst hf
    exact WX.thenR (WX.ret_ [] (.tuple #[(.slice none ([] : List Tile).length 0), (.int .i64 1)]) [] (fun fb => by kernel_rfl) trivial ⟨_, rfl, none, 0, rfl, (hS5800.sub [0] (by decide)).noR⟩)
  refine WC.condF2 (fun fb => by kernel_rfl) h5799 ?_
  refine WC.skip ?_
  refine WX.next ?_
  refine WC.seq ?_
  refine WC.region ?_
  refine seg 1 [] [0, 1, 6] [(0, (.slice A_p0 p0.length c_p0)), (1, (.int .i64 1)), (6, (.slice none 0 0))] [] (fun fb => by kernel_rfl) rfl trivial ?_
  refine WL.done rfl ?_
  refine WX.next ?_
  refine WC.seq ?_
  refine WC.seq ?_
  refine WC.region ?_
  refine seg 3 [] [1, 6, 12, 13, 14] [(1, (.int .i64 1)), (6, (.slice none 0 0)), (12, (.slice A_p0 p0.length c_p0)), (13, (.int .i64 (p0.length : Int))), (14, (.int .i64 0))] [] (fun fb => by kernel_rfl) rfl trivial ?_
  refine WL.done rfl ?_
  refine WX.next ?_
  have hS5918 := hS5798.nilrow 62 enc_Tile
  obtain ⟨x5926, hx5927, hf⟩ := bind_some hf
  refine WC.cutN (T := (List Tile) × (Option Addr) × Nat) (fun t => [(6, (.slice t.2.1 t.1.length t.2.2))]) (fun t w1 => St NoS w w1 [rowR enc_Tile A_p0 c_p0 p0] [rowO 62 enc_Tile t.2.1 t.2.2 t.1] ∧ x5926 = t.1) (fun Kx5926 => ?_) ?_
  ·
    refine WC.block ?_
    refine WC.loop (T := ((List Tile) × Int) × (Option Addr) × Nat) (fun t => [(1, (.int .i64 1)), (6, (.slice t.2.1 t.1.1.length t.2.2)), (12, (.slice A_p0 p0.length c_p0)), (13, (.int .i64 (p0.length : Int))), (14, (.int .i64 t.1.2))]) (fun n t w1 => St NoS w w1 [rowR enc_Tile A_p0 c_p0 p0] [rowO 62 enc_Tile t.2.1 t.2.2 t.1.1] ∧ tile_changed_at1.l0 n t.1.1 t.1.2 p0 = some x5926) k ((([] : List Tile), 0), none, 0) [1, 6, 12, 13, 14] rfl ⟨(hS5918.subR [0]).sub [0] (by decide), hx5927⟩ ?_
    rintro k5928 ⟨⟨l5921, x5922⟩, A5919, c5920⟩ w5929 ⟨hS5930, hl5931⟩
    cases k5928 with
    | zero => rw [tile_changed_at1.l0] at hl5931; cases hl5931
    | succ k5928 =>
      rw [tile_changed_at1.l0] at hl5931
      refine WC.seq ?_
      refine WC.region ?_
      refine seg 1 [] [1, 6, 12, 13, 14, 15] [(1, (.int .i64 1)), (6, (.slice A5919 l5921.length c5920)), (12, (.slice A_p0 p0.length c_p0)), (13, (.int .i64 (p0.length : Int))), (14, (.int .i64 x5922)), (15, (.bool (decide (x5922 < (p0.length : Int)))))] [] (fun fb => by kernel_rfl) rfl trivial ?_
      refine WL.done rfl ?_
      refine WX.next ?_
      refine WC.seq ?_
      rcases br_some hl5931 with ⟨h5932, hl5931⟩ | ⟨h5932, hl5931⟩
      · refine WC.condT2 (fun fb => by kernel_rfl) h5932 ?_
        refine WC.skip ?_
        refine WX.next ?_
        refine WC.seq ?_
        refine WC.block ?_
        refine WC.seq ?_
        refine WC.region ?_
        obtain ⟨h5933, hl5931⟩ := as_some hl5931
        refine seg 2 [.v (.int .i64 ((rdD p0 x5922 z_Tile).N)), .v (.int .i64 ((rdD p0 x5922 z_Tile).E)), .v (.int .i64 ((rdD p0 x5922 z_Tile).S)), .v (.int .i64 ((rdD p0 x5922 z_Tile).W))] [1, 6, 12, 13, 14, 17] [(1, (.int .i64 1)), (6, (.slice A5919 l5921.length c5920)), (12, (.slice A_p0 p0.length c_p0)), (13, (.int .i64 (p0.length : Int))), (14, (.int .i64 x5922)), (17, (.agg #[(.int .i64 ((rdD p0 x5922 z_Tile).N)), (.int .i64 ((rdD p0 x5922 z_Tile).E)), (.int .i64 ((rdD p0 x5922 z_Tile).S)), (.int .i64 ((rdD p0 x5922 z_Tile).W))]))] [.idx A_p0 x5922 p0.length, .cell ((adr A_p0).add ((x5922).toNat * 4)) (.int .i64 ((rdD p0 x5922 z_Tile).N)), .cell (((adr A_p0).add ((x5922).toNat * 4)).add 1) (.int .i64 ((rdD p0 x5922 z_Tile).E)), .cell (((adr A_p0).add ((x5922).toNat * 4)).add 2) (.int .i64 ((rdD p0 x5922 z_Tile).S)), .cell (((adr A_p0).add ((x5922).toNat * 4)).add 3) (.int .i64 ((rdD p0 x5922 z_Tile).W))] (fun fb => by kernel_rfl) rfl ⟨rowR.adr (hS5930.rd 0).1 h5933.1 h5933.2, rowR.cell (hS5930.rd 0).1 z_Tile h5933.1 h5933.2 0 rfl, rowR.cell (hS5930.rd 0).1 z_Tile h5933.1 h5933.2 1 rfl, rowR.cell (hS5930.rd 0).1 z_Tile h5933.1 h5933.2 2 rfl, rowR.cell (hS5930.rd 0).1 z_Tile h5933.1 h5933.2 3 rfl, trivial⟩ ?_
        refine WL.new hS5930 8 [] (fun g => (.pointer (some ⟨g, 0, none⟩))) (.cells #[(.int .i64 0), (.int .i64 0), (.int .i64 0), (.int .i64 0)] 62 (0, 0)) [] (fun fb g => by kernel_rfl) trivial (fun g5934 w5935 hS5936 => ?_)
        refine ⟨trivial, ?_⟩
        refine WL.store hS5936 0 rfl [(0, (.int .i64 ((rdD p0 x5922 z_Tile).N))), (1, (.int .i64 ((rdD p0 x5922 z_Tile).E))), (2, (.int .i64 ((rdD p0 x5922 z_Tile).S))), (3, (.int .i64 ((rdD p0 x5922 z_Tile).W)))] #[(.int .i64 ((rdD p0 x5922 z_Tile).N)), (.int .i64 ((rdD p0 x5922 z_Tile).E)), (.int .i64 ((rdD p0 x5922 z_Tile).S)), (.int .i64 ((rdD p0 x5922 z_Tile).W))] (fun fb => by kernel_rfl) (by kernel_rfl) rfl [1] (by decide) (by decide) (fun w5938 hS5939 => ?_)
        refine ⟨trivial, ?_⟩
        refine WL.done rfl ?_
        refine WX.next ?_
        refine WC.regionD ([(5, ⟨g5934, 0, none⟩, (.int .i64 ((rdD p0 x5922 z_Tile).N))), (5, ⟨g5934, 1, none⟩, (.int .i64 ((rdD p0 x5922 z_Tile).E))), (5, ⟨g5934, 2, none⟩, (.int .i64 ((rdD p0 x5922 z_Tile).S))), (5, ⟨g5934, 3, none⟩, (.int .i64 ((rdD p0 x5922 z_Tile).W)))], [0, 2, 3, 4, 5, 9], [[], [], [], [1, 2], [1, 2, 3], [], [1, 2, 3, 4, 5], [1, 2, 3, 4, 5, 6], [0, 1, 2, 3, 4, 5, 6, 7], [0, 1, 2, 3, 4, 5, 6, 7, 8]]) [[0, 2, 5, 1, 3, 4, 6, 7, 8, 9]] (by kernel_rfl) (by kernel_rfl) (NoPanic.block (NoPanic.seq (NoPanic.seq (NoPanic.block (NoPanic.seq (NoPanic.body)))))) ?_
        have hS5961 := hS5939.drew
        revert hS5961
        generalize World.drew w5938 = w5960
        intro hS5961
        refine ⟨⟨hS5961.cell 0 rfl 0 rfl, hS5961.cell 0 rfl 1 rfl, hS5961.cell 0 rfl 2 rfl, hS5961.cell 0 rfl 3 rfl, trivial⟩, forallC ?_ (forallN)⟩
        refine segF 3 [.v (.int .i64 ((rdD p0 x5922 z_Tile).N)), .v (.int .i64 ((rdD p0 x5922 z_Tile).E)), .v (.int .i64 ((rdD p0 x5922 z_Tile).S)), .v (.int .i64 ((rdD p0 x5922 z_Tile).W))] [1, 12, 13, 14, 18, 20, 23] [(1, (.int .i64 1)), (12, (.slice A_p0 p0.length c_p0)), (13, (.int .i64 (p0.length : Int))), (14, (.int .i64 x5922)), (18, (.slice A5919 l5921.length c5920)), (20, (.int .i64 1)), (23, (.agg #[(.int .i64 ((rdD p0 x5922 z_Tile).N)), (.int .i64 ((rdD p0 x5922 z_Tile).E)), (.int .i64 ((rdD p0 x5922 z_Tile).S)), (.int .i64 ((rdD p0 x5922 z_Tile).W))]))] [] [0, 1, 2, 3] [(5, ⟨g5934, 0, none⟩, (.int .i64 ((rdD p0 x5922 z_Tile).N))), (5, ⟨g5934, 1, none⟩, (.int .i64 ((rdD p0 x5922 z_Tile).E))), (5, ⟨g5934, 2, none⟩, (.int .i64 ((rdD p0 x5922 z_Tile).S))), (5, ⟨g5934, 3, none⟩, (.int .i64 ((rdD p0 x5922 z_Tile).W)))] (fun fb => by kernel_rfl) rfl trivial rfl ?_
        obtain ⟨t5962, ht5963, hl5931⟩ := bind_some hl5931
        refine WL.call (some 19) 64 #[] (fun fb => by kernel_rfl) (tile_changes_calls t5962 _ ht5963) (fun v w5964 hR5965 => ?_)
        obtain ⟨rfl, hk_⟩ := hR5965
        have hS5966 := hS5961.keepN hk_
        refine ⟨⟨hS5966.cell 0 rfl 0 rfl, hS5966.cell 0 rfl 1 rfl, hS5966.cell 0 rfl 2 rfl, hS5966.cell 0 rfl 3 rfl, trivial⟩, ?_⟩
        refine seg 6 [] [1, 12, 13, 14, 18, 22, 23] [(1, (.int .i64 1)), (12, (.slice A_p0 p0.length c_p0)), (13, (.int .i64 (p0.length : Int))), (14, (.int .i64 x5922)), (18, (.slice A5919 l5921.length c5920)), (22, (.func (.func 82) #[] #[])), (23, (.agg #[(.int .i64 ((rdD p0 x5922 z_Tile).N)), (.int .i64 ((rdD p0 x5922 z_Tile).E)), (.int .i64 ((rdD p0 x5922 z_Tile).S)), (.int .i64 ((rdD p0 x5922 z_Tile).W))]))] [] (fun fb => by kernel_rfl) rfl trivial ?_
        obtain ⟨t5967, ht5968, hl5931⟩ := bind_some hl5931
        refine WL.call (some 24) 82 #[(.agg #[(.int .i64 ((rdD p0 x5922 z_Tile).N)), (.int .i64 ((rdD p0 x5922 z_Tile).E)), (.int .i64 ((rdD p0 x5922 z_Tile).S)), (.int .i64 ((rdD p0 x5922 z_Tile).W))])] (fun fb => by kernel_rfl) (tile_changes_3_calls (rdD p0 x5922 z_Tile) t5967 _ ht5968) (fun v w5969 hR5970 => ?_)
        obtain ⟨rfl, hk_⟩ := hR5970
        have hS5971 := hS5966.keepN hk_
        refine ⟨trivial, ?_⟩
        refine WL.new hS5971 25 [] (fun g => (.slice (some ⟨g, 0, none⟩) 1 1)) (.cells #[(.int .i64 t5967.N), (.int .i64 t5967.E), (.int .i64 t5967.S), (.int .i64 t5967.W)] 62 (0, 0)) [] (fun fb g => by kernel_rfl) trivial (fun g5972 w5973 hS5974 => ?_)
        refine ⟨trivial, ?_⟩
        have hS5976 : St NoS w w5973 [rowR enc_Tile A_p0 c_p0 p0] [rowO 62 enc_Tile (some ⟨g5972, 0, none⟩) 1 [t5967], blk g5934 (.cells #[(.int .i64 ((rdD p0 x5922 z_Tile).N)), (.int .i64 ((rdD p0 x5922 z_Tile).E)), (.int .i64 ((rdD p0 x5922 z_Tile).S)), (.int .i64 ((rdD p0 x5922 z_Tile).W))] 62 (0, 0)), rowO 62 enc_Tile A5919 c5920 l5921] := hS5974.map1 0 _ (fun h => rowO.ofBlk h rfl (Nat.le_of_ble_eq_true (by kernel_rfl))) (fun _ h => by obtain ⟨_, h1, h2⟩ := h; injection h1 with h1; subst h1; exact h2) [1, 2] (by decide) (by decide)
        obtain ⟨h5977, hl5931⟩ := as_some hl5931
        refine WL.append hS5976 2 (d := 26) (tS := 23) (z := (.agg #[(.int .i64 0), (.int .i64 0), (.int .i64 0), (.int .i64 0)])) (bytes := 32) (c2 := 1) rfl (fun fb => by kernel_rfl) (rowO.rd (hS5976.own 0).1) (by kernel_rfl) (by kernel_rfl) rfl (by decide) h5977 (by decide) [0, 1] (by decide) (by decide) (fun A5978 c5979 w5980 hS5981 => ?_)
        refine ⟨trivial, ?_⟩
        refine seg 10 [] [1, 6, 12, 13, 14] [(1, (.int .i64 1)), (6, (.slice A5978 (l5921 ++ [t5967]).length c5979)), (12, (.slice A_p0 p0.length c_p0)), (13, (.int .i64 (p0.length : Int))), (14, (.int .i64 x5922))] [] (fun fb => by kernel_rfl) rfl trivial ?_
        refine WL.done rfl ?_
        refine WX.blockN (WX.next ?_)
        refine WC.region ?_
        refine seg 2 [] [1, 6, 12, 13, 14] [(1, (.int .i64 1)), (6, (.slice A5978 (l5921 ++ [t5967]).length c5979)), (12, (.slice A_p0 p0.length c_p0)), (13, (.int .i64 (p0.length : Int))), (14, (.int .i64 (w64 (x5922 + 1))))] [] (fun fb => by kernel_rfl) rfl trivial ?_
        refine WL.done rfl ?_
        exact WX.again k5928 (Nat.lt_succ_self _) ((l5921 ++ [t5967], w64 (x5922 + 1)), A5978, c5979) [1, 6, 12, 13, 14] rfl ⟨(hS5981.subR [0]).sub [0] (by decide), hl5931⟩
      refine WC.condF2 (fun fb => by kernel_rfl) h5932 ?_
      refine WC.exit ?_
      injection hl5931 with hl5931
      exact WX.thenX (WX.thenX (WX.blockHere (WX.to Kx5926 (l5921, A5919, c5920) [6] rfl ⟨(hS5930.subR [0]).sub [0] (by decide), hl5931.symm⟩)))
  rintro ⟨y5985, A5923, c5924⟩ w5982 ⟨hS5983, hq5984⟩
  subst hq5984
  refine WX.next ?_
  refine WC.seq ?_
  refine WC.region ?_
  refine seg 3 [] [4, 5] [(4, (.slice A5923 x5926.length c5924)), (5, (.int .i64 0))] [] (fun fb => by kernel_rfl) rfl trivial ?_
  refine WL.done rfl ?_
  refine WX.next ?_
  refine WC.ret ?_
  injection hf with hf
  subst hf
  exact WX.ret_ [] (.tuple #[(.slice A5923 x5926.length c5924), (.int .i64 0)]) [] (fun fb => by kernel_rfl) trivial ⟨_, rfl, A5923, c5924, rfl, (hS5983.sub [0] (by decide)).noR⟩
theorem tile_Upturn_calls (k : Nat) (p0 : List Tile) (A_p0 : Option Addr) (c_p0 : Nat) (r : (List Tile) × Int) (w : World) (hR0 : RO NoS w (rowR enc_Tile A_p0 c_p0 p0)) (hf : tile_Upturn k p0 = some r) :
    CallsR Tryd.prog 20 #[(.slice A_p0 p0.length c_p0)] w (fun v w' => ∃ (A1_ : Option Addr), ∃ (c1_ : Nat), v = (.tuple #[(.slice A1_ r.1.length c1_), (.int .i64 r.2)]) ∧ St NoS w w' [] [rowO 62 enc_Tile A1_ c1_ r.1]) := by
  have hS : St NoS w w [rowR enc_Tile A_p0 c_p0 p0] [] := St.init (ro_cons hR0 (ro_nil _ _))
  refine enter 8 Tryd.func20 rfl Tryd.ntmps20 rfl ?_
  unfold tile_Upturn at hf
  refine WC.seq ?_
  refine WC.region ?_
  refine seg 2 [] [0] [(0, (.slice A_p0 p0.length c_p0))] [] (fun fb => by kernel_rfl) rfl trivial ?_
  refine WL.done rfl ?_
  refine WX.next ?_
  refine WC.seq ?_
  refine WC.region ?_
  refine seg 1 [] [4] [(4, (.slice A_p0 p0.length c_p0))] [] (fun fb => by kernel_rfl) rfl trivial ?_
  obtain ⟨t5986, ht5987, hf⟩ := bind_some hf
  refine WL.call (some 5) 50 #[(.slice A_p0 p0.length c_p0), (.int .i64 1)] (fun fb => by kernel_rfl) (tile_changed_at1_calls _ p0 A_p0 c_p0 t5986 _ (hS.rd 0) ht5987) (fun v w5988 hR5989 => ?_)
  obtain ⟨A5991, c5992, rfl, hk_⟩ := hR5989
  have hS5990 : St NoS w w5988 [rowR enc_Tile A_p0 c_p0 p0] [rowO 62 enc_Tile A5991 c5992 t5986.1] := hS.call hk_ [] [] (fun g hg => hg.elim) (by simp) (by decide)
  refine ⟨trivial, ?_⟩
  refine seg 6 [] [2, 3] [(2, (.slice A5991 t5986.1.length c5992)), (3, (.int .i64 t5986.2))] [] (fun fb => by kernel_rfl) rfl trivial ?_
  refine WL.done rfl ?_
  refine WX.next ?_
  refine WC.ret ?_
  injection hf with hf
  subst hf
  exact WX.ret_ [] (.tuple #[(.slice A5991 t5986.1.length c5992), (.int .i64 t5986.2)]) [] (fun fb => by kernel_rfl) trivial ⟨_, rfl, A5991, c5992, rfl, (hS5990.sub [0] (by decide)).noR⟩
theorem tile_same_calls (p0 : Int) (p1 : Int)  (r : Int × Int) (w : World)  (hf : tile_same p0 p1 = some r) :
    CallsR Tryd.prog 80 #[(.int .i64 p0), (.int .i64 p1)] w (fun v w' => v = (.tuple #[(.int .i64 r.1), (.int .i64 r.2)]) ∧ Keeps NoS w w') := by
  have hS : St NoS w w [] [] := St.init (ro_nil _ _)
  refine enter 8 Tryd.func80 rfl Tryd.ntmps80 rfl ?_
  unfold tile_same at hf
  refine WC.seq ?_
  refine WC.region ?_
  refine seg 2 [] [0, 1] [(0, (.int .i64 p0)), (1, (.int .i64 p1))] [] (fun fb => by kernel_rfl) rfl trivial ?_
  refine WL.done rfl ?_
  refine WX.next ?_
  refine WC.seq ?_
  refine WC.region ?_
  refine seg 4 [] [4, 5] [(4, (.int .i64 p0)), (5, (.int .i64 p1))] [] (fun fb => by kernel_rfl) rfl trivial ?_
  refine WL.done rfl ?_
  refine WX.next ?_
  refine WC.ret ?_
  injection hf with hf
  subst hf
  exact WX.ret_ [] (.tuple #[(.int .i64 p0), (.int .i64 p1)]) [] (fun fb => by kernel_rfl) trivial ⟨_, rfl, rfl, hS.keep⟩
theorem tile_changes_2_calls (p0 : Pattern) (p1 : Int) (p2 : Int) (A_p0_Cells : Option Addr) (c_p0_Cells : Nat) (r : Int × Int) (w : World) (hR0 : RO NoS w (rowR encInt A_p0_Cells c_p0_Cells p0.Cells)) (hf : tile_changes_2 p0 p1 p2 = some r) :
    CallsR Tryd.prog 81 #[(.agg #[(.int .i64 p0.Width), (.int .i64 p0.Height), (.slice A_p0_Cells p0.Cells.length c_p0_Cells)]), (.int .i64 p1), (.int .i64 p2)] w (fun v w' => v = (.tuple #[(.int .i64 r.1), (.int .i64 r.2)]) ∧ Keeps NoS w w') := by
  have hS : St NoS w w [rowR encInt A_p0_Cells c_p0_Cells p0.Cells] [] := St.init (ro_cons hR0 (ro_nil _ _))
  refine enter 14 Tryd.func81 rfl Tryd.ntmps81 rfl ?_
  unfold tile_changes_2 at hf
  refine WC.seq ?_
  refine WC.region ?_
  refine WL.new hS 3 [] (fun g => (.pointer (some ⟨g, 0, none⟩))) (.cells #[(.int .i64 p0.Width), (.int .i64 p0.Height), (.slice A_p0_Cells p0.Cells.length c_p0_Cells)] 35 (0, 0)) [] (fun fb g => by kernel_rfl) trivial (fun g6051 w6052 hS6053 => ?_)
  refine ⟨trivial, ?_⟩
  refine seg 3 [] [1, 2, 3] [(1, (.int .i64 p1)), (2, (.int .i64 p2)), (3, (.pointer (some ⟨g6051, 0, none⟩)))] [] (fun fb => by kernel_rfl) rfl trivial ?_
  refine WL.done rfl ?_
  refine WX.next ?_
  refine WC.seq ?_
  refine WC.region ?_
  refine seg 8 [.v (.int .i64 p0.Width)] [6, 7] [(6, (.int .i64 (w64 ((w64 (p0.Width - 1)) - p1)))), (7, (.int .i64 p2))] [.cell ⟨g6051, 0, none⟩ (.int .i64 p0.Width)] (fun fb => by kernel_rfl) rfl ⟨hS6053.cell 0 rfl 0 rfl, trivial⟩ ?_
  refine WL.done rfl ?_
  refine WX.next ?_
  refine WC.ret ?_
  injection hf with hf
  subst hf
  exact WX.ret_ [] (.tuple #[(.int .i64 (w64 ((w64 (p0.Width - 1)) - p1))), (.int .i64 p2)]) [] (fun fb => by kernel_rfl) trivial ⟨_, rfl, rfl, hS6053.keep⟩
theorem tile_changedPattern_at0_calls (k : Nat) (p0 : Pattern) (A_p0_Cells : Option Addr) (c_p0_Cells : Nat) (r : Pattern × Int) (w : World) (hR0 : RO NoS w (rowR encInt A_p0_Cells c_p0_Cells p0.Cells)) (hf : tile_changedPattern_at0 k p0 = some r) :
    CallsR Tryd.prog 53 #[(.agg #[(.int .i64 p0.Width), (.int .i64 p0.Height), (.slice A_p0_Cells p0.Cells.length c_p0_Cells)]), (.int .i64 0)] w (fun v w' => ∃ (A1_ : Option Addr), ∃ (c1_ : Nat), v = (.tuple #[(.agg #[(.int .i64 r.1.Width), (.int .i64 r.1.Height), (.slice A1_ r.1.Cells.length c1_)]), (.int .i64 r.2)]) ∧ St NoS w w' [] [rowO 3 encInt A1_ c1_ r.1.Cells]) := by
  have hS : St NoS w w [rowR encInt A_p0_Cells c_p0_Cells p0.Cells] [] := St.init (ro_cons hR0 (ro_nil _ _))
  refine enter 68 Tryd.func53 rfl Tryd.ntmps53 rfl ?_
  unfold tile_changedPattern_at0 at hf
  refine WC.seq ?_
  refine WC.region ?_
  refine WL.new hS 2 [] (fun g => (.pointer (some ⟨g, 0, none⟩))) (.cells #[(.int .i64 p0.Width), (.int .i64 p0.Height), (.slice A_p0_Cells p0.Cells.length c_p0_Cells)] 35 (0, 0)) [] (fun fb g => by kernel_rfl) trivial (fun g6008 w6009 hS6010 => ?_)
  refine ⟨trivial, ?_⟩
  refine WL.new hS6010 4 [] (fun g => (.pointer (some ⟨g, 0, none⟩))) (.cells #[(.int .i64 0), (.int .i64 0), (.slice none 0 0)] 35 (0, 0)) [] (fun fb g => by kernel_rfl) trivial (fun g6012 w6013 hS6014 => ?_)
  refine ⟨trivial, ?_⟩
  refine seg 3 [] [1, 2, 4] [(1, (.int .i64 0)), (2, (.pointer (some ⟨g6008, 0, none⟩))), (4, (.pointer (some ⟨g6012, 0, none⟩)))] [] (fun fb => by kernel_rfl) rfl trivial ?_
  refine WL.done rfl ?_
  refine WX.next ?_
  refine WC.seq ?_
  refine WC.seq ?_
  refine WC.region ?_
  refine seg 1 [.v (.int .i64 p0.Width), .v (.int .i64 p0.Height), .v (.slice A_p0_Cells p0.Cells.length c_p0_Cells)] [1, 2, 4, 12] [(1, (.int .i64 0)), (2, (.pointer (some ⟨g6008, 0, none⟩))), (4, (.pointer (some ⟨g6012, 0, none⟩))), (12, (.agg #[(.int .i64 p0.Width), (.int .i64 p0.Height), (.slice A_p0_Cells p0.Cells.length c_p0_Cells)]))] [.cell ⟨g6008, 0, none⟩ (.int .i64 p0.Width), .cell ⟨g6008, 1, none⟩ (.int .i64 p0.Height), .cell ⟨g6008, 2, none⟩ (.slice A_p0_Cells p0.Cells.length c_p0_Cells)] (fun fb => by kernel_rfl) rfl ⟨hS6014.cell 1 rfl 0 rfl, hS6014.cell 1 rfl 1 rfl, hS6014.cell 1 rfl 2 rfl, trivial⟩ ?_
  obtain ⟨t6016, ht6017, hf⟩ := bind_some hf
  refine WL.call (some 13) 54 #[(.agg #[(.int .i64 p0.Width), (.int .i64 p0.Height), (.slice A_p0_Cells p0.Cells.length c_p0_Cells)])] (fun fb => by kernel_rfl) (tile_Form_calls p0 A_p0_Cells c_p0_Cells t6016 _ (hS6014.rd 0) ht6017) (fun v w6018 hR6019 => ?_)
  obtain ⟨rfl, hk_⟩ := hR6019
  have hS6020 := hS6014.keepN hk_
  refine ⟨trivial, ?_⟩
  refine seg 3 [] [1, 2, 4, 14] [(1, (.int .i64 0)), (2, (.pointer (some ⟨g6008, 0, none⟩))), (4, (.pointer (some ⟨g6012, 0, none⟩))), (14, (.bool (!t6016)))] [] (fun fb => by kernel_rfl) rfl trivial ?_
  refine WL.done rfl ?_
  refine WX.next ?_
  rcases br_some hf with ⟨h6021, hf⟩ | ⟨h6021, hf⟩
  · refine WC.condT2 (fun fb => by kernel_rfl) h6021 ?_
    refine WC.seq ?_
    refine WC.region ?_
    refine seg 1 [] [4, 15] [(4, (.pointer (some ⟨g6012, 0, none⟩))), (15, (.agg #[(.int .i64 0), (.int .i64 0), (.slice none 0 0)]))] [] (fun fb => by kernel_rfl) rfl trivial ?_
    refine WL.store hS6020 0 rfl [(0, (.int .i64 0)), (1, (.int .i64 0)), (2, (.slice none 0 0))] #[(.int .i64 0), (.int .i64 0), (.slice none 0 0)] (fun fb => by kernel_rfl) (by kernel_rfl) rfl [1] (by decide) (by decide) (fun w6022 hS6023 => ?_)
    refine ⟨trivial, ?_⟩
    refine seg 3 [] [4, 5] [(4, (.pointer (some ⟨g6012, 0, none⟩))), (5, (.int .i64 1))] [] (fun fb => by kernel_rfl) rfl trivial ?_
    refine WL.done rfl ?_
    refine WX.next ?_
    refine WC.ret ?_
    have hS6024 := hS6023.nilrow 3 encInt
    injection hf with hf
    subst hf
    exact WX.thenR (WX.ret_ [.v (.int .i64 0), .v (.int .i64 0), .v (.slice none 0 0)] (.tuple #[(.agg #[(.int .i64 0), (.int .i64 0), (.slice none ([] : List Int).length 0)]), (.int .i64 1)]) [.cell ⟨g6012, 0, none⟩ (.int .i64 0), .cell ⟨g6012, 1, none⟩ (.int .i64 0), .cell ⟨g6012, 2, none⟩ (.slice none 0 0)] (fun fb => by kernel_rfl) ⟨hS6023.cell 0 rfl 0 rfl, hS6023.cell 0 rfl 1 rfl, hS6023.cell 0 rfl 2 rfl, trivial⟩ ⟨_, rfl, none, 0, rfl, (hS6024.sub [0] (by decide)).noR⟩)
  refine WC.condF2 (fun fb => by kernel_rfl) h6021 ?_
  refine WC.skip ?_
  refine WX.next ?_
  refine WC.seq ?_
  refine WC.region ?_
  obtain ⟨t6025, ht6026, hf⟩ := bind_some hf
  refine WL.call (some 16) 64 #[] (fun fb => by kernel_rfl) (tile_changes_calls t6025 _ ht6026) (fun v w6027 hR6028 => ?_)
  obtain ⟨rfl, hk_⟩ := hR6028
  have hS6029 := hS6020.keepN hk_
  refine ⟨trivial, ?_⟩
  refine seg 3 [] [2, 4, 18] [(2, (.pointer (some ⟨g6008, 0, none⟩))), (4, (.pointer (some ⟨g6012, 0, none⟩))), (18, (.agg #[(.func (.func 79) #[] #[]), (.func (.func 80) #[] #[]), (.func (.func 81) #[] #[])]))] [] (fun fb => by kernel_rfl) rfl trivial ?_
  refine WL.new hS6029 6 [] (fun g => (.pointer (some ⟨g, 0, none⟩))) (.cells #[.nilFunc, .nilFunc, .nilFunc] 83 (0, 0)) [] (fun fb g => by kernel_rfl) trivial (fun g6030 w6031 hS6032 => ?_)
  refine ⟨trivial, ?_⟩
  refine WL.store hS6032 0 rfl [(0, (.func (.func 79) #[] #[])), (1, (.func (.func 80) #[] #[])), (2, (.func (.func 81) #[] #[]))] #[(.func (.func 79) #[] #[]), (.func (.func 80) #[] #[]), (.func (.func 81) #[] #[])] (fun fb => by kernel_rfl) (by kernel_rfl) rfl [1, 2] (by decide) (by decide) (fun w6034 hS6035 => ?_)
  refine ⟨trivial, ?_⟩
  refine WL.done rfl ?_
  refine WX.next ?_
  refine WC.seq ?_
  refine WC.region ?_
  refine WL.new hS6035 7 [] (fun g => (.pointer (some ⟨g, 0, none⟩))) (.cells #[(.int .i64 0), (.int .i64 0), (.slice none 0 0)] 35 (0, 0)) [] (fun fb g => by kernel_rfl) trivial (fun g6036 w6037 hS6038 => ?_)
  refine ⟨trivial, ?_⟩
  refine WL.done rfl ?_
  refine WX.next ?_
  refine WC.seq ?_
  refine WC.region ?_
  refine seg 6 [.v (.func (.func 80) #[] #[]), .v (.int .i64 p0.Width), .v (.int .i64 p0.Height)] [2, 4, 6, 7, 21, 23, 25] [(2, (.pointer (some ⟨g6008, 0, none⟩))), (4, (.pointer (some ⟨g6012, 0, none⟩))), (6, (.pointer (some ⟨g6030, 0, none⟩))), (7, (.pointer (some ⟨g6036, 0, none⟩))), (21, (.func (.func 80) #[] #[])), (23, (.int .i64 p0.Width)), (25, (.int .i64 p0.Height))] [.cell ⟨g6030, 1, none⟩ (.func (.func 80) #[] #[]), .cell ⟨g6008, 0, none⟩ (.int .i64 p0.Width), .cell ⟨g6008, 1, none⟩ (.int .i64 p0.Height)] (fun fb => by kernel_rfl) rfl ⟨hS6038.cell 1 rfl 1 rfl, hS6038.cell 3 rfl 0 rfl, hS6038.cell 3 rfl 1 rfl, trivial⟩ ?_
  obtain ⟨t6040, ht6041, hf⟩ := bind_some hf
  refine WL.call (some 26) 80 #[(.int .i64 p0.Width), (.int .i64 p0.Height)] (fun fb => by kernel_rfl) (tile_same_calls p0.Width p0.Height t6040 _ ht6041) (fun v w6042 hR6043 => ?_)
  obtain ⟨rfl, hk_⟩ := hR6043
  have hS6044 := hS6038.keepN hk_
  refine ⟨trivial, ?_⟩
  refine seg 11 [] [2, 4, 6, 7, 27, 28, 29] [(2, (.pointer (some ⟨g6008, 0, none⟩))), (4, (.pointer (some ⟨g6012, 0, none⟩))), (6, (.pointer (some ⟨g6030, 0, none⟩))), (7, (.pointer (some ⟨g6036, 0, none⟩))), (27, (.int .i64 t6040.1)), (28, (.int .i64 t6040.2)), (29, (.pointer (some ⟨g6036, 0, none⟩)))] [] (fun fb => by kernel_rfl) rfl trivial ?_
  refine WL.store hS6044 0 rfl [(0, (.int .i64 t6040.1))] #[(.int .i64 t6040.1), (.int .i64 0), (.slice none 0 0)] (fun fb => by kernel_rfl) (by kernel_rfl) rfl [1, 2, 3] (by decide) (by decide) (fun w6045 hS6046 => ?_)
  refine ⟨trivial, ?_⟩
  refine seg 13 [] [2, 4, 6, 7, 28, 30] [(2, (.pointer (some ⟨g6008, 0, none⟩))), (4, (.pointer (some ⟨g6012, 0, none⟩))), (6, (.pointer (some ⟨g6030, 0, none⟩))), (7, (.pointer (some ⟨g6036, 0, none⟩))), (28, (.int .i64 t6040.2)), (30, (.pointer (some ⟨g6036, 1, none⟩)))] [] (fun fb => by kernel_rfl) rfl trivial ?_
  refine WL.store hS6046 0 rfl [(1, (.int .i64 t6040.2))] #[(.int .i64 t6040.1), (.int .i64 t6040.2), (.slice none 0 0)] (fun fb => by kernel_rfl) (by kernel_rfl) rfl [1, 2, 3] (by decide) (by decide) (fun w6047 hS6048 => ?_)
  refine ⟨trivial, ?_⟩
  refine WL.done rfl ?_
  refine WX.next ?_
  refine WC.seq ?_
  refine WC.seq ?_
  refine WC.region ?_
  refine seg 3 [.v (.int .i64 t6040.2)] [2, 4, 6, 7, 32, 33] [(2, (.pointer (some ⟨g6008, 0, none⟩))), (4, (.pointer (some ⟨g6012, 0, none⟩))), (6, (.pointer (some ⟨g6030, 0, none⟩))), (7, (.pointer (some ⟨g6036, 0, none⟩))), (32, (.int .i64 t6040.2)), (33, (.int .i64 0))] [.cell ⟨g6036, 1, none⟩ (.int .i64 t6040.2)] (fun fb => by kernel_rfl) rfl ⟨hS6048.cell 0 rfl 1 rfl, trivial⟩ ?_
  refine WL.done rfl ?_
  refine WX.next ?_
  have hS6316 := hS6048.nilrow 3 encInt
  obtain ⟨x6324, hx6325, hf⟩ := bind_some hf
  refine WC.cutN (T := (List Int) × (Option Addr) × Nat) (fun t => [(4, (.pointer (some ⟨g6012, 0, none⟩))), (7, (.pointer (some ⟨g6036, 0, none⟩)))]) (fun t w1 => St NoS w w1 [rowR encInt A_p0_Cells c_p0_Cells p0.Cells] [blk g6012 (.cells #[(.int .i64 0), (.int .i64 0), (.slice none 0 0)] 35 (0, 0)), blk g6036 (.cells #[(.int .i64 t6040.1), (.int .i64 t6040.2), (.slice t.2.1 t.1.length t.2.2)] 35 (0, 0)), rowO 3 encInt t.2.1 t.2.2 t.1] ∧ x6324 = t.1) (fun Kx6324 => ?_) ?_
  ·
    refine WC.block ?_
    refine WC.loop (T := ((List Int) × Int) × (Option Addr) × Nat) (fun t => [(2, (.pointer (some ⟨g6008, 0, none⟩))), (4, (.pointer (some ⟨g6012, 0, none⟩))), (6, (.pointer (some ⟨g6030, 0, none⟩))), (7, (.pointer (some ⟨g6036, 0, none⟩))), (32, (.int .i64 t6040.2)), (33, (.int .i64 t.1.2))]) (fun n t w1 => St NoS w w1 [rowR encInt A_p0_Cells c_p0_Cells p0.Cells] [blk g6008 (.cells #[(.int .i64 p0.Width), (.int .i64 p0.Height), (.slice A_p0_Cells p0.Cells.length c_p0_Cells)] 35 (0, 0)), blk g6012 (.cells #[(.int .i64 0), (.int .i64 0), (.slice none 0 0)] 35 (0, 0)), blk g6030 (.cells #[(.func (.func 79) #[] #[]), (.func (.func 80) #[] #[]), (.func (.func 81) #[] #[])] 83 (0, 0)), blk g6036 (.cells #[(.int .i64 t6040.1), (.int .i64 t6040.2), (.slice t.2.1 t.1.1.length t.2.2)] 35 (0, 0)), rowO 3 encInt t.2.1 t.2.2 t.1.1] ∧ tile_changedPattern_at0.l0 n t.1.1 t.1.2 p0 t6040 = some x6324) k ((([] : List Int), 0), none, 0) [2, 4, 6, 7, 32, 33] rfl ⟨(hS6316.subR [0]).sub [4, 3, 2, 1, 0] (by decide), hx6325⟩ ?_
    rintro k6326 ⟨⟨l6319, x6320⟩, A6317, c6318⟩ w6327 ⟨hS6328, hl6329⟩
    cases k6326 with
    | zero => rw [tile_changedPattern_at0.l0] at hl6329; cases hl6329
    | succ k6326 =>
      rw [tile_changedPattern_at0.l0] at hl6329
      refine WC.seq ?_
      refine WC.region ?_
      refine seg 1 [] [2, 4, 6, 7, 32, 33, 34] [(2, (.pointer (some ⟨g6008, 0, none⟩))), (4, (.pointer (some ⟨g6012, 0, none⟩))), (6, (.pointer (some ⟨g6030, 0, none⟩))), (7, (.pointer (some ⟨g6036, 0, none⟩))), (32, (.int .i64 t6040.2)), (33, (.int .i64 x6320)), (34, (.bool (decide (x6320 < t6040.2))))] [] (fun fb => by kernel_rfl) rfl trivial ?_
      refine WL.done rfl ?_
      refine WX.next ?_
      refine WC.seq ?_
      rcases br_some hl6329 with ⟨h6330, hl6329⟩ | ⟨h6330, hl6329⟩
      · refine WC.condT2 (fun fb => by kernel_rfl) h6330 ?_
        refine WC.skip ?_
        refine WX.next ?_
        refine WC.seq ?_
        refine WC.block ?_
        refine WC.seq ?_
        refine WC.region ?_
        refine seg 2 [] [2, 4, 6, 7, 8, 32, 33] [(2, (.pointer (some ⟨g6008, 0, none⟩))), (4, (.pointer (some ⟨g6012, 0, none⟩))), (6, (.pointer (some ⟨g6030, 0, none⟩))), (7, (.pointer (some ⟨g6036, 0, none⟩))), (8, (.int .i64 x6320)), (32, (.int .i64 t6040.2)), (33, (.int .i64 x6320))] [] (fun fb => by kernel_rfl) rfl trivial ?_
        refine WL.done rfl ?_
        refine WX.next ?_
        refine WC.seq ?_
        refine WC.region ?_
        refine seg 3 [.v (.int .i64 t6040.1)] [2, 4, 6, 7, 8, 32, 33, 37, 38] [(2, (.pointer (some ⟨g6008, 0, none⟩))), (4, (.pointer (some ⟨g6012, 0, none⟩))), (6, (.pointer (some ⟨g6030, 0, none⟩))), (7, (.pointer (some ⟨g6036, 0, none⟩))), (8, (.int .i64 x6320)), (32, (.int .i64 t6040.2)), (33, (.int .i64 x6320)), (37, (.int .i64 t6040.1)), (38, (.int .i64 0))] [.cell ⟨g6036, 0, none⟩ (.int .i64 t6040.1)] (fun fb => by kernel_rfl) rfl ⟨hS6328.cell 3 rfl 0 rfl, trivial⟩ ?_
        refine WL.done rfl ?_
        refine WX.next ?_
        obtain ⟨x6412, hx6413, hl6329⟩ := bind_some hl6329
        refine WC.cutN (T := (List Int) × (Option Addr) × Nat) (fun t => [(2, (.pointer (some ⟨g6008, 0, none⟩))), (4, (.pointer (some ⟨g6012, 0, none⟩))), (6, (.pointer (some ⟨g6030, 0, none⟩))), (7, (.pointer (some ⟨g6036, 0, none⟩))), (32, (.int .i64 t6040.2)), (33, (.int .i64 x6320))]) (fun t w1 => St NoS w w1 [rowR encInt A_p0_Cells c_p0_Cells p0.Cells] [blk g6008 (.cells #[(.int .i64 p0.Width), (.int .i64 p0.Height), (.slice A_p0_Cells p0.Cells.length c_p0_Cells)] 35 (0, 0)), blk g6012 (.cells #[(.int .i64 0), (.int .i64 0), (.slice none 0 0)] 35 (0, 0)), blk g6030 (.cells #[(.func (.func 79) #[] #[]), (.func (.func 80) #[] #[]), (.func (.func 81) #[] #[])] 83 (0, 0)), blk g6036 (.cells #[(.int .i64 t6040.1), (.int .i64 t6040.2), (.slice t.2.1 t.1.length t.2.2)] 35 (0, 0)), rowO 3 encInt t.2.1 t.2.2 t.1] ∧ x6412 = t.1) (fun Kx6412 => ?_) ?_
        ·
          refine WC.block ?_
          refine WC.loop (T := ((List Int) × Int) × (Option Addr) × Nat) (fun t => [(2, (.pointer (some ⟨g6008, 0, none⟩))), (4, (.pointer (some ⟨g6012, 0, none⟩))), (6, (.pointer (some ⟨g6030, 0, none⟩))), (7, (.pointer (some ⟨g6036, 0, none⟩))), (8, (.int .i64 x6320)), (32, (.int .i64 t6040.2)), (33, (.int .i64 x6320)), (37, (.int .i64 t6040.1)), (38, (.int .i64 t.1.2))]) (fun n t w1 => St NoS w w1 [rowR encInt A_p0_Cells c_p0_Cells p0.Cells] [blk g6008 (.cells #[(.int .i64 p0.Width), (.int .i64 p0.Height), (.slice A_p0_Cells p0.Cells.length c_p0_Cells)] 35 (0, 0)), blk g6012 (.cells #[(.int .i64 0), (.int .i64 0), (.slice none 0 0)] 35 (0, 0)), blk g6030 (.cells #[(.func (.func 79) #[] #[]), (.func (.func 80) #[] #[]), (.func (.func 81) #[] #[])] 83 (0, 0)), blk g6036 (.cells #[(.int .i64 t6040.1), (.int .i64 t6040.2), (.slice t.2.1 t.1.1.length t.2.2)] 35 (0, 0)), rowO 3 encInt t.2.1 t.2.2 t.1.1] ∧ tile_changedPattern_at0.l1 n t.1.1 t.1.2 p0 t6040 x6320 = some x6412) k6326 ((l6319, 0), A6317, c6318) [2, 4, 6, 7, 8, 32, 33, 37, 38] rfl ⟨(hS6328.subR [0]).sub [0, 1, 2, 3, 4] (by decide), hx6413⟩ ?_
          rintro k6414 ⟨⟨l6407, x6408⟩, A6405, c6406⟩ w6415 ⟨hS6416, hl6417⟩
          cases k6414 with
          | zero => rw [tile_changedPattern_at0.l1] at hl6417; cases hl6417
          | succ k6414 =>
            rw [tile_changedPattern_at0.l1] at hl6417
            refine WC.seq ?_
            refine WC.region ?_
            refine seg 1 [] [2, 4, 6, 7, 8, 32, 33, 37, 38, 39] [(2, (.pointer (some ⟨g6008, 0, none⟩))), (4, (.pointer (some ⟨g6012, 0, none⟩))), (6, (.pointer (some ⟨g6030, 0, none⟩))), (7, (.pointer (some ⟨g6036, 0, none⟩))), (8, (.int .i64 x6320)), (32, (.int .i64 t6040.2)), (33, (.int .i64 x6320)), (37, (.int .i64 t6040.1)), (38, (.int .i64 x6408)), (39, (.bool (decide (x6408 < t6040.1))))] [] (fun fb => by kernel_rfl) rfl trivial ?_
            refine WL.done rfl ?_
            refine WX.next ?_
            refine WC.seq ?_
            rcases br_some hl6417 with ⟨h6418, hl6417⟩ | ⟨h6418, hl6417⟩
            · refine WC.condT2 (fun fb => by kernel_rfl) h6418 ?_
              refine WC.skip ?_
              refine WX.next ?_
              refine WC.seq ?_
              refine WC.block ?_
              refine WC.seq ?_
              refine WC.region ?_
              refine seg 2 [] [2, 4, 6, 7, 8, 9, 32, 33, 37, 38] [(2, (.pointer (some ⟨g6008, 0, none⟩))), (4, (.pointer (some ⟨g6012, 0, none⟩))), (6, (.pointer (some ⟨g6030, 0, none⟩))), (7, (.pointer (some ⟨g6036, 0, none⟩))), (8, (.int .i64 x6320)), (9, (.int .i64 x6408)), (32, (.int .i64 t6040.2)), (33, (.int .i64 x6320)), (37, (.int .i64 t6040.1)), (38, (.int .i64 x6408))] [] (fun fb => by kernel_rfl) rfl trivial ?_
              refine WL.done rfl ?_
              refine WX.next ?_
              refine WC.seq ?_
              refine WC.region ?_
              refine seg 5 [.v (.func (.func 81) #[] #[]), .v (.int .i64 p0.Width), .v (.int .i64 p0.Height), .v (.slice A_p0_Cells p0.Cells.length c_p0_Cells)] [2, 4, 6, 7, 8, 32, 33, 37, 38, 43, 44, 45, 46] [(2, (.pointer (some ⟨g6008, 0, none⟩))), (4, (.pointer (some ⟨g6012, 0, none⟩))), (6, (.pointer (some ⟨g6030, 0, none⟩))), (7, (.pointer (some ⟨g6036, 0, none⟩))), (8, (.int .i64 x6320)), (32, (.int .i64 t6040.2)), (33, (.int .i64 x6320)), (37, (.int .i64 t6040.1)), (38, (.int .i64 x6408)), (43, (.func (.func 81) #[] #[])), (44, (.agg #[(.int .i64 p0.Width), (.int .i64 p0.Height), (.slice A_p0_Cells p0.Cells.length c_p0_Cells)])), (45, (.int .i64 x6408)), (46, (.int .i64 x6320))] [.cell ⟨g6030, 2, none⟩ (.func (.func 81) #[] #[]), .cell ⟨g6008, 0, none⟩ (.int .i64 p0.Width), .cell ⟨g6008, 1, none⟩ (.int .i64 p0.Height), .cell ⟨g6008, 2, none⟩ (.slice A_p0_Cells p0.Cells.length c_p0_Cells)] (fun fb => by kernel_rfl) rfl ⟨hS6416.cell 2 rfl 2 rfl, hS6416.cell 0 rfl 0 rfl, hS6416.cell 0 rfl 1 rfl, hS6416.cell 0 rfl 2 rfl, trivial⟩ ?_
              obtain ⟨t6419, ht6420, hl6417⟩ := bind_some hl6417
              refine WL.call (some 47) 81 #[(.agg #[(.int .i64 p0.Width), (.int .i64 p0.Height), (.slice A_p0_Cells p0.Cells.length c_p0_Cells)]), (.int .i64 x6408), (.int .i64 x6320)] (fun fb => by kernel_rfl) (tile_changes_2_calls p0 x6408 x6320 A_p0_Cells c_p0_Cells t6419 _ (hS6416.rd 0) ht6420) (fun v w6421 hR6422 => ?_)
              obtain ⟨rfl, hk_⟩ := hR6422
              have hS6423 := hS6416.keepN hk_
              refine ⟨trivial, ?_⟩
              refine seg 11 [] [2, 4, 6, 7, 8, 10, 11, 32, 33, 37, 38] [(2, (.pointer (some ⟨g6008, 0, none⟩))), (4, (.pointer (some ⟨g6012, 0, none⟩))), (6, (.pointer (some ⟨g6030, 0, none⟩))), (7, (.pointer (some ⟨g6036, 0, none⟩))), (8, (.int .i64 x6320)), (10, (.int .i64 t6419.1)), (11, (.int .i64 t6419.2)), (32, (.int .i64 t6040.2)), (33, (.int .i64 x6320)), (37, (.int .i64 t6040.1)), (38, (.int .i64 x6408))] [] (fun fb => by kernel_rfl) rfl trivial ?_
              refine WL.done rfl ?_
              refine WX.next ?_
              obtain ⟨h6440, hl6417⟩ := as_some hl6417
              refine WC.regionD ([(1, ⟨g6036, 2, none⟩, (.slice A6405 l6407.length c6406)), (3, ⟨g6008, 2, none⟩, (.slice A_p0_Cells p0.Cells.length c_p0_Cells)), (6, ⟨g6008, 0, none⟩, (.int .i64 p0.Width)), (11, ((adr A_p0_Cells).add ((w64 ((w64 (t6419.2 * p0.Width)) + t6419.1)).toNat * 1)), (.int .i64 (rdD p0.Cells (w64 ((w64 (t6419.2 * p0.Width)) + t6419.1)) 0)))], [0, 1, 2, 3, 4, 5, 6, 7, 8, 9, 10, 11, 14], [[], [0], [], [2], [], [], [5], [4, 5, 6], [], [4, 5, 6, 7, 8], [2, 3, 4, 5, 6, 7, 8, 9], [2, 3, 4, 5, 6, 7, 8, 9, 10], [2, 3, 4, 5, 6, 7, 8, 9, 10, 11], [0, 1, 2, 3, 4, 5, 6, 7, 8, 9, 10, 11, 12], [0, 1, 2, 3, 4, 5, 6, 7, 8, 9, 10, 11, 12, 13], [0, 1, 2, 3, 4, 5, 6, 7, 8, 9, 10, 11, 12, 13, 14]]) [[0, 1, 2, 3, 4, 5, 6, 7, 8, 9, 10, 11, 12, 13, 14, 15]] (by kernel_rfl) (by kernel_rfl) (NoPanic.block (NoPanic.seq (NoPanic.seq (NoPanic.block (NoPanic.block (NoPanic.seq (NoPanic.seq (NoPanic.block (NoPanic.seq (NoPanic.body)))))))))) ?_
              have hS6438 := hS6423.drew
              revert hS6438
              generalize World.drew w6421 = w6437
              intro hS6438
              refine ⟨⟨hS6438.cell 3 rfl 2 rfl, hS6438.cell 0 rfl 2 rfl, hS6438.cell 0 rfl 0 rfl, rowR.cell (hS6438.rd 0).1 0 h6440.1 h6440.2 0 rfl, trivial⟩, forallC ?_ (forallN)⟩
              refine segF 12 [.v (.slice A6405 l6407.length c6406), .v (.slice A_p0_Cells p0.Cells.length c_p0_Cells), .v (.int .i64 p0.Width), .v (.int .i64 (rdD p0.Cells (w64 ((w64 (t6419.2 * p0.Width)) + t6419.1)) 0))] [2, 4, 6, 7, 8, 32, 33, 37, 38, 51, 61] [(2, (.pointer (some ⟨g6008, 0, none⟩))), (4, (.pointer (some ⟨g6012, 0, none⟩))), (6, (.pointer (some ⟨g6030, 0, none⟩))), (7, (.pointer (some ⟨g6036, 0, none⟩))), (8, (.int .i64 x6320)), (32, (.int .i64 t6040.2)), (33, (.int .i64 x6320)), (37, (.int .i64 t6040.1)), (38, (.int .i64 x6408)), (51, (.slice A6405 l6407.length c6406)), (61, (.int .i64 (rdD p0.Cells (w64 ((w64 (t6419.2 * p0.Width)) + t6419.1)) 0)))] [.idx A_p0_Cells (w64 ((w64 (t6419.2 * p0.Width)) + t6419.1)) p0.Cells.length] [0, 1, 2, 3] [(1, ⟨g6036, 2, none⟩, (.slice A6405 l6407.length c6406)), (3, ⟨g6008, 2, none⟩, (.slice A_p0_Cells p0.Cells.length c_p0_Cells)), (6, ⟨g6008, 0, none⟩, (.int .i64 p0.Width)), (11, ((adr A_p0_Cells).add ((w64 ((w64 (t6419.2 * p0.Width)) + t6419.1)).toNat * 1)), (.int .i64 (rdD p0.Cells (w64 ((w64 (t6419.2 * p0.Width)) + t6419.1)) 0)))] (fun fb => by kernel_rfl) rfl ⟨rowR.adr (hS6438.rd 0).1 h6440.1 h6440.2, trivial⟩ rfl ?_
              refine WL.new hS6438 62 [] (fun g => (.slice (some ⟨g, 0, none⟩) 1 1)) (.cells #[(.int .i64 (rdD p0.Cells (w64 ((w64 (t6419.2 * p0.Width)) + t6419.1)) 0))] 3 (0, 0)) [] (fun fb g => by kernel_rfl) trivial (fun g6441 w6442 hS6443 => ?_)
              refine ⟨⟨hS6443.cell 4 rfl 2 rfl, trivial⟩, ?_⟩
              have hS6445 : St NoS w w6442 [rowR encInt A_p0_Cells c_p0_Cells p0.Cells] [rowO 3 encInt (some ⟨g6441, 0, none⟩) 1 [(rdD p0.Cells (w64 ((w64 (t6419.2 * p0.Width)) + t6419.1)) 0)], blk g6008 (.cells #[(.int .i64 p0.Width), (.int .i64 p0.Height), (.slice A_p0_Cells p0.Cells.length c_p0_Cells)] 35 (0, 0)), blk g6012 (.cells #[(.int .i64 0), (.int .i64 0), (.slice none 0 0)] 35 (0, 0)), blk g6030 (.cells #[(.func (.func 79) #[] #[]), (.func (.func 80) #[] #[]), (.func (.func 81) #[] #[])] 83 (0, 0)), blk g6036 (.cells #[(.int .i64 t6040.1), (.int .i64 t6040.2), (.slice A6405 l6407.length c6406)] 35 (0, 0)), rowO 3 encInt A6405 c6406 l6407] := hS6443.map1 0 _ (fun h => rowO.ofBlk h rfl (Nat.le_of_ble_eq_true (by kernel_rfl))) (fun _ h => by obtain ⟨_, h1, h2⟩ := h; injection h1 with h1; subst h1; exact h2) [1, 2, 3, 4, 5] (by decide) (by decide)
              obtain ⟨h6446, hl6417⟩ := as_some hl6417
              refine WL.append hS6445 5 (d := 63) (tS := 33) (z := (.int .i64 0)) (bytes := 8) (c2 := 1) rfl (fun fb => by kernel_rfl) (rowO.rd (hS6445.own 0).1) (by kernel_rfl) (by kernel_rfl) rfl (by decide) h6446 (by decide) [0, 1, 2, 3, 4] (by decide) (by decide) (fun A6447 c6448 w6449 hS6450 => ?_)
              refine ⟨trivial, ?_⟩
              refine seg 15 [] [2, 4, 6, 7, 8, 32, 33, 37, 38, 63, 64] [(2, (.pointer (some ⟨g6008, 0, none⟩))), (4, (.pointer (some ⟨g6012, 0, none⟩))), (6, (.pointer (some ⟨g6030, 0, none⟩))), (7, (.pointer (some ⟨g6036, 0, none⟩))), (8, (.int .i64 x6320)), (32, (.int .i64 t6040.2)), (33, (.int .i64 x6320)), (37, (.int .i64 t6040.1)), (38, (.int .i64 x6408)), (63, (.slice A6447 (l6407 ++ [(rdD p0.Cells (w64 ((w64 (t6419.2 * p0.Width)) + t6419.1)) 0)]).length c6448)), (64, (.pointer (some ⟨g6036, 2, none⟩)))] [] (fun fb => by kernel_rfl) rfl trivial ?_
              refine WL.store hS6450 5 rfl [(2, (.slice A6447 (l6407 ++ [(rdD p0.Cells (w64 ((w64 (t6419.2 * p0.Width)) + t6419.1)) 0)]).length c6448))] #[(.int .i64 t6040.1), (.int .i64 t6040.2), (.slice A6447 (l6407 ++ [(rdD p0.Cells (w64 ((w64 (t6419.2 * p0.Width)) + t6419.1)) 0)]).length c6448)] (fun fb => by kernel_rfl) (by kernel_rfl) rfl [0, 1, 2, 3, 4] (by decide) (by decide) (fun w6451 hS6452 => ?_)
              refine ⟨trivial, ?_⟩
              refine WL.done rfl ?_
              refine WX.blockN (WX.next ?_)
              refine WC.region ?_
              refine seg 2 [] [2, 4, 6, 7, 8, 32, 33, 37, 38] [(2, (.pointer (some ⟨g6008, 0, none⟩))), (4, (.pointer (some ⟨g6012, 0, none⟩))), (6, (.pointer (some ⟨g6030, 0, none⟩))), (7, (.pointer (some ⟨g6036, 0, none⟩))), (8, (.int .i64 x6320)), (32, (.int .i64 t6040.2)), (33, (.int .i64 x6320)), (37, (.int .i64 t6040.1)), (38, (.int .i64 (w64 (x6408 + 1))))] [] (fun fb => by kernel_rfl) rfl trivial ?_
              refine WL.done rfl ?_
              exact WX.again k6414 (Nat.lt_succ_self _) ((l6407 ++ [(rdD p0.Cells (w64 ((w64 (t6419.2 * p0.Width)) + t6419.1)) 0)], w64 (x6408 + 1)), A6447, c6448) [2, 4, 6, 7, 8, 32, 33, 37, 38] rfl ⟨(hS6452.subR [0]).sub [3, 4, 5, 0, 1] (by decide), hl6417⟩
            refine WC.condF2 (fun fb => by kernel_rfl) h6418 ?_
            refine WC.exit ?_
            injection hl6417 with hl6417
            exact WX.thenX (WX.thenX (WX.blockHere (WX.to Kx6412 (l6407, A6405, c6406) [2, 4, 6, 7, 32, 33] rfl ⟨(hS6416.subR [0]).sub [0, 1, 2, 3, 4] (by decide), hl6417.symm⟩)))
        rintro ⟨y6456, A6409, c6410⟩ w6453 ⟨hS6454, hq6455⟩
        subst hq6455
        refine WX.blockN (WX.next ?_)
        refine WC.region ?_
        refine seg 2 [] [2, 4, 6, 7, 32, 33] [(2, (.pointer (some ⟨g6008, 0, none⟩))), (4, (.pointer (some ⟨g6012, 0, none⟩))), (6, (.pointer (some ⟨g6030, 0, none⟩))), (7, (.pointer (some ⟨g6036, 0, none⟩))), (32, (.int .i64 t6040.2)), (33, (.int .i64 (w64 (x6320 + 1))))] [] (fun fb => by kernel_rfl) rfl trivial ?_
        refine WL.done rfl ?_
        exact WX.again k6326 (Nat.lt_succ_self _) ((x6412, w64 (x6320 + 1)), A6409, c6410) [2, 4, 6, 7, 32, 33] rfl ⟨(hS6454.subR [0]).sub [0, 1, 2, 3, 4] (by decide), hl6329⟩
      refine WC.condF2 (fun fb => by kernel_rfl) h6330 ?_
      refine WC.exit ?_
      injection hl6329 with hl6329
      exact WX.thenX (WX.thenX (WX.blockHere (WX.to Kx6324 (l6319, A6317, c6318) [4, 7] rfl ⟨(hS6328.subR [0]).sub [1, 3, 4] (by decide), hl6329.symm⟩)))
  rintro ⟨y6460, A6321, c6322⟩ w6457 ⟨hS6458, hq6459⟩
  subst hq6459
  refine WX.next ?_
  refine WC.seq ?_
  refine WC.region ?_
  refine seg 1 [.v (.int .i64 t6040.1), .v (.int .i64 t6040.2), .v (.slice A6321 x6324.length c6322)] [4, 67] [(4, (.pointer (some ⟨g6012, 0, none⟩))), (67, (.agg #[(.int .i64 t6040.1), (.int .i64 t6040.2), (.slice A6321 x6324.length c6322)]))] [.cell ⟨g6036, 0, none⟩ (.int .i64 t6040.1), .cell ⟨g6036, 1, none⟩ (.int .i64 t6040.2), .cell ⟨g6036, 2, none⟩ (.slice A6321 x6324.length c6322)] (fun fb => by kernel_rfl) rfl ⟨hS6458.cell 1 rfl 0 rfl, hS6458.cell 1 rfl 1 rfl, hS6458.cell 1 rfl 2 rfl, trivial⟩ ?_
  refine WL.store hS6458 0 rfl [(0, (.int .i64 t6040.1)), (1, (.int .i64 t6040.2)), (2, (.slice A6321 x6324.length c6322))] #[(.int .i64 t6040.1), (.int .i64 t6040.2), (.slice A6321 x6324.length c6322)] (fun fb => by kernel_rfl) (by kernel_rfl) rfl [1, 2] (by decide) (by decide) (fun w6461 hS6462 => ?_)
  refine ⟨trivial, ?_⟩
  refine seg 3 [] [4, 5] [(4, (.pointer (some ⟨g6012, 0, none⟩))), (5, (.int .i64 0))] [] (fun fb => by kernel_rfl) rfl trivial ?_
  refine WL.done rfl ?_
  refine WX.next ?_
  refine WC.ret ?_
  injection hf with hf
  subst hf
  exact WX.ret_ [.v (.int .i64 t6040.1), .v (.int .i64 t6040.2), .v (.slice A6321 x6324.length c6322)] (.tuple #[(.agg #[(.int .i64 t6040.1), (.int .i64 t6040.2), (.slice A6321 x6324.length c6322)]), (.int .i64 0)]) [.cell ⟨g6012, 0, none⟩ (.int .i64 t6040.1), .cell ⟨g6012, 1, none⟩ (.int .i64 t6040.2), .cell ⟨g6012, 2, none⟩ (.slice A6321 x6324.length c6322)] (fun fb => by kernel_rfl) ⟨hS6462.cell 0 rfl 0 rfl, hS6462.cell 0 rfl 1 rfl, hS6462.cell 0 rfl 2 rfl, trivial⟩ ⟨_, rfl, A6321, c6322, rfl, (hS6462.sub [2] (by decide)).noR⟩
theorem tile_MirrorPattern_calls (k : Nat) (p0 : Pattern) (A_p0_Cells : Option Addr) (c_p0_Cells : Nat) (r : Pattern × Int) (w : World) (hR0 : RO NoS w (rowR encInt A_p0_Cells c_p0_Cells p0.Cells)) (hf : tile_MirrorPattern k p0 = some r) :
    CallsR Tryd.prog 28 #[(.agg #[(.int .i64 p0.Width), (.int .i64 p0.Height), (.slice A_p0_Cells p0.Cells.length c_p0_Cells)])] w (fun v w' => ∃ (A1_ : Option Addr), ∃ (c1_ : Nat), v = (.tuple #[(.agg #[(.int .i64 r.1.Width), (.int .i64 r.1.Height), (.slice A1_ r.1.Cells.length c1_)]), (.int .i64 r.2)]) ∧ St NoS w w' [] [rowO 3 encInt A1_ c1_ r.1.Cells]) := by
  have hS : St NoS w w [rowR encInt A_p0_Cells c_p0_Cells p0.Cells] [] := St.init (ro_cons hR0 (ro_nil _ _))
  refine enter 8 Tryd.func28 rfl Tryd.ntmps28 rfl ?_
  unfold tile_MirrorPattern at hf
  refine WC.seq ?_
  refine WC.region ?_
  refine WL.new hS 1 [] (fun g => (.pointer (some ⟨g, 0, none⟩))) (.cells #[(.int .i64 p0.Width), (.int .i64 p0.Height), (.slice A_p0_Cells p0.Cells.length c_p0_Cells)] 35 (0, 0)) [] (fun fb g => by kernel_rfl) trivial (fun g6000 w6001 hS6002 => ?_)
  refine ⟨trivial, ?_⟩
  refine WL.new hS6002 2 [] (fun g => (.pointer (some ⟨g, 0, none⟩))) (.cells #[(.int .i64 0), (.int .i64 0), (.slice none 0 0)] 35 (0, 0)) [] (fun fb g => by kernel_rfl) trivial (fun g6004 w6005 hS6006 => ?_)
  refine ⟨trivial, ?_⟩
  refine seg 3 [] [1, 2] [(1, (.pointer (some ⟨g6000, 0, none⟩))), (2, (.pointer (some ⟨g6004, 0, none⟩)))] [] (fun fb => by kernel_rfl) rfl trivial ?_
  refine WL.done rfl ?_
  refine WX.next ?_
  refine WC.seq ?_
  refine WC.region ?_
  refine seg 1 [.v (.int .i64 p0.Width), .v (.int .i64 p0.Height), .v (.slice A_p0_Cells p0.Cells.length c_p0_Cells)] [2, 4] [(2, (.pointer (some ⟨g6004, 0, none⟩))), (4, (.agg #[(.int .i64 p0.Width), (.int .i64 p0.Height), (.slice A_p0_Cells p0.Cells.length c_p0_Cells)]))] [.cell ⟨g6000, 0, none⟩ (.int .i64 p0.Width), .cell ⟨g6000, 1, none⟩ (.int .i64 p0.Height), .cell ⟨g6000, 2, none⟩ (.slice A_p0_Cells p0.Cells.length c_p0_Cells)] (fun fb => by kernel_rfl) rfl ⟨hS6006.cell 1 rfl 0 rfl, hS6006.cell 1 rfl 1 rfl, hS6006.cell 1 rfl 2 rfl, trivial⟩ ?_
  obtain ⟨t6463, ht6464, hf⟩ := bind_some hf
  refine WL.call (some 5) 53 #[(.agg #[(.int .i64 p0.Width), (.int .i64 p0.Height), (.slice A_p0_Cells p0.Cells.length c_p0_Cells)]), (.int .i64 0)] (fun fb => by kernel_rfl) (tile_changedPattern_at0_calls _ p0 A_p0_Cells c_p0_Cells t6463 _ (hS6006.rd 0) ht6464) (fun v w6465 hR6466 => ?_)
  obtain ⟨A6468, c6469, rfl, hk_⟩ := hR6466
  have hS6467 : St NoS w w6465 [rowR encInt A_p0_Cells c_p0_Cells p0.Cells] [rowO 3 encInt A6468 c6469 t6463.1.Cells, blk g6004 (.cells #[(.int .i64 0), (.int .i64 0), (.slice none 0 0)] 35 (0, 0)), blk g6000 (.cells #[(.int .i64 p0.Width), (.int .i64 p0.Height), (.slice A_p0_Cells p0.Cells.length c_p0_Cells)] 35 (0, 0))] := hS6006.call hk_ [] [0, 1] (fun g hg => hg.elim) (by simp) (by decide)
  refine ⟨trivial, ?_⟩
  refine seg 4 [] [2, 6, 7] [(2, (.pointer (some ⟨g6004, 0, none⟩))), (6, (.agg #[(.int .i64 t6463.1.Width), (.int .i64 t6463.1.Height), (.slice A6468 t6463.1.Cells.length c6469)])), (7, (.int .i64 t6463.2))] [] (fun fb => by kernel_rfl) rfl trivial ?_
  refine WL.store hS6467 1 rfl [(0, (.int .i64 t6463.1.Width)), (1, (.int .i64 t6463.1.Height)), (2, (.slice A6468 t6463.1.Cells.length c6469))] #[(.int .i64 t6463.1.Width), (.int .i64 t6463.1.Height), (.slice A6468 t6463.1.Cells.length c6469)] (fun fb => by kernel_rfl) (by kernel_rfl) rfl [0, 2] (by decide) (by decide) (fun w6470 hS6471 => ?_)
  refine ⟨trivial, ?_⟩
  refine seg 6 [] [2, 3] [(2, (.pointer (some ⟨g6004, 0, none⟩))), (3, (.int .i64 t6463.2))] [] (fun fb => by kernel_rfl) rfl trivial ?_
  refine WL.done rfl ?_
  refine WX.next ?_
  refine WC.ret ?_
  injection hf with hf
  subst hf
  exact WX.ret_ [.v (.int .i64 t6463.1.Width), .v (.int .i64 t6463.1.Height), .v (.slice A6468 t6463.1.Cells.length c6469)] (.tuple #[(.agg #[(.int .i64 t6463.1.Width), (.int .i64 t6463.1.Height), (.slice A6468 t6463.1.Cells.length c6469)]), (.int .i64 t6463.2)]) [.cell ⟨g6004, 0, none⟩ (.int .i64 t6463.1.Width), .cell ⟨g6004, 1, none⟩ (.int .i64 t6463.1.Height), .cell ⟨g6004, 2, none⟩ (.slice A6468 t6463.1.Cells.length c6469)] (fun fb => by kernel_rfl) ⟨hS6471.cell 0 rfl 0 rfl, hS6471.cell 0 rfl 1 rfl, hS6471.cell 0 rfl 2 rfl, trivial⟩ ⟨_, rfl, A6468, c6469, rfl, (hS6471.sub [1] (by decide)).noR⟩
theorem tile_changes_4_calls (p0 : Pattern) (p1 : Int) (p2 : Int) (A_p0_Cells : Option Addr) (c_p0_Cells : Nat) (r : Int × Int) (w : World) (hR0 : RO NoS w (rowR encInt A_p0_Cells c_p0_Cells p0.Cells)) (hf : tile_changes_4 p0 p1 p2 = some r) :
    CallsR Tryd.prog 83 #[(.agg #[(.int .i64 p0.Width), (.int .i64 p0.Height), (.slice A_p0_Cells p0.Cells.length c_p0_Cells)]), (.int .i64 p1), (.int .i64 p2)] w (fun v w' => v = (.tuple #[(.int .i64 r.1), (.int .i64 r.2)]) ∧ Keeps NoS w w') := by
  have hS : St NoS w w [rowR encInt A_p0_Cells c_p0_Cells p0.Cells] [] := St.init (ro_cons hR0 (ro_nil _ _))
  refine enter 14 Tryd.func83 rfl Tryd.ntmps83 rfl ?_
  unfold tile_changes_4 at hf
  refine WC.seq ?_
  refine WC.region ?_
  refine WL.new hS 3 [] (fun g => (.pointer (some ⟨g, 0, none⟩))) (.cells #[(.int .i64 p0.Width), (.int .i64 p0.Height), (.slice A_p0_Cells p0.Cells.length c_p0_Cells)] 35 (0, 0)) [] (fun fb g => by kernel_rfl) trivial (fun g6536 w6537 hS6538 => ?_)
  refine ⟨trivial, ?_⟩
  refine seg 3 [] [1, 2, 3] [(1, (.int .i64 p1)), (2, (.int .i64 p2)), (3, (.pointer (some ⟨g6536, 0, none⟩)))] [] (fun fb => by kernel_rfl) rfl trivial ?_
  refine WL.done rfl ?_
  refine WX.next ?_
  refine WC.seq ?_
  refine WC.regionD ([(2, ⟨g6536, 1, none⟩, (.int .i64 p0.Height))], [0, 1, 2, 3, 4, 5, 6, 7], [[], [], [1], [1, 2], [], [1, 2, 3, 4], [0], [0, 1, 2, 3, 4, 5, 6]]) [[0, 1, 2, 3, 4, 5, 6, 7]] (by kernel_rfl) (by kernel_rfl) (NoPanic.seq (NoPanic.body)) ?_
  have hS6541 := hS6538.drew
  revert hS6541
  generalize World.drew w6537 = w6540
  intro hS6541
  refine ⟨⟨hS6541.cell 0 rfl 1 rfl, trivial⟩, forallC ?_ (forallN)⟩
  refine segF 8 [.v (.int .i64 p0.Height)] [6, 7] [(6, (.int .i64 p1)), (7, (.int .i64 (w64 ((w64 (p0.Height - 1)) - p2))))] [] [0] [(2, ⟨g6536, 1, none⟩, (.int .i64 p0.Height))] (fun fb => by kernel_rfl) rfl trivial rfl ?_
  refine WL.done rfl ?_
  refine WX.next ?_
  refine WC.ret ?_
  injection hf with hf
  subst hf
  exact WX.ret_ [] (.tuple #[(.int .i64 p1), (.int .i64 (w64 ((w64 (p0.Height - 1)) - p2)))]) [] (fun fb => by kernel_rfl) trivial ⟨_, rfl, rfl, hS6541.keep⟩
theorem tile_changedPattern_at1_calls (k : Nat) (p0 : Pattern) (A_p0_Cells : Option Addr) (c_p0_Cells : Nat) (r : Pattern × Int) (w : World) (hR0 : RO NoS w (rowR encInt A_p0_Cells c_p0_Cells p0.Cells)) (hf : tile_changedPattern_at1 k p0 = some r) :
    CallsR Tryd.prog 53 #[(.agg #[(.int .i64 p0.Width), (.int .i64 p0.Height), (.slice A_p0_Cells p0.Cells.length c_p0_Cells)]), (.int .i64 1)] w (fun v w' => ∃ (A1_ : Option Addr), ∃ (c1_ : Nat), v = (.tuple #[(.agg #[(.int .i64 r.1.Width), (.int .i64 r.1.Height), (.slice A1_ r.1.Cells.length c1_)]), (.int .i64 r.2)]) ∧ St NoS w w' [] [rowO 3 encInt A1_ c1_ r.1.Cells]) := by
  have hS : St NoS w w [rowR encInt A_p0_Cells c_p0_Cells p0.Cells] [] := St.init (ro_cons hR0 (ro_nil _ _))
  refine enter 68 Tryd.func53 rfl Tryd.ntmps53 rfl ?_
  unfold tile_changedPattern_at1 at hf
  refine WC.seq ?_
  refine WC.region ?_
  refine WL.new hS 2 [] (fun g => (.pointer (some ⟨g, 0, none⟩))) (.cells #[(.int .i64 p0.Width), (.int .i64 p0.Height), (.slice A_p0_Cells p0.Cells.length c_p0_Cells)] 35 (0, 0)) [] (fun fb g => by kernel_rfl) trivial (fun g6493 w6494 hS6495 => ?_)
  refine ⟨trivial, ?_⟩
  refine WL.new hS6495 4 [] (fun g => (.pointer (some ⟨g, 0, none⟩))) (.cells #[(.int .i64 0), (.int .i64 0), (.slice none 0 0)] 35 (0, 0)) [] (fun fb g => by kernel_rfl) trivial (fun g6497 w6498 hS6499 => ?_)
  refine ⟨trivial, ?_⟩
  refine seg 3 [] [1, 2, 4] [(1, (.int .i64 1)), (2, (.pointer (some ⟨g6493, 0, none⟩))), (4, (.pointer (some ⟨g6497, 0, none⟩)))] [] (fun fb => by kernel_rfl) rfl trivial ?_
  refine WL.done rfl ?_
  refine WX.next ?_
  refine WC.seq ?_
  refine WC.seq ?_
  refine WC.region ?_
  refine seg 1 [.v (.int .i64 p0.Width), .v (.int .i64 p0.Height), .v (.slice A_p0_Cells p0.Cells.length c_p0_Cells)] [1, 2, 4, 12] [(1, (.int .i64 1)), (2, (.pointer (some ⟨g6493, 0, none⟩))), (4, (.pointer (some ⟨g6497, 0, none⟩))), (12, (.agg #[(.int .i64 p0.Width), (.int .i64 p0.Height), (.slice A_p0_Cells p0.Cells.length c_p0_Cells)]))] [.cell ⟨g6493, 0, none⟩ (.int .i64 p0.Width), .cell ⟨g6493, 1, none⟩ (.int .i64 p0.Height), .cell ⟨g6493, 2, none⟩ (.slice A_p0_Cells p0.Cells.length c_p0_Cells)] (fun fb => by kernel_rfl) rfl ⟨hS6499.cell 1 rfl 0 rfl, hS6499.cell 1 rfl 1 rfl, hS6499.cell 1 rfl 2 rfl, trivial⟩ ?_
  obtain ⟨t6501, ht6502, hf⟩ := bind_some hf
  refine WL.call (some 13) 54 #[(.agg #[(.int .i64 p0.Width), (.int .i64 p0.Height), (.slice A_p0_Cells p0.Cells.length c_p0_Cells)])] (fun fb => by kernel_rfl) (tile_Form_calls p0 A_p0_Cells c_p0_Cells t6501 _ (hS6499.rd 0) ht6502) (fun v w6503 hR6504 => ?_)
  obtain ⟨rfl, hk_⟩ := hR6504
  have hS6505 := hS6499.keepN hk_
  refine ⟨trivial, ?_⟩
  refine seg 3 [] [1, 2, 4, 14] [(1, (.int .i64 1)), (2, (.pointer (some ⟨g6493, 0, none⟩))), (4, (.pointer (some ⟨g6497, 0, none⟩))), (14, (.bool (!t6501)))] [] (fun fb => by kernel_rfl) rfl trivial ?_
  refine WL.done rfl ?_
  refine WX.next ?_
  rcases br_some hf with ⟨h6506, hf⟩ | ⟨h6506, hf⟩
  · refine WC.condT2 (fun fb => by kernel_rfl) h6506 ?_
    refine WC.seq ?_
    refine WC.region ?_
    refine seg 1 [] [4, 15] [(4, (.pointer (some ⟨g6497, 0, none⟩))), (15, (.agg #[(.int .i64 0), (.int .i64 0), (.slice none 0 0)]))] [] (fun fb => by kernel_rfl) rfl trivial ?_
    refine WL.store hS6505 0 rfl [(0, (.int .i64 0)), (1, (.int .i64 0)), (2, (.slice none 0 0))] #[(.int .i64 0), (.int .i64 0), (.slice none 0 0)] (fun fb => by kernel_rfl) (by kernel_rfl) rfl [1] (by decide) (by decide) (fun w6507 hS6508 => ?_)
    refine ⟨trivial, ?_⟩
    refine seg 3 [] [4, 5] [(4, (.pointer (some ⟨g6497, 0, none⟩))), (5, (.int .i64 1))] [] (fun fb => by kernel_rfl) rfl trivial ?_
    refine WL.done rfl ?_
    refine WX.next ?_
    refine WC.ret ?_
    have hS6509 := hS6508.nilrow 3 encInt
    injection hf with hf
    subst hf
    exact WX.thenR (WX.ret_ [.v (.int .i64 0), .v (.int .i64 0), .v (.slice none 0 0)] (.tuple #[(.agg #[(.int .i64 0), (.int .i64 0), (.slice none ([] : List Int).length 0)]), (.int .i64 1)]) [.cell ⟨g6497, 0, none⟩ (.int .i64 0), .cell ⟨g6497, 1, none⟩ (.int .i64 0), .cell ⟨g6497, 2, none⟩ (.slice none 0 0)] (fun fb => by kernel_rfl) ⟨hS6508.cell 0 rfl 0 rfl, hS6508.cell 0 rfl 1 rfl, hS6508.cell 0 rfl 2 rfl, trivial⟩ ⟨_, rfl, none, 0, rfl, (hS6509.sub [0] (by decide)).noR⟩)
  refine WC.condF2 (fun fb => by kernel_rfl) h6506 ?_
  refine WC.skip ?_
  refine WX.next ?_
  refine WC.seq ?_
  refine WC.region ?_
  obtain ⟨t6510, ht6511, hf⟩ := bind_some hf
  refine WL.call (some 16) 64 #[] (fun fb => by kernel_rfl) (tile_changes_calls t6510 _ ht6511) (fun v w6512 hR6513 => ?_)
  obtain ⟨rfl, hk_⟩ := hR6513
  have hS6514 := hS6505.keepN hk_
  refine ⟨trivial, ?_⟩
  refine seg 3 [] [2, 4, 18] [(2, (.pointer (some ⟨g6493, 0, none⟩))), (4, (.pointer (some ⟨g6497, 0, none⟩))), (18, (.agg #[(.func (.func 82) #[] #[]), (.func (.func 80) #[] #[]), (.func (.func 83) #[] #[])]))] [] (fun fb => by kernel_rfl) rfl trivial ?_
  refine WL.new hS6514 6 [] (fun g => (.pointer (some ⟨g, 0, none⟩))) (.cells #[.nilFunc, .nilFunc, .nilFunc] 83 (0, 0)) [] (fun fb g => by kernel_rfl) trivial (fun g6515 w6516 hS6517 => ?_)
  refine ⟨trivial, ?_⟩
  refine WL.store hS6517 0 rfl [(0, (.func (.func 82) #[] #[])), (1, (.func (.func 80) #[] #[])), (2, (.func (.func 83) #[] #[]))] #[(.func (.func 82) #[] #[]), (.func (.func 80) #[] #[]), (.func (.func 83) #[] #[])] (fun fb => by kernel_rfl) (by kernel_rfl) rfl [1, 2] (by decide) (by decide) (fun w6519 hS6520 => ?_)
  refine ⟨trivial, ?_⟩
  refine WL.done rfl ?_
  refine WX.next ?_
  refine WC.seq ?_
  refine WC.region ?_
  refine WL.new hS6520 7 [] (fun g => (.pointer (some ⟨g, 0, none⟩))) (.cells #[(.int .i64 0), (.int .i64 0), (.slice none 0 0)] 35 (0, 0)) [] (fun fb g => by kernel_rfl) trivial (fun g6521 w6522 hS6523 => ?_)
  refine ⟨trivial, ?_⟩
  refine WL.done rfl ?_
  refine WX.next ?_
  refine WC.seq ?_
  refine WC.region ?_
  refine seg 6 [.v (.func (.func 80) #[] #[]), .v (.int .i64 p0.Width), .v (.int .i64 p0.Height)] [2, 4, 6, 7, 21, 23, 25] [(2, (.pointer (some ⟨g6493, 0, none⟩))), (4, (.pointer (some ⟨g6497, 0, none⟩))), (6, (.pointer (some ⟨g6515, 0, none⟩))), (7, (.pointer (some ⟨g6521, 0, none⟩))), (21, (.func (.func 80) #[] #[])), (23, (.int .i64 p0.Width)), (25, (.int .i64 p0.Height))] [.cell ⟨g6515, 1, none⟩ (.func (.func 80) #[] #[]), .cell ⟨g6493, 0, none⟩ (.int .i64 p0.Width), .cell ⟨g6493, 1, none⟩ (.int .i64 p0.Height)] (fun fb => by kernel_rfl) rfl ⟨hS6523.cell 1 rfl 1 rfl, hS6523.cell 3 rfl 0 rfl, hS6523.cell 3 rfl 1 rfl, trivial⟩ ?_
  obtain ⟨t6525, ht6526, hf⟩ := bind_some hf
  refine WL.call (some 26) 80 #[(.int .i64 p0.Width), (.int .i64 p0.Height)] (fun fb => by kernel_rfl) (tile_same_calls p0.Width p0.Height t6525 _ ht6526) (fun v w6527 hR6528 => ?_)
  obtain ⟨rfl, hk_⟩ := hR6528
  have hS6529 := hS6523.keepN hk_
  refine ⟨trivial, ?_⟩
  refine seg 11 [] [2, 4, 6, 7, 27, 28, 29] [(2, (.pointer (some ⟨g6493, 0, none⟩))), (4, (.pointer (some ⟨g6497, 0, none⟩))), (6, (.pointer (some ⟨g6515, 0, none⟩))), (7, (.pointer (some ⟨g6521, 0, none⟩))), (27, (.int .i64 t6525.1)), (28, (.int .i64 t6525.2)), (29, (.pointer (some ⟨g6521, 0, none⟩)))] [] (fun fb => by kernel_rfl) rfl trivial ?_
  refine WL.store hS6529 0 rfl [(0, (.int .i64 t6525.1))] #[(.int .i64 t6525.1), (.int .i64 0), (.slice none 0 0)] (fun fb => by kernel_rfl) (by kernel_rfl) rfl [1, 2, 3] (by decide) (by decide) (fun w6530 hS6531 => ?_)
  refine ⟨trivial, ?_⟩
  refine seg 13 [] [2, 4, 6, 7, 28, 30] [(2, (.pointer (some ⟨g6493, 0, none⟩))), (4, (.pointer (some ⟨g6497, 0, none⟩))), (6, (.pointer (some ⟨g6515, 0, none⟩))), (7, (.pointer (some ⟨g6521, 0, none⟩))), (28, (.int .i64 t6525.2)), (30, (.pointer (some ⟨g6521, 1, none⟩)))] [] (fun fb => by kernel_rfl) rfl trivial ?_
  refine WL.store hS6531 0 rfl [(1, (.int .i64 t6525.2))] #[(.int .i64 t6525.1), (.int .i64 t6525.2), (.slice none 0 0)] (fun fb => by kernel_rfl) (by kernel_rfl) rfl [1, 2, 3] (by decide) (by decide) (fun w6532 hS6533 => ?_)
  refine ⟨trivial, ?_⟩
  refine WL.done rfl ?_
  refine WX.next ?_
  refine WC.seq ?_
  refine WC.seq ?_
  refine WC.region ?_
  refine seg 3 [.v (.int .i64 t6525.2)] [2, 4, 6, 7, 32, 33] [(2, (.pointer (some ⟨g6493, 0, none⟩))), (4, (.pointer (some ⟨g6497, 0, none⟩))), (6, (.pointer (some ⟨g6515, 0, none⟩))), (7, (.pointer (some ⟨g6521, 0, none⟩))), (32, (.int .i64 t6525.2)), (33, (.int .i64 0))] [.cell ⟨g6521, 1, none⟩ (.int .i64 t6525.2)] (fun fb => by kernel_rfl) rfl ⟨hS6533.cell 0 rfl 1 rfl, trivial⟩ ?_
  refine WL.done rfl ?_
  refine WX.next ?_
  have hS6803 := hS6533.nilrow 3 encInt
  obtain ⟨x6811, hx6812, hf⟩ := bind_some hf
  refine WC.cutN (T := (List Int) × (Option Addr) × Nat) (fun t => [(4, (.pointer (some ⟨g6497, 0, none⟩))), (7, (.pointer (some ⟨g6521, 0, none⟩)))]) (fun t w1 => St NoS w w1 [rowR encInt A_p0_Cells c_p0_Cells p0.Cells] [blk g6497 (.cells #[(.int .i64 0), (.int .i64 0), (.slice none 0 0)] 35 (0, 0)), blk g6521 (.cells #[(.int .i64 t6525.1), (.int .i64 t6525.2), (.slice t.2.1 t.1.length t.2.2)] 35 (0, 0)), rowO 3 encInt t.2.1 t.2.2 t.1] ∧ x6811 = t.1) (fun Kx6811 => ?_) ?_
  ·
    refine WC.block ?_
    refine WC.loop (T := ((List Int) × Int) × (Option Addr) × Nat) (fun t => [(2, (.pointer (some ⟨g6493, 0, none⟩))), (4, (.pointer (some ⟨g6497, 0, none⟩))), (6, (.pointer (some ⟨g6515, 0, none⟩))), (7, (.pointer (some ⟨g6521, 0, none⟩))), (32, (.int .i64 t6525.2)), (33, (.int .i64 t.1.2))]) (fun n t w1 => St NoS w w1 [rowR encInt A_p0_Cells c_p0_Cells p0.Cells] [blk g6493 (.cells #[(.int .i64 p0.Width), (.int .i64 p0.Height), (.slice A_p0_Cells p0.Cells.length c_p0_Cells)] 35 (0, 0)), blk g6497 (.cells #[(.int .i64 0), (.int .i64 0), (.slice none 0 0)] 35 (0, 0)), blk g6515 (.cells #[(.func (.func 82) #[] #[]), (.func (.func 80) #[] #[]), (.func (.func 83) #[] #[])] 83 (0, 0)), blk g6521 (.cells #[(.int .i64 t6525.1), (.int .i64 t6525.2), (.slice t.2.1 t.1.1.length t.2.2)] 35 (0, 0)), rowO 3 encInt t.2.1 t.2.2 t.1.1] ∧ tile_changedPattern_at1.l0 n t.1.1 t.1.2 p0 t6525 = some x6811) k ((([] : List Int), 0), none, 0) [2, 4, 6, 7, 32, 33] rfl ⟨(hS6803.subR [0]).sub [4, 3, 2, 1, 0] (by decide), hx6812⟩ ?_
    rintro k6813 ⟨⟨l6806, x6807⟩, A6804, c6805⟩ w6814 ⟨hS6815, hl6816⟩
    cases k6813 with
    | zero => rw [tile_changedPattern_at1.l0] at hl6816; cases hl6816
    | succ k6813 =>
      rw [tile_changedPattern_at1.l0] at hl6816
      refine WC.seq ?_
      refine WC.region ?_
      refine seg 1 [] [2, 4, 6, 7, 32, 33, 34] [(2, (.pointer (some ⟨g6493, 0, none⟩))), (4, (.pointer (some ⟨g6497, 0, none⟩))), (6, (.pointer (some ⟨g6515, 0, none⟩))), (7, (.pointer (some ⟨g6521, 0, none⟩))), (32, (.int .i64 t6525.2)), (33, (.int .i64 x6807)), (34, (.bool (decide (x6807 < t6525.2))))] [] (fun fb => by kernel_rfl) rfl trivial ?_
      refine WL.done rfl ?_
      refine WX.next ?_
      refine WC.seq ?_
      rcases br_some hl6816 with ⟨h6817, hl6816⟩ | ⟨h6817, hl6816⟩
      · refine WC.condT2 (fun fb => by kernel_rfl) h6817 ?_
        refine WC.skip ?_
        refine WX.next ?_
        refine WC.seq ?_
        refine WC.block ?_
        refine WC.seq ?_
        refine WC.region ?_
        refine seg 2 [] [2, 4, 6, 7, 8, 32, 33] [(2, (.pointer (some ⟨g6493, 0, none⟩))), (4, (.pointer (some ⟨g6497, 0, none⟩))), (6, (.pointer (some ⟨g6515, 0, none⟩))), (7, (.pointer (some ⟨g6521, 0, none⟩))), (8, (.int .i64 x6807)), (32, (.int .i64 t6525.2)), (33, (.int .i64 x6807))] [] (fun fb => by kernel_rfl) rfl trivial ?_
        refine WL.done rfl ?_
        refine WX.next ?_
        refine WC.seq ?_
        refine WC.region ?_
        refine seg 3 [.v (.int .i64 t6525.1)] [2, 4, 6, 7, 8, 32, 33, 37, 38] [(2, (.pointer (some ⟨g6493, 0, none⟩))), (4, (.pointer (some ⟨g6497, 0, none⟩))), (6, (.pointer (some ⟨g6515, 0, none⟩))), (7, (.pointer (some ⟨g6521, 0, none⟩))), (8, (.int .i64 x6807)), (32, (.int .i64 t6525.2)), (33, (.int .i64 x6807)), (37, (.int .i64 t6525.1)), (38, (.int .i64 0))] [.cell ⟨g6521, 0, none⟩ (.int .i64 t6525.1)] (fun fb => by kernel_rfl) rfl ⟨hS6815.cell 3 rfl 0 rfl, trivial⟩ ?_
        refine WL.done rfl ?_
        refine WX.next ?_
        obtain ⟨x6899, hx6900, hl6816⟩ := bind_some hl6816
        refine WC.cutN (T := (List Int) × (Option Addr) × Nat) (fun t => [(2, (.pointer (some ⟨g6493, 0, none⟩))), (4, (.pointer (some ⟨g6497, 0, none⟩))), (6, (.pointer (some ⟨g6515, 0, none⟩))), (7, (.pointer (some ⟨g6521, 0, none⟩))), (32, (.int .i64 t6525.2)), (33, (.int .i64 x6807))]) (fun t w1 => St NoS w w1 [rowR encInt A_p0_Cells c_p0_Cells p0.Cells] [blk g6493 (.cells #[(.int .i64 p0.Width), (.int .i64 p0.Height), (.slice A_p0_Cells p0.Cells.length c_p0_Cells)] 35 (0, 0)), blk g6497 (.cells #[(.int .i64 0), (.int .i64 0), (.slice none 0 0)] 35 (0, 0)), blk g6515 (.cells #[(.func (.func 82) #[] #[]), (.func (.func 80) #[] #[]), (.func (.func 83) #[] #[])] 83 (0, 0)), blk g6521 (.cells #[(.int .i64 t6525.1), (.int .i64 t6525.2), (.slice t.2.1 t.1.length t.2.2)] 35 (0, 0)), rowO 3 encInt t.2.1 t.2.2 t.1] ∧ x6899 = t.1) (fun Kx6899 => ?_) ?_
        ·
          refine WC.block ?_
          refine WC.loop (T := ((List Int) × Int) × (Option Addr) × Nat) (fun t => [(2, (.pointer (some ⟨g6493, 0, none⟩))), (4, (.pointer (some ⟨g6497, 0, none⟩))), (6, (.pointer (some ⟨g6515, 0, none⟩))), (7, (.pointer (some ⟨g6521, 0, none⟩))), (8, (.int .i64 x6807)), (32, (.int .i64 t6525.2)), (33, (.int .i64 x6807)), (37, (.int .i64 t6525.1)), (38, (.int .i64 t.1.2))]) (fun n t w1 => St NoS w w1 [rowR encInt A_p0_Cells c_p0_Cells p0.Cells] [blk g6493 (.cells #[(.int .i64 p0.Width), (.int .i64 p0.Height), (.slice A_p0_Cells p0.Cells.length c_p0_Cells)] 35 (0, 0)), blk g6497 (.cells #[(.int .i64 0), (.int .i64 0), (.slice none 0 0)] 35 (0, 0)), blk g6515 (.cells #[(.func (.func 82) #[] #[]), (.func (.func 80) #[] #[]), (.func (.func 83) #[] #[])] 83 (0, 0)), blk g6521 (.cells #[(.int .i64 t6525.1), (.int .i64 t6525.2), (.slice t.2.1 t.1.1.length t.2.2)] 35 (0, 0)), rowO 3 encInt t.2.1 t.2.2 t.1.1] ∧ tile_changedPattern_at1.l1 n t.1.1 t.1.2 p0 t6525 x6807 = some x6899) k6813 ((l6806, 0), A6804, c6805) [2, 4, 6, 7, 8, 32, 33, 37, 38] rfl ⟨(hS6815.subR [0]).sub [0, 1, 2, 3, 4] (by decide), hx6900⟩ ?_
          rintro k6901 ⟨⟨l6894, x6895⟩, A6892, c6893⟩ w6902 ⟨hS6903, hl6904⟩
          cases k6901 with
          | zero => rw [tile_changedPattern_at1.l1] at hl6904; cases hl6904
          | succ k6901 =>
            rw [tile_changedPattern_at1.l1] at hl6904
            refine WC.seq ?_
            refine WC.region ?_
            refine seg 1 [] [2, 4, 6, 7, 8, 32, 33, 37, 38, 39] [(2, (.pointer (some ⟨g6493, 0, none⟩))), (4, (.pointer (some ⟨g6497, 0, none⟩))), (6, (.pointer (some ⟨g6515, 0, none⟩))), (7, (.pointer (some ⟨g6521, 0, none⟩))), (8, (.int .i64 x6807)), (32, (.int .i64 t6525.2)), (33, (.int .i64 x6807)), (37, (.int .i64 t6525.1)), (38, (.int .i64 x6895)), (39, (.bool (decide (x6895 < t6525.1))))] [] (fun fb => by kernel_rfl) rfl trivial ?_
            refine WL.done rfl ?_
            refine WX.next ?_
            refine WC.seq ?_
            rcases br_some hl6904 with ⟨h6905, hl6904⟩ | ⟨h6905, hl6904⟩
            · refine WC.condT2 (fun fb => by kernel_rfl) h6905 ?_
              refine WC.skip ?_
              refine WX.next ?_
              refine WC.seq ?_
              refine WC.block ?_
              refine WC.seq ?_
              refine WC.region ?_
              refine seg 2 [] [2, 4, 6, 7, 8, 9, 32, 33, 37, 38] [(2, (.pointer (some ⟨g6493, 0, none⟩))), (4, (.pointer (some ⟨g6497, 0, none⟩))), (6, (.pointer (some ⟨g6515, 0, none⟩))), (7, (.pointer (some ⟨g6521, 0, none⟩))), (8, (.int .i64 x6807)), (9, (.int .i64 x6895)), (32, (.int .i64 t6525.2)), (33, (.int .i64 x6807)), (37, (.int .i64 t6525.1)), (38, (.int .i64 x6895))] [] (fun fb => by kernel_rfl) rfl trivial ?_
              refine WL.done rfl ?_
              refine WX.next ?_
              refine WC.seq ?_
              refine WC.region ?_
              refine seg 5 [.v (.func (.func 83) #[] #[]), .v (.int .i64 p0.Width), .v (.int .i64 p0.Height), .v (.slice A_p0_Cells p0.Cells.length c_p0_Cells)] [2, 4, 6, 7, 8, 32, 33, 37, 38, 43, 44, 45, 46] [(2, (.pointer (some ⟨g6493, 0, none⟩))), (4, (.pointer (some ⟨g6497, 0, none⟩))), (6, (.pointer (some ⟨g6515, 0, none⟩))), (7, (.pointer (some ⟨g6521, 0, none⟩))), (8, (.int .i64 x6807)), (32, (.int .i64 t6525.2)), (33, (.int .i64 x6807)), (37, (.int .i64 t6525.1)), (38, (.int .i64 x6895)), (43, (.func (.func 83) #[] #[])), (44, (.agg #[(.int .i64 p0.Width), (.int .i64 p0.Height), (.slice A_p0_Cells p0.Cells.length c_p0_Cells)])), (45, (.int .i64 x6895)), (46, (.int .i64 x6807))] [.cell ⟨g6515, 2, none⟩ (.func (.func 83) #[] #[]), .cell ⟨g6493, 0, none⟩ (.int .i64 p0.Width), .cell ⟨g6493, 1, none⟩ (.int .i64 p0.Height), .cell ⟨g6493, 2, none⟩ (.slice A_p0_Cells p0.Cells.length c_p0_Cells)] (fun fb => by kernel_rfl) rfl ⟨hS6903.cell 2 rfl 2 rfl, hS6903.cell 0 rfl 0 rfl, hS6903.cell 0 rfl 1 rfl, hS6903.cell 0 rfl 2 rfl, trivial⟩ ?_
              obtain ⟨t6906, ht6907, hl6904⟩ := bind_some hl6904
              refine WL.call (some 47) 83 #[(.agg #[(.int .i64 p0.Width), (.int .i64 p0.Height), (.slice A_p0_Cells p0.Cells.length c_p0_Cells)]), (.int .i64 x6895), (.int .i64 x6807)] (fun fb => by kernel_rfl) (tile_changes_4_calls p0 x6895 x6807 A_p0_Cells c_p0_Cells t6906 _ (hS6903.rd 0) ht6907) (fun v w6908 hR6909 => ?_)
              obtain ⟨rfl, hk_⟩ := hR6909
              have hS6910 := hS6903.keepN hk_
              refine ⟨trivial, ?_⟩
              refine seg 11 [] [2, 4, 6, 7, 8, 10, 11, 32, 33, 37, 38] [(2, (.pointer (some ⟨g6493, 0, none⟩))), (4, (.pointer (some ⟨g6497, 0, none⟩))), (6, (.pointer (some ⟨g6515, 0, none⟩))), (7, (.pointer (some ⟨g6521, 0, none⟩))), (8, (.int .i64 x6807)), (10, (.int .i64 t6906.1)), (11, (.int .i64 t6906.2)), (32, (.int .i64 t6525.2)), (33, (.int .i64 x6807)), (37, (.int .i64 t6525.1)), (38, (.int .i64 x6895))] [] (fun fb => by kernel_rfl) rfl trivial ?_
              refine WL.done rfl ?_
              refine WX.next ?_
              obtain ⟨h6927, hl6904⟩ := as_some hl6904
              refine WC.regionD ([(1, ⟨g6521, 2, none⟩, (.slice A6892 l6894.length c6893)), (3, ⟨g6493, 2, none⟩, (.slice A_p0_Cells p0.Cells.length c_p0_Cells)), (6, ⟨g6493, 0, none⟩, (.int .i64 p0.Width)), (11, ((adr A_p0_Cells).add ((w64 ((w64 (t6906.2 * p0.Width)) + t6906.1)).toNat * 1)), (.int .i64 (rdD p0.Cells (w64 ((w64 (t6906.2 * p0.Width)) + t6906.1)) 0)))], [0, 1, 2, 3, 4, 5, 6, 7, 8, 9, 10, 11, 14], [[], [0], [], [2], [], [], [5], [4, 5, 6], [], [4, 5, 6, 7, 8], [2, 3, 4, 5, 6, 7, 8, 9], [2, 3, 4, 5, 6, 7, 8, 9, 10], [2, 3, 4, 5, 6, 7, 8, 9, 10, 11], [0, 1, 2, 3, 4, 5, 6, 7, 8, 9, 10, 11, 12], [0, 1, 2, 3, 4, 5, 6, 7, 8, 9, 10, 11, 12, 13], [0, 1, 2, 3, 4, 5, 6, 7, 8, 9, 10, 11, 12, 13, 14]]) [[0, 1, 2, 3, 4, 5, 6, 7, 8, 9, 10, 11, 12, 13, 14, 15]] (by kernel_rfl) (by kernel_rfl) (NoPanic.block (NoPanic.seq (NoPanic.seq (NoPanic.block (NoPanic.block (NoPanic.seq (NoPanic.seq (NoPanic.block (NoPanic.seq (NoPanic.body)))))))))) ?_
              have hS6925 := hS6910.drew
              revert hS6925
              generalize World.drew w6908 = w6924
              intro hS6925
              refine ⟨⟨hS6925.cell 3 rfl 2 rfl, hS6925.cell 0 rfl 2 rfl, hS6925.cell 0 rfl 0 rfl, rowR.cell (hS6925.rd 0).1 0 h6927.1 h6927.2 0 rfl, trivial⟩, forallC ?_ (forallN)⟩
              refine segF 12 [.v (.slice A6892 l6894.length c6893), .v (.slice A_p0_Cells p0.Cells.length c_p0_Cells), .v (.int .i64 p0.Width), .v (.int .i64 (rdD p0.Cells (w64 ((w64 (t6906.2 * p0.Width)) + t6906.1)) 0))] [2, 4, 6, 7, 8, 32, 33, 37, 38, 51, 61] [(2, (.pointer (some ⟨g6493, 0, none⟩))), (4, (.pointer (some ⟨g6497, 0, none⟩))), (6, (.pointer (some ⟨g6515, 0, none⟩))), (7, (.pointer (some ⟨g6521, 0, none⟩))), (8, (.int .i64 x6807)), (32, (.int .i64 t6525.2)), (33, (.int .i64 x6807)), (37, (.int .i64 t6525.1)), (38, (.int .i64 x6895)), (51, (.slice A6892 l6894.length c6893)), (61, (.int .i64 (rdD p0.Cells (w64 ((w64 (t6906.2 * p0.Width)) + t6906.1)) 0)))] [.idx A_p0_Cells (w64 ((w64 (t6906.2 * p0.Width)) + t6906.1)) p0.Cells.length] [0, 1, 2, 3] [(1, ⟨g6521, 2, none⟩, (.slice A6892 l6894.length c6893)), (3, ⟨g6493, 2, none⟩, (.slice A_p0_Cells p0.Cells.length c_p0_Cells)), (6, ⟨g6493, 0, none⟩, (.int .i64 p0.Width)), (11, ((adr A_p0_Cells).add ((w64 ((w64 (t6906.2 * p0.Width)) + t6906.1)).toNat * 1)), (.int .i64 (rdD p0.Cells (w64 ((w64 (t6906.2 * p0.Width)) + t6906.1)) 0)))] (fun fb => by kernel_rfl) rfl ⟨rowR.adr (hS6925.rd 0).1 h6927.1 h6927.2, trivial⟩ rfl ?_
              refine WL.new hS6925 62 [] (fun g => (.slice (some ⟨g, 0, none⟩) 1 1)) (.cells #[(.int .i64 (rdD p0.Cells (w64 ((w64 (t6906.2 * p0.Width)) + t6906.1)) 0))] 3 (0, 0)) [] (fun fb g => by kernel_rfl) trivial (fun g6928 w6929 hS6930 => ?_)
              refine ⟨⟨hS6930.cell 4 rfl 2 rfl, trivial⟩, ?_⟩
              have hS6932 : St NoS w w6929 [rowR encInt A_p0_Cells c_p0_Cells p0.Cells] [rowO 3 encInt (some ⟨g6928, 0, none⟩) 1 [(rdD p0.Cells (w64 ((w64 (t6906.2 * p0.Width)) + t6906.1)) 0)], blk g6493 (.cells #[(.int .i64 p0.Width), (.int .i64 p0.Height), (.slice A_p0_Cells p0.Cells.length c_p0_Cells)] 35 (0, 0)), blk g6497 (.cells #[(.int .i64 0), (.int .i64 0), (.slice none 0 0)] 35 (0, 0)), blk g6515 (.cells #[(.func (.func 82) #[] #[]), (.func (.func 80) #[] #[]), (.func (.func 83) #[] #[])] 83 (0, 0)), blk g6521 (.cells #[(.int .i64 t6525.1), (.int .i64 t6525.2), (.slice A6892 l6894.length c6893)] 35 (0, 0)), rowO 3 encInt A6892 c6893 l6894] := hS6930.map1 0 _ (fun h => rowO.ofBlk h rfl (Nat.le_of_ble_eq_true (by kernel_rfl))) (fun _ h => by obtain ⟨_, h1, h2⟩ := h; injection h1 with h1; subst h1; exact h2) [1, 2, 3, 4, 5] (by decide) (by decide)
              obtain ⟨h6933, hl6904⟩ := as_some hl6904
              refine WL.append hS6932 5 (d := 63) (tS := 33) (z := (.int .i64 0)) (bytes := 8) (c2 := 1) rfl (fun fb => by kernel_rfl) (rowO.rd (hS6932.own 0).1) (by kernel_rfl) (by kernel_rfl) rfl (by decide) h6933 (by decide) [0, 1, 2, 3, 4] (by decide) (by decide) (fun A6934 c6935 w6936 hS6937 => ?_)
              refine ⟨trivial, ?_⟩
              refine seg 15 [] [2, 4, 6, 7, 8, 32, 33, 37, 38, 63, 64] [(2, (.pointer (some ⟨g6493, 0, none⟩))), (4, (.pointer (some ⟨g6497, 0, none⟩))), (6, (.pointer (some ⟨g6515, 0, none⟩))), (7, (.pointer (some ⟨g6521, 0, none⟩))), (8, (.int .i64 x6807)), (32, (.int .i64 t6525.2)), (33, (.int .i64 x6807)), (37, (.int .i64 t6525.1)), (38, (.int .i64 x6895)), (63, (.slice A6934 (l6894 ++ [(rdD p0.Cells (w64 ((w64 (t6906.2 * p0.Width)) + t6906.1)) 0)]).length c6935)), (64, (.pointer (some ⟨g6521, 2, none⟩)))] [] (fun fb => by kernel_rfl) rfl trivial ?_
              refine WL.store hS6937 5 rfl [(2, (.slice A6934 (l6894 ++ [(rdD p0.Cells (w64 ((w64 (t6906.2 * p0.Width)) + t6906.1)) 0)]).length c6935))] #[(.int .i64 t6525.1), (.int .i64 t6525.2), (.slice A6934 (l6894 ++ [(rdD p0.Cells (w64 ((w64 (t6906.2 * p0.Width)) + t6906.1)) 0)]).length c6935)] (fun fb => by kernel_rfl) (by kernel_rfl) rfl [0, 1, 2, 3, 4] (by decide) (by decide) (fun w6938 hS6939 => ?_)
              refine ⟨trivial, ?_⟩
              refine WL.done rfl ?_
              refine WX.blockN (WX.next ?_)
              refine WC.region ?_
              refine seg 2 [] [2, 4, 6, 7, 8, 32, 33, 37, 38] [(2, (.pointer (some ⟨g6493, 0, none⟩))), (4, (.pointer (some ⟨g6497, 0, none⟩))), (6, (.pointer (some ⟨g6515, 0, none⟩))), (7, (.pointer (some ⟨g6521, 0, none⟩))), (8, (.int .i64 x6807)), (32, (.int .i64 t6525.2)), (33, (.int .i64 x6807)), (37, (.int .i64 t6525.1)), (38, (.int .i64 (w64 (x6895 + 1))))] [] (fun fb => by kernel_rfl) rfl trivial ?_
              refine WL.done rfl ?_
              exact WX.again k6901 (Nat.lt_succ_self _) ((l6894 ++ [(rdD p0.Cells (w64 ((w64 (t6906.2 * p0.Width)) + t6906.1)) 0)], w64 (x6895 + 1)), A6934, c6935) [2, 4, 6, 7, 8, 32, 33, 37, 38] rfl ⟨(hS6939.subR [0]).sub [3, 4, 5, 0, 1] (by decide), hl6904⟩
            refine WC.condF2 (fun fb => by kernel_rfl) h6905 ?_
            refine WC.exit ?_
            injection hl6904 with hl6904
            exact WX.thenX (WX.thenX (WX.blockHere (WX.to Kx6899 (l6894, A6892, c6893) [2, 4, 6, 7, 32, 33] rfl ⟨(hS6903.subR [0]).sub [0, 1, 2, 3, 4] (by decide), hl6904.symm⟩)))
        rintro ⟨y6943, A6896, c6897⟩ w6940 ⟨hS6941, hq6942⟩
        subst hq6942
        refine WX.blockN (WX.next ?_)
        refine WC.region ?_
        refine seg 2 [] [2, 4, 6, 7, 32, 33] [(2, (.pointer (some ⟨g6493, 0, none⟩))), (4, (.pointer (some ⟨g6497, 0, none⟩))), (6, (.pointer (some ⟨g6515, 0, none⟩))), (7, (.pointer (some ⟨g6521, 0, none⟩))), (32, (.int .i64 t6525.2)), (33, (.int .i64 (w64 (x6807 + 1))))] [] (fun fb => by kernel_rfl) rfl trivial ?_
        refine WL.done rfl ?_
        exact WX.again k6813 (Nat.lt_succ_self _) ((x6899, w64 (x6807 + 1)), A6896, c6897) [2, 4, 6, 7, 32, 33] rfl ⟨(hS6941.subR [0]).sub [0, 1, 2, 3, 4] (by decide), hl6816⟩
      refine WC.condF2 (fun fb => by kernel_rfl) h6817 ?_
      refine WC.exit ?_
      injection hl6816 with hl6816
      exact WX.thenX (WX.thenX (WX.blockHere (WX.to Kx6811 (l6806, A6804, c6805) [4, 7] rfl ⟨(hS6815.subR [0]).sub [1, 3, 4] (by decide), hl6816.symm⟩)))
  rintro ⟨y6947, A6808, c6809⟩ w6944 ⟨hS6945, hq6946⟩
  subst hq6946
  refine WX.next ?_
  refine WC.seq ?_
  refine WC.region ?_
  refine seg 1 [.v (.int .i64 t6525.1), .v (.int .i64 t6525.2), .v (.slice A6808 x6811.length c6809)] [4, 67] [(4, (.pointer (some ⟨g6497, 0, none⟩))), (67, (.agg #[(.int .i64 t6525.1), (.int .i64 t6525.2), (.slice A6808 x6811.length c6809)]))] [.cell ⟨g6521, 0, none⟩ (.int .i64 t6525.1), .cell ⟨g6521, 1, none⟩ (.int .i64 t6525.2), .cell ⟨g6521, 2, none⟩ (.slice A6808 x6811.length c6809)] (fun fb => by kernel_rfl) rfl ⟨hS6945.cell 1 rfl 0 rfl, hS6945.cell 1 rfl 1 rfl, hS6945.cell 1 rfl 2 rfl, trivial⟩ ?_
  refine WL.store hS6945 0 rfl [(0, (.int .i64 t6525.1)), (1, (.int .i64 t6525.2)), (2, (.slice A6808 x6811.length c6809))] #[(.int .i64 t6525.1), (.int .i64 t6525.2), (.slice A6808 x6811.length c6809)] (fun fb => by kernel_rfl) (by kernel_rfl) rfl [1, 2] (by decide) (by decide) (fun w6948 hS6949 => ?_)
  refine ⟨trivial, ?_⟩
  refine seg 3 [] [4, 5] [(4, (.pointer (some ⟨g6497, 0, none⟩))), (5, (.int .i64 0))] [] (fun fb => by kernel_rfl) rfl trivial ?_
  refine WL.done rfl ?_
  refine WX.next ?_
  refine WC.ret ?_
  injection hf with hf
  subst hf
  exact WX.ret_ [.v (.int .i64 t6525.1), .v (.int .i64 t6525.2), .v (.slice A6808 x6811.length c6809)] (.tuple #[(.agg #[(.int .i64 t6525.1), (.int .i64 t6525.2), (.slice A6808 x6811.length c6809)]), (.int .i64 0)]) [.cell ⟨g6497, 0, none⟩ (.int .i64 t6525.1), .cell ⟨g6497, 1, none⟩ (.int .i64 t6525.2), .cell ⟨g6497, 2, none⟩ (.slice A6808 x6811.length c6809)] (fun fb => by kernel_rfl) ⟨hS6949.cell 0 rfl 0 rfl, hS6949.cell 0 rfl 1 rfl, hS6949.cell 0 rfl 2 rfl, trivial⟩ ⟨_, rfl, A6808, c6809, rfl, (hS6949.sub [2] (by decide)).noR⟩
theorem tile_UpturnPattern_calls (k : Nat) (p0 : Pattern) (A_p0_Cells : Option Addr) (c_p0_Cells : Nat) (r : Pattern × Int) (w : World) (hR0 : RO NoS w (rowR encInt A_p0_Cells c_p0_Cells p0.Cells)) (hf : tile_UpturnPattern k p0 = some r) :
    CallsR Tryd.prog 29 #[(.agg #[(.int .i64 p0.Width), (.int .i64 p0.Height), (.slice A_p0_Cells p0.Cells.length c_p0_Cells)])] w (fun v w' => ∃ (A1_ : Option Addr), ∃ (c1_ : Nat), v = (.tuple #[(.agg #[(.int .i64 r.1.Width), (.int .i64 r.1.Height), (.slice A1_ r.1.Cells.length c1_)]), (.int .i64 r.2)]) ∧ St NoS w w' [] [rowO 3 encInt A1_ c1_ r.1.Cells]) := by
  have hS : St NoS w w [rowR encInt A_p0_Cells c_p0_Cells p0.Cells] [] := St.init (ro_cons hR0 (ro_nil _ _))
  refine enter 8 Tryd.func29 rfl Tryd.ntmps29 rfl ?_
  unfold tile_UpturnPattern at hf
  refine WC.seq ?_
  refine WC.region ?_
  refine WL.new hS 1 [] (fun g => (.pointer (some ⟨g, 0, none⟩))) (.cells #[(.int .i64 p0.Width), (.int .i64 p0.Height), (.slice A_p0_Cells p0.Cells.length c_p0_Cells)] 35 (0, 0)) [] (fun fb g => by kernel_rfl) trivial (fun g6485 w6486 hS6487 => ?_)
  refine ⟨trivial, ?_⟩
  refine WL.new hS6487 2 [] (fun g => (.pointer (some ⟨g, 0, none⟩))) (.cells #[(.int .i64 0), (.int .i64 0), (.slice none 0 0)] 35 (0, 0)) [] (fun fb g => by kernel_rfl) trivial (fun g6489 w6490 hS6491 => ?_)
  refine ⟨trivial, ?_⟩
  refine seg 3 [] [1, 2] [(1, (.pointer (some ⟨g6485, 0, none⟩))), (2, (.pointer (some ⟨g6489, 0, none⟩)))] [] (fun fb => by kernel_rfl) rfl trivial ?_
  refine WL.done rfl ?_
  refine WX.next ?_
  refine WC.seq ?_
  refine WC.region ?_
  refine seg 1 [.v (.int .i64 p0.Width), .v (.int .i64 p0.Height), .v (.slice A_p0_Cells p0.Cells.length c_p0_Cells)] [2, 4] [(2, (.pointer (some ⟨g6489, 0, none⟩))), (4, (.agg #[(.int .i64 p0.Width), (.int .i64 p0.Height), (.slice A_p0_Cells p0.Cells.length c_p0_Cells)]))] [.cell ⟨g6485, 0, none⟩ (.int .i64 p0.Width), .cell ⟨g6485, 1, none⟩ (.int .i64 p0.Height), .cell ⟨g6485, 2, none⟩ (.slice A_p0_Cells p0.Cells.length c_p0_Cells)] (fun fb => by kernel_rfl) rfl ⟨hS6491.cell 1 rfl 0 rfl, hS6491.cell 1 rfl 1 rfl, hS6491.cell 1 rfl 2 rfl, trivial⟩ ?_
  obtain ⟨t6950, ht6951, hf⟩ := bind_some hf
  refine WL.call (some 5) 53 #[(.agg #[(.int .i64 p0.Width), (.int .i64 p0.Height), (.slice A_p0_Cells p0.Cells.length c_p0_Cells)]), (.int .i64 1)] (fun fb => by kernel_rfl) (tile_changedPattern_at1_calls _ p0 A_p0_Cells c_p0_Cells t6950 _ (hS6491.rd 0) ht6951) (fun v w6952 hR6953 => ?_)
  obtain ⟨A6955, c6956, rfl, hk_⟩ := hR6953
  have hS6954 : St NoS w w6952 [rowR encInt A_p0_Cells c_p0_Cells p0.Cells] [rowO 3 encInt A6955 c6956 t6950.1.Cells, blk g6489 (.cells #[(.int .i64 0), (.int .i64 0), (.slice none 0 0)] 35 (0, 0)), blk g6485 (.cells #[(.int .i64 p0.Width), (.int .i64 p0.Height), (.slice A_p0_Cells p0.Cells.length c_p0_Cells)] 35 (0, 0))] := hS6491.call hk_ [] [0, 1] (fun g hg => hg.elim) (by simp) (by decide)
  refine ⟨trivial, ?_⟩
  refine seg 4 [] [2, 6, 7] [(2, (.pointer (some ⟨g6489, 0, none⟩))), (6, (.agg #[(.int .i64 t6950.1.Width), (.int .i64 t6950.1.Height), (.slice A6955 t6950.1.Cells.length c6956)])), (7, (.int .i64 t6950.2))] [] (fun fb => by kernel_rfl) rfl trivial ?_
  refine WL.store hS6954 1 rfl [(0, (.int .i64 t6950.1.Width)), (1, (.int .i64 t6950.1.Height)), (2, (.slice A6955 t6950.1.Cells.length c6956))] #[(.int .i64 t6950.1.Width), (.int .i64 t6950.1.Height), (.slice A6955 t6950.1.Cells.length c6956)] (fun fb => by kernel_rfl) (by kernel_rfl) rfl [0, 2] (by decide) (by decide) (fun w6957 hS6958 => ?_)
  refine ⟨trivial, ?_⟩
  refine seg 6 [] [2, 3] [(2, (.pointer (some ⟨g6489, 0, none⟩))), (3, (.int .i64 t6950.2))] [] (fun fb => by kernel_rfl) rfl trivial ?_
  refine WL.done rfl ?_
  refine WX.next ?_
  refine WC.ret ?_
  injection hf with hf
  subst hf
  exact WX.ret_ [.v (.int .i64 t6950.1.Width), .v (.int .i64 t6950.1.Height), .v (.slice A6955 t6950.1.Cells.length c6956)] (.tuple #[(.agg #[(.int .i64 t6950.1.Width), (.int .i64 t6950.1.Height), (.slice A6955 t6950.1.Cells.length c6956)]), (.int .i64 t6950.2)]) [.cell ⟨g6489, 0, none⟩ (.int .i64 t6950.1.Width), .cell ⟨g6489, 1, none⟩ (.int .i64 t6950.1.Height), .cell ⟨g6489, 2, none⟩ (.slice A6955 t6950.1.Cells.length c6956)] (fun fb => by kernel_rfl) ⟨hS6958.cell 0 rfl 0 rfl, hS6958.cell 0 rfl 1 rfl, hS6958.cell 0 rfl 2 rfl, trivial⟩ ⟨_, rfl, A6955, c6956, rfl, (hS6958.sub [1] (by decide)).noR⟩
end Gp
