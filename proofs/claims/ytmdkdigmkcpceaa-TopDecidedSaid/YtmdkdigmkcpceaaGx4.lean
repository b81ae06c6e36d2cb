/- Walks: each function of the program computes its plain function. -/
import Derived.Test.YtmdkdigmkcpceaaGx3
set_option linter.unusedVariables false
set_option linter.unusedSimpArgs false
set_option maxHeartbeats 4000000
namespace Gp
open Go Gw Go.Proofs
theorem tile_joins_calls (k : Nat) (p0 : List Tile) (p1 : Pattern) (p2 : Bool) (A_p0 : Option Addr) (c_p0 : Nat) (A_p1_Cells : Option Addr) (c_p1_Cells : Nat) (r : Bool) (w : World) (hR0 : RO NoS w (rowR enc_Tile A_p0 c_p0 p0)) (hR1 : RO NoS w (rowR encInt A_p1_Cells c_p1_Cells p1.Cells)) (hf : tile_joins k p0 p1 p2 = some r) :
  CallsR Try.prog 49 #[(.slice A_p0 p0.length c_p0), (.agg #[(iv p1.Width), (iv p1.Height), (.slice A_p1_Cells p1.Cells.length c_p1_Cells)]), (.bool p2)] w (fun v w' => v = (.bool r) ∧ Keeps NoS w w') := by
 have hS : St NoS w w [rowR enc_Tile A_p0 c_p0 p0, rowR encInt A_p1_Cells c_p1_Cells p1.Cells] [] := St.init (ro_cons hR0 (ro_cons hR1 (ro_nil _ _)))
 refine enter 92 Try.func49 rfl Try.ntmps49 rfl ?_
 unfold tile_joins at hf
 refine WC.seq ?_
 refine WC.region ?_
 refine WL.new hS 4 [] (fun g => (.pointer (some ⟨g, 0, none⟩))) (.cells #[(iv p1.Width), (iv p1.Height), (.slice A_p1_Cells p1.Cells.length c_p1_Cells)] 38 (0, 0)) [] (fun fb g => by kernel_rfl) trivial (fun g10220 w10221 hS10222 => ?_)
 refine ⟨trivial, ?_⟩
 refine seg 2 [] [0, 2, 4] [(0, (.slice A_p0 p0.length c_p0)), (2, (.bool p2)), (4, (pt g10220))] [] (fun fb => by kernel_rfl) rfl trivial ?_
 refine WL.done rfl ?_
 refine WX.next ?_
 refine WC.seq ?_
 refine WC.seq ?_
 refine WC.region ?_
 refine seg 4 [.v (.slice A_p1_Cells p1.Cells.length c_p1_Cells)] [0, 2, 4, 12, 13, 14] [(0, (.slice A_p0 p0.length c_p0)), (2, (.bool p2)), (4, (pt g10220)), (12, (.slice A_p1_Cells p1.Cells.length c_p1_Cells)), (13, (iv (p1.Cells.length : Int))), (14, (iv 0))] [.cell ⟨g10220, 2, none⟩ (.slice A_p1_Cells p1.Cells.length c_p1_Cells)] (fun fb => by kernel_rfl) rfl ⟨hS10222.cell 0 rfl 2 rfl, trivial⟩ ?_
 refine WL.done rfl ?_
 refine WX.next ?_
 obtain ⟨x10392, hx10393, hf⟩ := bind_some hf
 refine WC.cutN (T := Unit) (fun t => []) (fun t w1 => St NoS w w1 [rowR enc_Tile A_p0 c_p0 p0, rowR encInt A_p1_Cells c_p1_Cells p1.Cells] [] ∧ x10392 = .inr t) (fun Kx10392 => ?_) ?_
 ·
  refine WC.block ?_
  refine WC.loop (T := Int) (fun t => [(0, (.slice A_p0 p0.length c_p0)), (2, (.bool p2)), (4, (pt g10220)), (12, (.slice A_p1_Cells p1.Cells.length c_p1_Cells)), (13, (iv (p1.Cells.length : Int))), (14, (iv t))]) (fun n t w1 => St NoS w w1 [rowR enc_Tile A_p0 c_p0 p0, rowR encInt A_p1_Cells c_p1_Cells p1.Cells] [blk g10220 (.cells #[(iv p1.Width), (iv p1.Height), (.slice A_p1_Cells p1.Cells.length c_p1_Cells)] 38 (0, 0))] ∧ tile_joins.l0 n t p0 p1 p2 = some x10392) k 0 [0, 2, 4, 12, 13, 14] rfl ⟨(hS10222.subR [0, 1]).sub [0] (by decide), hx10393⟩ ?_
  rintro k10394 x10391 w10395 ⟨hS10396, hl10397⟩
  cases k10394 with
  | zero => rw [tile_joins.l0] at hl10397; cases hl10397
  | succ k10394 =>
   rw [tile_joins.l0] at hl10397
   refine WC.seq ?_
   refine WC.region ?_
   refine seg 1 [] [0, 2, 4, 12, 13, 14, 15] [(0, (.slice A_p0 p0.length c_p0)), (2, (.bool p2)), (4, (pt g10220)), (12, (.slice A_p1_Cells p1.Cells.length c_p1_Cells)), (13, (iv (p1.Cells.length : Int))), (14, (iv x10391)), (15, (.bool (decide (x10391 < (p1.Cells.length : Int)))))] [] (fun fb => by kernel_rfl) rfl trivial ?_
   refine WL.done rfl ?_
   refine WX.next ?_
   refine WC.seq ?_
   rcases br_some hl10397 with ⟨h10398, hl10397⟩ | ⟨h10398, hl10397⟩
   ·refine WC.condT2 (fun fb => by kernel_rfl) h10398 ?_
    refine WC.skip ?_
    refine WX.next ?_
    refine WC.seq ?_
    refine WC.block ?_
    refine WC.seq ?_
    refine WC.region ?_
    refine seg 1 [] [0, 2, 4, 12, 13, 14, 16] [(0, (.slice A_p0 p0.length c_p0)), (2, (.bool p2)), (4, (pt g10220)), (12, (.slice A_p1_Cells p1.Cells.length c_p1_Cells)), (13, (iv (p1.Cells.length : Int))), (14, (iv x10391)), (16, (iv x10391))] [] (fun fb => by kernel_rfl) rfl trivial ?_
    obtain ⟨h10399, hl10397⟩ := as_some hl10397
    refine seg 5 [.v (iv (rdD p1.Cells x10391 0))] [0, 2, 4, 7, 8, 12, 13, 14] [(0, (.slice A_p0 p0.length c_p0)), (2, (.bool p2)), (4, (pt g10220)), (7, (iv x10391)), (8, (iv (rdD p1.Cells x10391 0))), (12, (.slice A_p1_Cells p1.Cells.length c_p1_Cells)), (13, (iv (p1.Cells.length : Int))), (14, (iv x10391))] [.idx A_p1_Cells x10391 p1.Cells.length, .cell ((adr A_p1_Cells).add ((x10391).toNat * 1)) (iv (rdD p1.Cells x10391 0))] (fun fb => by kernel_rfl) rfl ⟨rowR.adr (hS10396.rd 1).1 h10399.1 h10399.2, rowR.cell (hS10396.rd 1).1 0 h10399.1 h10399.2 0 rfl, trivial⟩ ?_
    refine WL.done rfl ?_
    refine WX.next ?_
    refine WC.seq ?_
    obtain ⟨h10404, hl10397⟩ := as_some hl10397
    refine WC.regionD ([(2, ⟨g10220, 0, none⟩, (iv p1.Width)), (6, ⟨g10220, 0, none⟩, (iv p1.Width))], [0, 1, 2, 3, 4, 5, 6, 7, 8, 9], [[], [], [1], [0, 1, 2], [], [], [5], [4, 5, 6], [0, 1, 2, 3], [0, 1, 2, 3, 4, 5, 6, 7, 8]]) [[0, 1, 2, 3, 4, 5, 6, 7, 8, 9]] (by kernel_rfl) (by kernel_rfl) (NoPanic.seq (NoPanic.block (NoPanic.seq (NoPanic.seq (NoPanic.block (NoPanic.seq (NoPanic.body))))))) ?_
    have hS10402 := hS10396.drew
    revert hS10402
    generalize World.drew w10395 = w10401
    intro hS10402
    refine ⟨⟨hS10402.cell 0 rfl 0 rfl, hS10402.cell 0 rfl 0 rfl, trivial⟩, forallC ?_ (forallN)⟩
    refine segF 10 [.v (iv p1.Width), .v (iv p1.Width)] [0, 2, 4, 8, 9, 10, 12, 13, 14] [(0, (.slice A_p0 p0.length c_p0)), (2, (.bool p2)), (4, (pt g10220)), (8, (iv (rdD p1.Cells x10391 0))), (9, (iv (Int.tmod x10391 p1.Width))), (10, (iv (w64 (Int.tdiv x10391 p1.Width)))), (12, (.slice A_p1_Cells p1.Cells.length c_p1_Cells)), (13, (iv (p1.Cells.length : Int))), (14, (iv x10391))] [.ne p1.Width, .ne p1.Width] [0, 1] [(2, ⟨g10220, 0, none⟩, (iv p1.Width)), (6, ⟨g10220, 0, none⟩, (iv p1.Width))] (fun fb => by kernel_rfl) rfl ⟨h10404, h10404, trivial⟩ rfl ?_
    refine WL.done rfl ?_
    refine WX.next ?_
    refine WC.seq ?_
    refine WC.seq ?_
    refine WC.region ?_
    refine seg 6 [.v (iv p1.Width)] [0, 2, 4, 8, 9, 10, 12, 13, 14, 32] [(0, (.slice A_p0 p0.length c_p0)), (2, (.bool p2)), (4, (pt g10220)), (8, (iv (rdD p1.Cells x10391 0))), (9, (iv (Int.tmod x10391 p1.Width))), (10, (iv (w64 (Int.tdiv x10391 p1.Width)))), (12, (.slice A_p1_Cells p1.Cells.length c_p1_Cells)), (13, (iv (p1.Cells.length : Int))), (14, (iv x10391)), (32, (.bool (decide (w64 ((Int.tmod x10391 p1.Width) + 1) < p1.Width))))] [.cell ⟨g10220, 0, none⟩ (iv p1.Width)] (fun fb => by kernel_rfl) rfl ⟨hS10402.cell 0 rfl 0 rfl, trivial⟩ ?_
    refine WL.cutV (T := Bool) 8 (fun t => [(34, (.bool t)), (0, (.slice A_p0 p0.length c_p0)), (2, (.bool p2)), (4, (pt g10220)), (8, (iv (rdD p1.Cells x10391 0))), (9, (iv (Int.tmod x10391 p1.Width))), (10, (iv (w64 (Int.tdiv x10391 p1.Width)))), (12, (.slice A_p1_Cells p1.Cells.length c_p1_Cells)), (13, (iv (p1.Cells.length : Int))), (14, (iv x10391))]) (fun t => ((decide (w64 ((Int.tmod x10391 p1.Width) + 1) < p1.Width)) || p2) = t) (fun K => ?_) ?_
    ·
     rcases Bool.eq_false_or_eq_true (decide (w64 ((Int.tmod x10391 p1.Width) + 1) < p1.Width)) with h10405 | h10405
     ·
      refine WL.setB 32 h10405 rfl ?_
      refine seg 8 [] [0, 2, 4, 8, 9, 10, 12, 13, 14, 34] [(0, (.slice A_p0 p0.length c_p0)), (2, (.bool p2)), (4, (pt g10220)), (8, (iv (rdD p1.Cells x10391 0))), (9, (iv (Int.tmod x10391 p1.Width))), (10, (iv (w64 (Int.tdiv x10391 p1.Width)))), (12, (.slice A_p1_Cells p1.Cells.length c_p1_Cells)), (13, (iv (p1.Cells.length : Int))), (14, (iv x10391)), (34, (.bool true))] [] (fun fb => by kernel_rfl) rfl trivial ?_
      exact WL.toV K true [34, 0, 2, 4, 8, 9, 10, 12, 13, 14] rfl (by first | (rw [h10405]; done) | (rw [h10405]; rfl))
     refine WL.setB 32 h10405 rfl ?_
     refine seg 8 [] [0, 2, 4, 8, 9, 10, 12, 13, 14, 34] [(0, (.slice A_p0 p0.length c_p0)), (2, (.bool p2)), (4, (pt g10220)), (8, (iv (rdD p1.Cells x10391 0))), (9, (iv (Int.tmod x10391 p1.Width))), (10, (iv (w64 (Int.tdiv x10391 p1.Width)))), (12, (.slice A_p1_Cells p1.Cells.length c_p1_Cells)), (13, (iv (p1.Cells.length : Int))), (14, (iv x10391)), (34, (.bool p2))] [] (fun fb => by kernel_rfl) rfl trivial ?_
     exact WL.toV K p2 [34, 0, 2, 4, 8, 9, 10, 12, 13, 14] rfl (by first | (rw [h10405]; done) | (rw [h10405]; rfl))
    rintro b10406 rfl
    refine WL.done rfl ?_
    refine WX.next ?_
    obtain ⟨x10420, hx10421, hl10397⟩ := bind_some hl10397
    refine WC.cutN (T := Unit) (fun t => [(0, (.slice A_p0 p0.length c_p0)), (2, (.bool p2)), (4, (pt g10220)), (8, (iv (rdD p1.Cells x10391 0))), (9, (iv (Int.tmod x10391 p1.Width))), (10, (iv (w64 (Int.tdiv x10391 p1.Width)))), (12, (.slice A_p1_Cells p1.Cells.length c_p1_Cells)), (13, (iv (p1.Cells.length : Int))), (14, (iv x10391))]) (fun t w1 => St NoS w w1 [rowR enc_Tile A_p0 c_p0 p0, rowR encInt A_p1_Cells c_p1_Cells p1.Cells] [blk g10220 (.cells #[(iv p1.Width), (iv p1.Height), (.slice A_p1_Cells p1.Cells.length c_p1_Cells)] 38 (0, 0))] ∧ x10420 = .inr t) (fun Kx10420 => ?_) ?_
    ·
     rcases br_some hx10421 with ⟨h10422, hx10421⟩ | ⟨h10422, hx10421⟩
     ·refine WC.condT2 (fun fb => by kernel_rfl) h10422 ?_
      refine WC.seq ?_
      obtain ⟨h10431, hx10421⟩ := as_some hx10421
      obtain ⟨h10432, hx10421⟩ := as_some hx10421
      obtain ⟨h10433, hx10421⟩ := as_some hx10421
      refine WC.regionD ([(4, (((adr A_p0).add (((rdD p1.Cells x10391 0)).toNat * 4)).add 1), (iv ((rdD p0 (rdD p1.Cells x10391 0) z_Tile).E))), (7, ⟨g10220, 2, none⟩, (.slice A_p1_Cells p1.Cells.length c_p1_Cells)), (10, ⟨g10220, 0, none⟩, (iv p1.Width)), (15, ⟨g10220, 0, none⟩, (iv p1.Width)), (19, ((adr A_p1_Cells).add ((w64 ((w64 ((w64 (Int.tdiv x10391 p1.Width)) * p1.Width)) + (Int.tmod (w64 ((Int.tmod x10391 p1.Width) + 1)) p1.Width))).toNat * 1)), (iv (rdD p1.Cells (w64 ((w64 ((w64 (Int.tdiv x10391 p1.Width)) * p1.Width)) + (Int.tmod (w64 ((Int.tmod x10391 p1.Width) + 1)) p1.Width))) 0))), (22, (((adr A_p0).add (((rdD p1.Cells (w64 ((w64 ((w64 (Int.tdiv x10391 p1.Width)) * p1.Width)) + (Int.tmod (w64 ((Int.tmod x10391 p1.Width) + 1)) p1.Width))) 0)).toNat * 4)).add 3), (iv ((rdD p0 (rdD p1.Cells (w64 ((w64 ((w64 (Int.tdiv x10391 p1.Width)) * p1.Width)) + (Int.tmod (w64 ((Int.tmod x10391 p1.Width) + 1)) p1.Width))) 0) z_Tile).W)))], [0, 1, 2, 3, 4, 5, 6, 7, 8, 9, 10, 11, 12, 13, 14, 15, 16, 17, 18, 19, 20, 21, 22, 23], [[], [], [0, 1], [0, 1, 2], [0, 1, 2, 3], [], [], [6], [], [], [9], [8, 9, 10], [], [12], [], [14], [12, 13, 14, 15], [8, 9, 10, 11, 12, 13, 14, 15, 16], [6, 7, 8, 9, 10, 11, 12, 13, 14, 15, 16, 17], [6, 7, 8, 9, 10, 11, 12, 13, 14, 15, 16, 17, 18], [5, 6, 7, 8, 9, 10, 11, 12, 13, 14, 15, 16, 17, 18, 19], [5, 6, 7, 8, 9, 10, 11, 12, 13, 14, 15, 16, 17, 18, 19, 20], [5, 6, 7, 8, 9, 10, 11, 12, 13, 14, 15, 16, 17, 18, 19, 20, 21], [0, 1, 2, 3, 4, 5, 6, 7, 8, 9, 10, 11, 12, 13, 14, 15, 16, 17, 18, 19, 20, 21, 22]]) [[0, 1, 2, 3, 4, 5, 6, 7, 8, 9, 10, 11, 12, 13, 14, 15, 16, 17, 18, 19, 20, 21, 22, 23]] (by kernel_rfl) (by kernel_rfl) (NoPanic.seq (NoPanic.seq (NoPanic.block (NoPanic.seq (NoPanic.seq (NoPanic.block (NoPanic.seq (NoPanic.body)))))))) ?_
      have hS10427 := hS10402.drew
      revert hS10427
      generalize World.drew w10401 = w10426
      intro hS10427
      refine ⟨⟨rowR.cell (hS10427.rd 0).1 z_Tile h10431.1 h10431.2 1 rfl, hS10427.cell 0 rfl 2 rfl, hS10427.cell 0 rfl 0 rfl, hS10427.cell 0 rfl 0 rfl, rowR.cell (hS10427.rd 1).1 0 h10432.1 h10432.2 0 rfl, rowR.cell (hS10427.rd 0).1 z_Tile h10433.1 h10433.2 3 rfl, trivial⟩, forallC ?_ (forallN)⟩
      refine segF 24 [.v (iv ((rdD p0 (rdD p1.Cells x10391 0) z_Tile).E)), .v (.slice A_p1_Cells p1.Cells.length c_p1_Cells), .v (iv p1.Width), .v (iv p1.Width), .v (iv (rdD p1.Cells (w64 ((w64 ((w64 (Int.tdiv x10391 p1.Width)) * p1.Width)) + (Int.tmod (w64 ((Int.tmod x10391 p1.Width) + 1)) p1.Width))) 0)), .v (iv ((rdD p0 (rdD p1.Cells (w64 ((w64 ((w64 (Int.tdiv x10391 p1.Width)) * p1.Width)) + (Int.tmod (w64 ((Int.tmod x10391 p1.Width) + 1)) p1.Width))) 0) z_Tile).W))] [0, 2, 4, 8, 9, 10, 12, 13, 14, 58] [(0, (.slice A_p0 p0.length c_p0)), (2, (.bool p2)), (4, (pt g10220)), (8, (iv (rdD p1.Cells x10391 0))), (9, (iv (Int.tmod x10391 p1.Width))), (10, (iv (w64 (Int.tdiv x10391 p1.Width)))), (12, (.slice A_p1_Cells p1.Cells.length c_p1_Cells)), (13, (iv (p1.Cells.length : Int))), (14, (iv x10391)), (58, (.bool (((rdD p0 (rdD p1.Cells x10391 0) z_Tile).E) != ((rdD p0 (rdD p1.Cells (w64 ((w64 ((w64 (Int.tdiv x10391 p1.Width)) * p1.Width)) + (Int.tmod (w64 ((Int.tmod x10391 p1.Width) + 1)) p1.Width))) 0) z_Tile).W))))] [.idx A_p0 (rdD p1.Cells x10391 0) p0.length, .ne p1.Width, .idx A_p1_Cells (w64 ((w64 ((w64 (Int.tdiv x10391 p1.Width)) * p1.Width)) + (Int.tmod (w64 ((Int.tmod x10391 p1.Width) + 1)) p1.Width))) p1.Cells.length, .idx A_p0 (rdD p1.Cells (w64 ((w64 ((w64 (Int.tdiv x10391 p1.Width)) * p1.Width)) + (Int.tmod (w64 ((Int.tmod x10391 p1.Width) + 1)) p1.Width))) 0) p0.length] [0, 1, 2, 3, 4, 5] [(4, (((adr A_p0).add (((rdD p1.Cells x10391 0)).toNat * 4)).add 1), (iv ((rdD p0 (rdD p1.Cells x10391 0) z_Tile).E))), (7, ⟨g10220, 2, none⟩, (.slice A_p1_Cells p1.Cells.length c_p1_Cells)), (10, ⟨g10220, 0, none⟩, (iv p1.Width)), (15, ⟨g10220, 0, none⟩, (iv p1.Width)), (19, ((adr A_p1_Cells).add ((w64 ((w64 ((w64 (Int.tdiv x10391 p1.Width)) * p1.Width)) + (Int.tmod (w64 ((Int.tmod x10391 p1.Width) + 1)) p1.Width))).toNat * 1)), (iv (rdD p1.Cells (w64 ((w64 ((w64 (Int.tdiv x10391 p1.Width)) * p1.Width)) + (Int.tmod (w64 ((Int.tmod x10391 p1.Width) + 1)) p1.Width))) 0))), (22, (((adr A_p0).add (((rdD p1.Cells (w64 ((w64 ((w64 (Int.tdiv x10391 p1.Width)) * p1.Width)) + (Int.tmod (w64 ((Int.tmod x10391 p1.Width) + 1)) p1.Width))) 0)).toNat * 4)).add 3), (iv ((rdD p0 (rdD p1.Cells (w64 ((w64 ((w64 (Int.tdiv x10391 p1.Width)) * p1.Width)) + (Int.tmod (w64 ((Int.tmod x10391 p1.Width) + 1)) p1.Width))) 0) z_Tile).W)))] (fun fb => by kernel_rfl) rfl ⟨rowR.adr (hS10427.rd 0).1 h10431.1 h10431.2, h10404, rowR.adr (hS10427.rd 1).1 h10432.1 h10432.2, rowR.adr (hS10427.rd 0).1 h10433.1 h10433.2, trivial⟩ rfl ?_
      refine WL.done rfl ?_
      refine WX.next ?_
      rcases br_some hx10421 with ⟨h10434, hx10421⟩ | ⟨h10434, hx10421⟩
      ·refine WC.condT2 (fun fb => by kernel_rfl) h10434 ?_
       refine WC.seq ?_
       refine WC.region ?_
       refine seg 1 [] [6] [(6, (.bool false))] [] (fun fb => by kernel_rfl) rfl trivial ?_
       refine WL.done rfl ?_
       refine WX.next ?_
       refine WC.ret ?_
       injection hx10421 with hx10421
       subst hx10421
       injection hl10397 with hl10397
       subst hl10397
       injection hf with hf
       subst hf
       exact WX.thenR (WX.blockR (WX.thenR (WX.thenR (WX.blockR (WX.thenR (WX.ret_ [] (.bool false) [] (fun fb => by kernel_rfl) trivial ⟨_, rfl, rfl, hS10427.keep⟩))))))
      refine WC.condF2 (fun fb => by kernel_rfl) h10434 ?_
      refine WC.skip ?_
      injection hx10421 with hx10421
      exact WX.to Kx10420 () [0, 2, 4, 8, 9, 10, 12, 13, 14] rfl ⟨(hS10427.subR [0, 1]).sub [0] (by decide), hx10421.symm⟩
     refine WC.condF2 (fun fb => by kernel_rfl) h10422 ?_
     refine WC.skip ?_
     injection hx10421 with hx10421
     exact WX.to Kx10420 () [0, 2, 4, 8, 9, 10, 12, 13, 14] rfl ⟨(hS10402.subR [0, 1]).sub [0] (by decide), hx10421.symm⟩
    rintro y10438 w10435 ⟨hS10436, hq10437⟩
    subst hq10437
    have hl10397 := sum_inr hl10397
    refine WX.next ?_
    refine WC.seq ?_
    refine WC.region ?_
    refine seg 6 [.v (iv p1.Height)] [0, 2, 4, 8, 9, 10, 12, 13, 14, 64] [(0, (.slice A_p0 p0.length c_p0)), (2, (.bool p2)), (4, (pt g10220)), (8, (iv (rdD p1.Cells x10391 0))), (9, (iv (Int.tmod x10391 p1.Width))), (10, (iv (w64 (Int.tdiv x10391 p1.Width)))), (12, (.slice A_p1_Cells p1.Cells.length c_p1_Cells)), (13, (iv (p1.Cells.length : Int))), (14, (iv x10391)), (64, (.bool (decide (w64 ((w64 (Int.tdiv x10391 p1.Width)) + 1) < p1.Height))))] [.cell ⟨g10220, 1, none⟩ (iv p1.Height)] (fun fb => by kernel_rfl) rfl ⟨hS10436.cell 0 rfl 1 rfl, trivial⟩ ?_
    refine WL.cutV (T := Bool) 8 (fun t => [(66, (.bool t)), (0, (.slice A_p0 p0.length c_p0)), (2, (.bool p2)), (4, (pt g10220)), (8, (iv (rdD p1.Cells x10391 0))), (9, (iv (Int.tmod x10391 p1.Width))), (10, (iv (w64 (Int.tdiv x10391 p1.Width)))), (12, (.slice A_p1_Cells p1.Cells.length c_p1_Cells)), (13, (iv (p1.Cells.length : Int))), (14, (iv x10391))]) (fun t => ((decide (w64 ((w64 (Int.tdiv x10391 p1.Width)) + 1) < p1.Height)) || p2) = t) (fun K => ?_) ?_
    ·
     rcases Bool.eq_false_or_eq_true (decide (w64 ((w64 (Int.tdiv x10391 p1.Width)) + 1) < p1.Height)) with h10440 | h10440
     ·
      refine WL.setB 64 h10440 rfl ?_
      refine seg 8 [] [0, 2, 4, 8, 9, 10, 12, 13, 14, 66] [(0, (.slice A_p0 p0.length c_p0)), (2, (.bool p2)), (4, (pt g10220)), (8, (iv (rdD p1.Cells x10391 0))), (9, (iv (Int.tmod x10391 p1.Width))), (10, (iv (w64 (Int.tdiv x10391 p1.Width)))), (12, (.slice A_p1_Cells p1.Cells.length c_p1_Cells)), (13, (iv (p1.Cells.length : Int))), (14, (iv x10391)), (66, (.bool true))] [] (fun fb => by kernel_rfl) rfl trivial ?_
      exact WL.toV K true [66, 0, 2, 4, 8, 9, 10, 12, 13, 14] rfl (by first | (rw [h10440]; done) | (rw [h10440]; rfl))
     refine WL.setB 64 h10440 rfl ?_
     refine seg 8 [] [0, 2, 4, 8, 9, 10, 12, 13, 14, 66] [(0, (.slice A_p0 p0.length c_p0)), (2, (.bool p2)), (4, (pt g10220)), (8, (iv (rdD p1.Cells x10391 0))), (9, (iv (Int.tmod x10391 p1.Width))), (10, (iv (w64 (Int.tdiv x10391 p1.Width)))), (12, (.slice A_p1_Cells p1.Cells.length c_p1_Cells)), (13, (iv (p1.Cells.length : Int))), (14, (iv x10391)), (66, (.bool p2))] [] (fun fb => by kernel_rfl) rfl trivial ?_
     exact WL.toV K p2 [66, 0, 2, 4, 8, 9, 10, 12, 13, 14] rfl (by first | (rw [h10440]; done) | (rw [h10440]; rfl))
    rintro b10441 rfl
    refine WL.done rfl ?_
    refine WX.next ?_
    obtain ⟨x10458, hx10459, hl10397⟩ := bind_some hl10397
    refine WC.cutN (T := Unit) (fun t => [(0, (.slice A_p0 p0.length c_p0)), (2, (.bool p2)), (4, (pt g10220)), (12, (.slice A_p1_Cells p1.Cells.length c_p1_Cells)), (13, (iv (p1.Cells.length : Int))), (14, (iv x10391))]) (fun t w1 => St NoS w w1 [rowR enc_Tile A_p0 c_p0 p0, rowR encInt A_p1_Cells c_p1_Cells p1.Cells] [blk g10220 (.cells #[(iv p1.Width), (iv p1.Height), (.slice A_p1_Cells p1.Cells.length c_p1_Cells)] 38 (0, 0))] ∧ x10458 = .inr t) (fun Kx10458 => ?_) ?_
    ·
     rcases br_some hx10459 with ⟨h10460, hx10459⟩ | ⟨h10460, hx10459⟩
     ·refine WC.condT2 (fun fb => by kernel_rfl) h10460 ?_
      refine WC.seq ?_
      obtain ⟨h10471, hx10459⟩ := as_some hx10459
      obtain ⟨h10472, hx10459⟩ := as_some hx10459
      obtain ⟨h10473, hx10459⟩ := as_some hx10459
      obtain ⟨h10474, hx10459⟩ := as_some hx10459
      refine WC.regionD ([(4, ((adr A_p0).add (((rdD p1.Cells x10391 0)).toNat * 4)), (iv ((rdD p0 (rdD p1.Cells x10391 0) z_Tile).N))), (7, ⟨g10220, 2, none⟩, (.slice A_p1_Cells p1.Cells.length c_p1_Cells)), (11, ⟨g10220, 1, none⟩, (iv p1.Height)), (14, ⟨g10220, 0, none⟩, (iv p1.Width)), (19, ((adr A_p1_Cells).add ((w64 ((w64 ((Int.tmod (w64 ((w64 (Int.tdiv x10391 p1.Width)) + 1)) p1.Height) * p1.Width)) + (Int.tmod x10391 p1.Width))).toNat * 1)), (iv (rdD p1.Cells (w64 ((w64 ((Int.tmod (w64 ((w64 (Int.tdiv x10391 p1.Width)) + 1)) p1.Height) * p1.Width)) + (Int.tmod x10391 p1.Width))) 0))), (22, (((adr A_p0).add (((rdD p1.Cells (w64 ((w64 ((Int.tmod (w64 ((w64 (Int.tdiv x10391 p1.Width)) + 1)) p1.Height) * p1.Width)) + (Int.tmod x10391 p1.Width))) 0)).toNat * 4)).add 2), (iv ((rdD p0 (rdD p1.Cells (w64 ((w64 ((Int.tmod (w64 ((w64 (Int.tdiv x10391 p1.Width)) + 1)) p1.Height) * p1.Width)) + (Int.tmod x10391 p1.Width))) 0) z_Tile).S)))], [0, 1, 2, 3, 4, 5, 6, 7, 8, 9, 10, 11, 12, 13, 14, 15, 16, 17, 18, 19, 20, 21, 22, 23], [[], [], [0, 1], [0, 1, 2], [0, 1, 2, 3], [], [], [6], [], [8], [], [10], [8, 9, 10, 11], [], [13], [8, 9, 10, 11, 12, 13, 14], [], [8, 9, 10, 11, 12, 13, 14, 15, 16], [6, 7, 8, 9, 10, 11, 12, 13, 14, 15, 16, 17], [6, 7, 8, 9, 10, 11, 12, 13, 14, 15, 16, 17, 18], [5, 6, 7, 8, 9, 10, 11, 12, 13, 14, 15, 16, 17, 18, 19], [5, 6, 7, 8, 9, 10, 11, 12, 13, 14, 15, 16, 17, 18, 19, 20], [5, 6, 7, 8, 9, 10, 11, 12, 13, 14, 15, 16, 17, 18, 19, 20, 21], [0, 1, 2, 3, 4, 5, 6, 7, 8, 9, 10, 11, 12, 13, 14, 15, 16, 17, 18, 19, 20, 21, 22]]) [[0, 1, 2, 3, 4, 5, 6, 7, 8, 9, 10, 11, 12, 13, 14, 15, 16, 17, 18, 19, 20, 21, 22, 23]] (by kernel_rfl) (by kernel_rfl) (NoPanic.seq (NoPanic.block (NoPanic.seq (NoPanic.seq (NoPanic.block (NoPanic.seq (NoPanic.body))))))) ?_
      have hS10466 := hS10436.drew
      revert hS10466
      generalize World.drew w10435 = w10465
      intro hS10466
      refine ⟨⟨rowR.cell (hS10466.rd 0).1 z_Tile h10471.1 h10471.2 0 rfl, hS10466.cell 0 rfl 2 rfl, hS10466.cell 0 rfl 1 rfl, hS10466.cell 0 rfl 0 rfl, rowR.cell (hS10466.rd 1).1 0 h10473.1 h10473.2 0 rfl, rowR.cell (hS10466.rd 0).1 z_Tile h10474.1 h10474.2 2 rfl, trivial⟩, forallC ?_ (forallN)⟩
      refine segF 24 [.v (iv ((rdD p0 (rdD p1.Cells x10391 0) z_Tile).N)), .v (.slice A_p1_Cells p1.Cells.length c_p1_Cells), .v (iv p1.Height), .v (iv p1.Width), .v (iv (rdD p1.Cells (w64 ((w64 ((Int.tmod (w64 ((w64 (Int.tdiv x10391 p1.Width)) + 1)) p1.Height) * p1.Width)) + (Int.tmod x10391 p1.Width))) 0)), .v (iv ((rdD p0 (rdD p1.Cells (w64 ((w64 ((Int.tmod (w64 ((w64 (Int.tdiv x10391 p1.Width)) + 1)) p1.Height) * p1.Width)) + (Int.tmod x10391 p1.Width))) 0) z_Tile).S))] [0, 2, 4, 12, 13, 14, 90] [(0, (.slice A_p0 p0.length c_p0)), (2, (.bool p2)), (4, (pt g10220)), (12, (.slice A_p1_Cells p1.Cells.length c_p1_Cells)), (13, (iv (p1.Cells.length : Int))), (14, (iv x10391)), (90, (.bool (((rdD p0 (rdD p1.Cells x10391 0) z_Tile).N) != ((rdD p0 (rdD p1.Cells (w64 ((w64 ((Int.tmod (w64 ((w64 (Int.tdiv x10391 p1.Width)) + 1)) p1.Height) * p1.Width)) + (Int.tmod x10391 p1.Width))) 0) z_Tile).S))))] [.idx A_p0 (rdD p1.Cells x10391 0) p0.length, .ne p1.Height, .idx A_p1_Cells (w64 ((w64 ((Int.tmod (w64 ((w64 (Int.tdiv x10391 p1.Width)) + 1)) p1.Height) * p1.Width)) + (Int.tmod x10391 p1.Width))) p1.Cells.length, .idx A_p0 (rdD p1.Cells (w64 ((w64 ((Int.tmod (w64 ((w64 (Int.tdiv x10391 p1.Width)) + 1)) p1.Height) * p1.Width)) + (Int.tmod x10391 p1.Width))) 0) p0.length] [0, 1, 2, 3, 4, 5] [(4, ((adr A_p0).add (((rdD p1.Cells x10391 0)).toNat * 4)), (iv ((rdD p0 (rdD p1.Cells x10391 0) z_Tile).N))), (7, ⟨g10220, 2, none⟩, (.slice A_p1_Cells p1.Cells.length c_p1_Cells)), (11, ⟨g10220, 1, none⟩, (iv p1.Height)), (14, ⟨g10220, 0, none⟩, (iv p1.Width)), (19, ((adr A_p1_Cells).add ((w64 ((w64 ((Int.tmod (w64 ((w64 (Int.tdiv x10391 p1.Width)) + 1)) p1.Height) * p1.Width)) + (Int.tmod x10391 p1.Width))).toNat * 1)), (iv (rdD p1.Cells (w64 ((w64 ((Int.tmod (w64 ((w64 (Int.tdiv x10391 p1.Width)) + 1)) p1.Height) * p1.Width)) + (Int.tmod x10391 p1.Width))) 0))), (22, (((adr A_p0).add (((rdD p1.Cells (w64 ((w64 ((Int.tmod (w64 ((w64 (Int.tdiv x10391 p1.Width)) + 1)) p1.Height) * p1.Width)) + (Int.tmod x10391 p1.Width))) 0)).toNat * 4)).add 2), (iv ((rdD p0 (rdD p1.Cells (w64 ((w64 ((Int.tmod (w64 ((w64 (Int.tdiv x10391 p1.Width)) + 1)) p1.Height) * p1.Width)) + (Int.tmod x10391 p1.Width))) 0) z_Tile).S)))] (fun fb => by kernel_rfl) rfl ⟨rowR.adr (hS10466.rd 0).1 h10471.1 h10471.2, h10472, rowR.adr (hS10466.rd 1).1 h10473.1 h10473.2, rowR.adr (hS10466.rd 0).1 h10474.1 h10474.2, trivial⟩ rfl ?_
      refine WL.done rfl ?_
      refine WX.next ?_
      rcases br_some hx10459 with ⟨h10475, hx10459⟩ | ⟨h10475, hx10459⟩
      ·refine WC.condT2 (fun fb => by kernel_rfl) h10475 ?_
       refine WC.seq ?_
       refine WC.region ?_
       refine seg 1 [] [6] [(6, (.bool false))] [] (fun fb => by kernel_rfl) rfl trivial ?_
       refine WL.done rfl ?_
       refine WX.next ?_
       refine WC.ret ?_
       injection hx10459 with hx10459
       subst hx10459
       injection hl10397 with hl10397
       subst hl10397
       injection hf with hf
       subst hf
       exact WX.blockR (WX.thenR (WX.thenR (WX.blockR (WX.thenR (WX.ret_ [] (.bool false) [] (fun fb => by kernel_rfl) trivial ⟨_, rfl, rfl, hS10466.keep⟩)))))
      refine WC.condF2 (fun fb => by kernel_rfl) h10475 ?_
      refine WC.skip ?_
      injection hx10459 with hx10459
      exact WX.to Kx10458 () [0, 2, 4, 12, 13, 14] rfl ⟨(hS10466.subR [0, 1]).sub [0] (by decide), hx10459.symm⟩
     refine WC.condF2 (fun fb => by kernel_rfl) h10460 ?_
     refine WC.skip ?_
     injection hx10459 with hx10459
     exact WX.to Kx10458 () [0, 2, 4, 12, 13, 14] rfl ⟨(hS10436.subR [0, 1]).sub [0] (by decide), hx10459.symm⟩
    rintro y10479 w10476 ⟨hS10477, hq10478⟩
    subst hq10478
    have hl10397 := sum_inr hl10397
    refine WX.blockN (WX.next ?_)
    refine WC.region ?_
    refine seg 2 [] [0, 2, 4, 12, 13, 14] [(0, (.slice A_p0 p0.length c_p0)), (2, (.bool p2)), (4, (pt g10220)), (12, (.slice A_p1_Cells p1.Cells.length c_p1_Cells)), (13, (iv (p1.Cells.length : Int))), (14, (iv (w64 (x10391 + 1))))] [] (fun fb => by kernel_rfl) rfl trivial ?_
    refine WL.done rfl ?_
    exact WX.again k10394 (Nat.lt_succ_self _) (w64 (x10391 + 1)) [0, 2, 4, 12, 13, 14] rfl ⟨(hS10477.subR [0, 1]).sub [0] (by decide), hl10397⟩
   refine WC.condF2 (fun fb => by kernel_rfl) h10398 ?_
   refine WC.exit ?_
   injection hl10397 with hl10397
   exact WX.thenX (WX.thenX (WX.blockHere (WX.to Kx10392 () [] rfl ⟨(hS10396.subR [0, 1]).sub [] (by decide), hl10397.symm⟩)))
 rintro y10484 w10481 ⟨hS10482, hq10483⟩
 subst hq10483
 have hf := sum_inr hf
 refine WX.next ?_
 refine WC.seq ?_
 refine WC.region ?_
 refine seg 1 [] [6] [(6, (.bool true))] [] (fun fb => by kernel_rfl) rfl trivial ?_
 refine WL.done rfl ?_
 refine WX.next ?_
 refine WC.ret ?_
 injection hf with hf
 subst hf
 exact WX.ret_ [] (.bool true) [] (fun fb => by kernel_rfl) trivial ⟨_, rfl, rfl, hS10482.keep⟩
theorem tile_Repeats_calls (k : Nat) (p0 : List Tile) (p1 : Pattern) (A_p0 : Option Addr) (c_p0 : Nat) (A_p1_Cells : Option Addr) (c_p1_Cells : Nat) (r : Bool) (w : World) (hR0 : RO NoS w (rowR enc_Tile A_p0 c_p0 p0)) (hR1 : RO NoS w (rowR encInt A_p1_Cells c_p1_Cells p1.Cells)) (hf : tile_Repeats k p0 p1 = some r) :
  CallsR Try.prog 27 #[(.slice A_p0 p0.length c_p0), (.agg #[(iv p1.Width), (iv p1.Height), (.slice A_p1_Cells p1.Cells.length c_p1_Cells)])] w (fun v w' => v = (.bool r) ∧ Keeps NoS w w') := by
 have hS : St NoS w w [rowR enc_Tile A_p0 c_p0 p0, rowR encInt A_p1_Cells c_p1_Cells p1.Cells] [] := St.init (ro_cons hR0 (ro_cons hR1 (ro_nil _ _)))
 refine enter 13 Try.func27 rfl Try.ntmps27 rfl ?_
 unfold tile_Repeats at hf
 refine WC.seq ?_
 refine WC.region ?_
 refine WL.new hS 3 [] (fun g => (.pointer (some ⟨g, 0, none⟩))) (.cells #[(iv p1.Width), (iv p1.Height), (.slice A_p1_Cells p1.Cells.length c_p1_Cells)] 38 (0, 0)) [] (fun fb g => by kernel_rfl) trivial (fun g10102 w10103 hS10104 => ?_)
 refine ⟨trivial, ?_⟩
 refine seg 2 [] [0, 3] [(0, (.slice A_p0 p0.length c_p0)), (3, (pt g10102))] [] (fun fb => by kernel_rfl) rfl trivial ?_
 refine WL.done rfl ?_
 refine WX.next ?_
 refine WC.seq ?_
 refine WC.region ?_
 refine seg 2 [.v (iv p1.Width), .v (iv p1.Height), .v (.slice A_p1_Cells p1.Cells.length c_p1_Cells)] [0, 3, 5, 6] [(0, (.slice A_p0 p0.length c_p0)), (3, (pt g10102)), (5, (.slice A_p0 p0.length c_p0)), (6, (.agg #[(iv p1.Width), (iv p1.Height), (.slice A_p1_Cells p1.Cells.length c_p1_Cells)]))] [.cell ⟨g10102, 0, none⟩ (iv p1.Width), .cell ⟨g10102, 1, none⟩ (iv p1.Height), .cell ⟨g10102, 2, none⟩ (.slice A_p1_Cells p1.Cells.length c_p1_Cells)] (fun fb => by kernel_rfl) rfl ⟨hS10104.cell 0 rfl 0 rfl, hS10104.cell 0 rfl 1 rfl, hS10104.cell 0 rfl 2 rfl, trivial⟩ ?_
 obtain ⟨t10215, ht10216, hf⟩ := bind_some hf
 refine WL.call (some 7) 48 #[(.slice A_p0 p0.length c_p0), (.agg #[(iv p1.Width), (iv p1.Height), (.slice A_p1_Cells p1.Cells.length c_p1_Cells)])] (fun fb => by kernel_rfl) (tile_of_calls _ p0 p1 A_p0 c_p0 A_p1_Cells c_p1_Cells t10215 _ (hS10104.rd 0) (hS10104.rd 1) ht10216) (fun v w10217 hR10218 => ?_)
 obtain ⟨rfl, hk_⟩ := hR10218
 have hS10219 := hS10104.keepN hk_
 refine ⟨trivial, ?_⟩
 refine seg 4 [] [0, 3, 8] [(0, (.slice A_p0 p0.length c_p0)), (3, (pt g10102)), (8, (.bool t10215))] [] (fun fb => by kernel_rfl) rfl trivial ?_
 obtain ⟨x10492, hx10493, hf⟩ := bind_some hf
 refine WL.cutW (T := Bool) 8 (fun t => [(12, (.bool t))]) (fun t w1 => (St NoS w w1 [rowR enc_Tile A_p0 c_p0 p0, rowR encInt A_p1_Cells c_p1_Cells p1.Cells] [] ∧ x10492 = t) ∧ CellsOK [] w1) (fun K => ?_) ?_
 ·
  rcases br_some hx10493 with ⟨h10494, hx10493⟩ | ⟨h10494, hx10493⟩
  ·
   refine WL.setB 8 h10494 rfl ?_
   refine seg 6 [.v (iv p1.Width), .v (iv p1.Height), .v (.slice A_p1_Cells p1.Cells.length c_p1_Cells)] [8, 9, 10] [(8, (.bool true)), (9, (.slice A_p0 p0.length c_p0)), (10, (.agg #[(iv p1.Width), (iv p1.Height), (.slice A_p1_Cells p1.Cells.length c_p1_Cells)]))] [.cell ⟨g10102, 0, none⟩ (iv p1.Width), .cell ⟨g10102, 1, none⟩ (iv p1.Height), .cell ⟨g10102, 2, none⟩ (.slice A_p1_Cells p1.Cells.length c_p1_Cells)] (fun fb => by kernel_rfl) rfl ⟨hS10219.cell 0 rfl 0 rfl, hS10219.cell 0 rfl 1 rfl, hS10219.cell 0 rfl 2 rfl, trivial⟩ ?_
   obtain ⟨t10495, ht10496, hx10493⟩ := bind_some hx10493
   refine WL.call (some 11) 49 #[(.slice A_p0 p0.length c_p0), (.agg #[(iv p1.Width), (iv p1.Height), (.slice A_p1_Cells p1.Cells.length c_p1_Cells)]), (.bool true)] (fun fb => by kernel_rfl) (tile_joins_calls _ p0 p1 true A_p0 c_p0 A_p1_Cells c_p1_Cells t10495 _ (hS10219.rd 0) (hS10219.rd 1) ht10496) (fun v w10497 hR10498 => ?_)
   obtain ⟨rfl, hk_⟩ := hR10498
   have hS10499 := hS10219.keepN hk_
   refine ⟨trivial, ?_⟩
   refine seg 8 [] [12] [(12, (.bool t10495))] [] (fun fb => by kernel_rfl) rfl trivial ?_
   injection hx10493 with hx10493
   exact WL.to K t10495 [12] rfl ⟨⟨(hS10499.subR [0, 1]).sub [] (by decide), hx10493.symm⟩, trivial⟩
  refine WL.setB 8 h10494 rfl ?_
  refine seg 8 [] [12] [(12, (.bool false))] [] (fun fb => by kernel_rfl) rfl trivial ?_
  injection hx10493 with hx10493
  exact WL.to K false [12] rfl ⟨⟨(hS10219.subR [0, 1]).sub [] (by decide), hx10493.symm⟩, trivial⟩
 rintro y10500 w10502 ⟨⟨hS10503, hq10501⟩, hF10504⟩
 subst hq10501
 refine seg 9 [] [4] [(4, (.bool x10492))] [] (fun fb => by kernel_rfl) rfl trivial ?_
 refine WL.done rfl ?_
 refine WX.next ?_
 refine WC.ret ?_
 injection hf with hf
 subst hf
 exact WX.ret_ [] (.bool x10492) [] (fun fb => by kernel_rfl) trivial ⟨_, rfl, rfl, hS10503.keep⟩
theorem decide_Check_calls (k : Nat) (p0 : List Tile) (p1 : Verdict) (A_p0 : Option Addr) (c_p0 : Nat) (A_p1_Torus_Cells : Option Addr) (c_p1_Torus_Cells : Nat) (r : Bool × Int) (w : World) (hR0 : RO NoS w (rowR enc_Tile A_p0 c_p0 p0)) (hR1 : RO NoS w (rowR encInt A_p1_Torus_Cells c_p1_Torus_Cells p1.Torus.Cells)) (hf : decide_Check k p0 p1 = some r) :
  CallsR Try.prog 18 #[(.slice A_p0 p0.length c_p0), (.agg #[(.bool p1.Fills), (iv p1.Torus.Width), (iv p1.Torus.Height), (.slice A_p1_Torus_Cells p1.Torus.Cells.length c_p1_Torus_Cells), (iv p1.Side)])] w (fun v w' => v = (.tuple #[(.bool r.1), (iv r.2)]) ∧ Keeps NoS w w') := by
 have hS : St NoS w w [rowR enc_Tile A_p0 c_p0 p0, rowR encInt A_p1_Torus_Cells c_p1_Torus_Cells p1.Torus.Cells] [] := St.init (ro_cons hR0 (ro_cons hR1 (ro_nil _ _)))
 refine enter 52 Try.func18 rfl Try.ntmps18 rfl ?_
 unfold decide_Check at hf
 refine WC.seq ?_
 refine WC.region ?_
 refine WL.new hS 3 [] (fun g => (.pointer (some ⟨g, 0, none⟩))) (.cells #[(.bool p1.Fills), (iv p1.Torus.Width), (iv p1.Torus.Height), (.slice A_p1_Torus_Cells p1.Torus.Cells.length c_p1_Torus_Cells), (iv p1.Side)] 40 (0, 0)) [] (fun fb g => by kernel_rfl) trivial (fun g10091 w10092 hS10093 => ?_)
 refine ⟨trivial, ?_⟩
 refine seg 3 [] [0, 3] [(0, (.slice A_p0 p0.length c_p0)), (3, (pt g10091))] [] (fun fb => by kernel_rfl) rfl trivial ?_
 refine WL.done rfl ?_
 refine WX.next ?_
 refine WC.seq ?_
 refine WC.seq ?_
 refine WC.region ?_
 refine seg 1 [] [0, 3, 8] [(0, (.slice A_p0 p0.length c_p0)), (3, (pt g10091)), (8, (.slice A_p0 p0.length c_p0))] [] (fun fb => by kernel_rfl) rfl trivial ?_
 obtain ⟨t10095, ht10096, hf⟩ := bind_some hf
 refine WL.call (some 9) 38 #[(.slice A_p0 p0.length c_p0)] (fun fb => by kernel_rfl) (tile_Valid_calls _ p0 A_p0 c_p0 t10095 _ (hS10093.rd 0) ht10096) (fun v w10097 hR10098 => ?_)
 obtain ⟨rfl, hk_⟩ := hR10098
 have hS10099 := hS10093.keepN hk_
 refine ⟨trivial, ?_⟩
 refine seg 3 [] [0, 3, 10] [(0, (.slice A_p0 p0.length c_p0)), (3, (pt g10091)), (10, (.bool (!t10095)))] [] (fun fb => by kernel_rfl) rfl trivial ?_
 refine WL.done rfl ?_
 refine WX.next ?_
 rcases br_some hf with ⟨h10100, hf⟩ | ⟨h10100, hf⟩
 ·refine WC.condT2 (fun fb => by kernel_rfl) h10100 ?_
  refine WC.seq ?_
  refine WC.region ?_
  refine seg 2 [] [4, 5] [(4, (.bool false)), (5, (iv 1))] [] (fun fb => by kernel_rfl) rfl trivial ?_
  refine WL.done rfl ?_
  refine WX.next ?_
  refine WC.ret ?_
  injection hf with hf
  subst hf
  exact WX.thenR (WX.ret_ [] (.tuple #[(.bool false), (iv 1)]) [] (fun fb => by kernel_rfl) trivial ⟨_, rfl, rfl, hS10099.keep⟩)
 refine WC.condF2 (fun fb => by kernel_rfl) h10100 ?_
 refine WC.skip ?_
 refine WX.next ?_
 refine WC.seq ?_
 refine WC.seq ?_
 refine WC.region ?_
 refine seg 2 [.v (.bool p1.Fills)] [0, 3, 12] [(0, (.slice A_p0 p0.length c_p0)), (3, (pt g10091)), (12, (.bool p1.Fills))] [.cell ⟨g10091, 0, none⟩ (.bool p1.Fills)] (fun fb => by kernel_rfl) rfl ⟨hS10099.cell 0 rfl 0 rfl, trivial⟩ ?_
 refine WL.done rfl ?_
 refine WX.next ?_
 rcases br_some hf with ⟨h10101, hf⟩ | ⟨h10101, hf⟩
 ·refine WC.condT2 (fun fb => by kernel_rfl) h10101 ?_
  refine WC.seq ?_
  refine WC.region ?_
  refine seg 4 [.v (iv p1.Side)] [0, 3, 16] [(0, (.slice A_p0 p0.length c_p0)), (3, (pt g10091)), (16, (.bool (p1.Side == 0)))] [.cell ⟨g10091, 4, none⟩ (iv p1.Side)] (fun fb => by kernel_rfl) rfl ⟨hS10099.cell 0 rfl 4 rfl, trivial⟩ ?_
  obtain ⟨x10511, hx10512, hf⟩ := bind_some hf
  refine WL.cutW (T := Bool) 9 (fun t => [(21, (.bool t))]) (fun t w1 => (St NoS w w1 [rowR enc_Tile A_p0 c_p0 p0, rowR encInt A_p1_Torus_Cells c_p1_Torus_Cells p1.Torus.Cells] [] ∧ x10511 = t) ∧ CellsOK [] w1) (fun K => ?_) ?_
  ·
   rcases br_some hx10512 with ⟨h10513, hx10512⟩ | ⟨h10513, hx10512⟩
   ·
    refine WL.setB 16 h10513 rfl ?_
    refine seg 7 [.v (iv p1.Torus.Width), .v (iv p1.Torus.Height), .v (.slice A_p1_Torus_Cells p1.Torus.Cells.length c_p1_Torus_Cells)] [16, 17, 19] [(16, (.bool true)), (17, (.slice A_p0 p0.length c_p0)), (19, (.agg #[(iv p1.Torus.Width), (iv p1.Torus.Height), (.slice A_p1_Torus_Cells p1.Torus.Cells.length c_p1_Torus_Cells)]))] [.cell ⟨g10091, 1, none⟩ (iv p1.Torus.Width), .cell ⟨g10091, 2, none⟩ (iv p1.Torus.Height), .cell ⟨g10091, 3, none⟩ (.slice A_p1_Torus_Cells p1.Torus.Cells.length c_p1_Torus_Cells)] (fun fb => by kernel_rfl) rfl ⟨hS10099.cell 0 rfl 1 rfl, hS10099.cell 0 rfl 2 rfl, hS10099.cell 0 rfl 3 rfl, trivial⟩ ?_
    obtain ⟨t10514, ht10515, hx10512⟩ := bind_some hx10512
    refine WL.call (some 20) 27 #[(.slice A_p0 p0.length c_p0), (.agg #[(iv p1.Torus.Width), (iv p1.Torus.Height), (.slice A_p1_Torus_Cells p1.Torus.Cells.length c_p1_Torus_Cells)])] (fun fb => by kernel_rfl) (tile_Repeats_calls _ p0 p1.Torus A_p0 c_p0 A_p1_Torus_Cells c_p1_Torus_Cells t10514 _ (hS10099.rd 0) (hS10099.rd 1) ht10515) (fun v w10516 hR10517 => ?_)
    obtain ⟨rfl, hk_⟩ := hR10517
    have hS10518 := hS10099.keepN hk_
    refine ⟨trivial, ?_⟩
    refine seg 9 [] [21] [(21, (.bool t10514))] [] (fun fb => by kernel_rfl) rfl trivial ?_
    injection hx10512 with hx10512
    exact WL.to K t10514 [21] rfl ⟨⟨(hS10518.subR [0, 1]).sub [] (by decide), hx10512.symm⟩, trivial⟩
   refine WL.setB 16 h10513 rfl ?_
   refine seg 9 [] [21] [(21, (.bool false))] [] (fun fb => by kernel_rfl) rfl trivial ?_
   injection hx10512 with hx10512
   exact WL.to K false [21] rfl ⟨⟨(hS10099.subR [0, 1]).sub [] (by decide), hx10512.symm⟩, trivial⟩
  rintro y10519 w10521 ⟨⟨hS10522, hq10520⟩, hF10523⟩
  subst hq10520
  refine seg 11 [] [4, 5] [(4, (.bool x10511)), (5, (iv 0))] [] (fun fb => by kernel_rfl) rfl trivial ?_
  refine WL.done rfl ?_
  refine WX.next ?_
  refine WC.ret ?_
  injection hf with hf
  subst hf
  exact WX.thenR (WX.ret_ [] (.tuple #[(.bool x10511), (iv 0)]) [] (fun fb => by kernel_rfl) trivial ⟨_, rfl, rfl, hS10522.keep⟩)
 refine WC.condF2 (fun fb => by kernel_rfl) h10101 ?_
 refine WC.skip ?_
 refine WX.next ?_
 refine WC.seq ?_
 refine WC.seq ?_
 refine WC.region ?_
 refine seg 5 [.v (iv p1.Torus.Width)] [0, 3, 26] [(0, (.slice A_p0 p0.length c_p0)), (3, (pt g10091)), (26, (.bool (p1.Torus.Width != 0)))] [.cell ⟨g10091, 1, none⟩ (iv p1.Torus.Width)] (fun fb => by kernel_rfl) rfl ⟨hS10099.cell 0 rfl 1 rfl, trivial⟩ ?_
 refine WL.cutV (T := Bool) 10 (fun t => [(31, (.bool t)), (0, (.slice A_p0 p0.length c_p0)), (3, (pt g10091))]) (fun t => ((p1.Torus.Width != 0) || (p1.Torus.Height != 0)) = t) (fun K => ?_) ?_
 ·
  rcases Bool.eq_false_or_eq_true (p1.Torus.Width != 0) with h10524 | h10524
  ·
   refine WL.setB 26 h10524 rfl ?_
   refine seg 10 [] [0, 3, 31] [(0, (.slice A_p0 p0.length c_p0)), (3, (pt g10091)), (31, (.bool true))] [] (fun fb => by kernel_rfl) rfl trivial ?_
   exact WL.toV K true [31, 0, 3] rfl (by first | (rw [h10524]; done) | (rw [h10524]; rfl))
  refine WL.setB 26 h10524 rfl ?_
  refine seg 10 [.v (iv p1.Torus.Height)] [0, 3, 31] [(0, (.slice A_p0 p0.length c_p0)), (3, (pt g10091)), (31, (.bool (p1.Torus.Height != 0)))] [.cell ⟨g10091, 2, none⟩ (iv p1.Torus.Height)] (fun fb => by kernel_rfl) rfl ⟨hS10099.cell 0 rfl 2 rfl, trivial⟩ ?_
  exact WL.toV K (p1.Torus.Height != 0) [31, 0, 3] rfl (by first | (rw [h10524]; done) | (rw [h10524]; rfl))
 rintro b10525 rfl
 refine seg 11 [] [0, 3, 32] [(0, (.slice A_p0 p0.length c_p0)), (3, (pt g10091)), (32, (.bool ((p1.Torus.Width != 0) || (p1.Torus.Height != 0))))] [] (fun fb => by kernel_rfl) rfl trivial ?_
 refine WL.cutV (T := Bool) 17 (fun t => [(38, (.bool t)), (0, (.slice A_p0 p0.length c_p0)), (3, (pt g10091))]) (fun t => (((p1.Torus.Width != 0) || (p1.Torus.Height != 0)) || (decide ((p1.Torus.Cells.length : Int) > 0))) = t) (fun K => ?_) ?_
 ·
  rcases Bool.eq_false_or_eq_true ((p1.Torus.Width != 0) || (p1.Torus.Height != 0)) with h10526 | h10526
  ·
   refine WL.setB 32 h10526 rfl ?_
   refine seg 17 [] [0, 3, 38] [(0, (.slice A_p0 p0.length c_p0)), (3, (pt g10091)), (38, (.bool true))] [] (fun fb => by kernel_rfl) rfl trivial ?_
   exact WL.toV K true [38, 0, 3] rfl (by first | (rw [h10526]; done) | (rw [h10526]; rfl))
  refine WL.setB 32 h10526 rfl ?_
  refine seg 17 [.v (.slice A_p1_Torus_Cells p1.Torus.Cells.length c_p1_Torus_Cells)] [0, 3, 38] [(0, (.slice A_p0 p0.length c_p0)), (3, (pt g10091)), (38, (.bool (decide ((p1.Torus.Cells.length : Int) > 0))))] [.cell ⟨g10091, 3, none⟩ (.slice A_p1_Torus_Cells p1.Torus.Cells.length c_p1_Torus_Cells)] (fun fb => by kernel_rfl) rfl ⟨hS10099.cell 0 rfl 3 rfl, trivial⟩ ?_
  exact WL.toV K (decide ((p1.Torus.Cells.length : Int) > 0)) [38, 0, 3] rfl (by first | (rw [h10526]; done) | (rw [h10526]; rfl))
 rintro b10527 rfl
 refine WL.done rfl ?_
 refine WX.next ?_
 rcases br_some hf with ⟨h10528, hf⟩ | ⟨h10528, hf⟩
 ·refine WC.condT2 (fun fb => by kernel_rfl) h10528 ?_
  refine WC.seq ?_
  refine WC.region ?_
  refine seg 2 [] [4, 5] [(4, (.bool false)), (5, (iv 0))] [] (fun fb => by kernel_rfl) rfl trivial ?_
  refine WL.done rfl ?_
  refine WX.next ?_
  refine WC.ret ?_
  injection hf with hf
  subst hf
  exact WX.thenR (WX.ret_ [] (.tuple #[(.bool false), (iv 0)]) [] (fun fb => by kernel_rfl) trivial ⟨_, rfl, rfl, hS10099.keep⟩)
 refine WC.condF2 (fun fb => by kernel_rfl) h10528 ?_
 refine WC.skip ?_
 refine WX.next ?_
 refine WC.seq ?_
 refine WC.region ?_
 refine seg 3 [.v (iv p1.Side)] [40, 42] [(40, (.slice A_p0 p0.length c_p0)), (42, (iv p1.Side))] [.cell ⟨g10091, 4, none⟩ (iv p1.Side)] (fun fb => by kernel_rfl) rfl ⟨hS10099.cell 0 rfl 4 rfl, trivial⟩ ?_
 obtain ⟨t10529, ht10530, hf⟩ := bind_some hf
 refine WL.call (some 43) 21 #[(.slice A_p0 p0.length c_p0), (iv p1.Side)] (fun fb => by kernel_rfl) (square_Exists_calls _ p0 p1.Side A_p0 c_p0 t10529 _ (hS10099.rd 0) ht10530) (fun v w10531 hR10532 => ?_)
 obtain ⟨rfl, hk_⟩ := hR10532
 have hS10533 := hS10099.keepN hk_
 refine ⟨trivial, ?_⟩
 refine seg 9 [] [6, 7] [(6, (.bool t10529.1)), (7, (iv t10529.2))] [] (fun fb => by kernel_rfl) rfl trivial ?_
 refine WL.done rfl ?_
 refine WX.next ?_
 refine WC.seq ?_
 refine WC.region ?_
 refine seg 3 [] [6, 48] [(6, (.bool t10529.1)), (48, (.bool (t10529.2 == 0)))] [] (fun fb => by kernel_rfl) rfl trivial ?_
 refine WL.cutV (T := Bool) 6 (fun t => [(51, (.bool t))]) (fun t => ((t10529.2 == 0) && (!t10529.1)) = t) (fun K => ?_) ?_
 ·
  rcases Bool.eq_false_or_eq_true (t10529.2 == 0) with h10534 | h10534
  ·
   refine WL.setB 48 h10534 rfl ?_
   refine seg 6 [] [51] [(51, (.bool (!t10529.1)))] [] (fun fb => by kernel_rfl) rfl trivial ?_
   exact WL.toV K (!t10529.1) [51] rfl (by first | (rw [h10534]; done) | (rw [h10534]; rfl))
  refine WL.setB 48 h10534 rfl ?_
  refine seg 6 [] [51] [(51, (.bool false))] [] (fun fb => by kernel_rfl) rfl trivial ?_
  exact WL.toV K false [51] rfl (by first | (rw [h10534]; done) | (rw [h10534]; rfl))
 rintro b10535 rfl
 refine seg 8 [] [4, 5] [(4, (.bool ((t10529.2 == 0) && (!t10529.1)))), (5, (iv 0))] [] (fun fb => by kernel_rfl) rfl trivial ?_
 refine WL.done rfl ?_
 refine WX.next ?_
 refine WC.ret ?_
 injection hf with hf
 subst hf
 exact WX.ret_ [] (.tuple #[(.bool ((t10529.2 == 0) && (!t10529.1))), (iv 0)]) [] (fun fb => by kernel_rfl) trivial ⟨_, rfl, rfl, hS10533.keep⟩
theorem top_of_calls (k : Nat) (p0 : List Tile) (p1 : Pattern) (p2 : Bool) (A_p0 : Option Addr) (c_p0 : Nat) (A_p1_Cells : Option Addr) (c_p1_Cells : Nat) (r : Bool) (w : World) (hR0 : RO NoS w (rowR enc_Tile A_p0 c_p0 p0)) (hR1 : RO NoS w (rowR encInt A_p1_Cells c_p1_Cells p1.Cells)) (hf : top_of k p0 p1 p2 = some r) :
  CallsR Try.prog 29 #[(.slice A_p0 p0.length c_p0), (.agg #[(iv p1.Width), (iv p1.Height), (.slice A_p1_Cells p1.Cells.length c_p1_Cells)]), (.bool p2)] w (fun v w' => v = (.bool r) ∧ Keeps NoS w w') := by
 have hS : St NoS w w [rowR enc_Tile A_p0 c_p0 p0, rowR encInt A_p1_Cells c_p1_Cells p1.Cells] [] := St.init (ro_cons hR0 (ro_cons hR1 (ro_nil _ _)))
 refine enter 225 Try.func29 rfl Try.ntmps29 rfl ?_
 unfold top_of at hf
 refine WC.seq ?_
 refine WC.region ?_
 refine WL.new hS 4 [] (fun g => (.pointer (some ⟨g, 0, none⟩))) (.cells #[(iv p1.Width), (iv p1.Height), (.slice A_p1_Cells p1.Cells.length c_p1_Cells)] 38 (0, 0)) [] (fun fb g => by kernel_rfl) trivial (fun g10547 w10548 hS10549 => ?_)
 refine ⟨trivial, ?_⟩
 refine seg 2 [] [0, 2, 4] [(0, (.slice A_p0 p0.length c_p0)), (2, (.bool p2)), (4, (pt g10547))] [] (fun fb => by kernel_rfl) rfl trivial ?_
 refine WL.done rfl ?_
 refine WX.next ?_
 refine WC.seq ?_
 refine WC.seq ?_
 refine WC.region ?_
 refine seg 4 [] [0, 2, 4, 17] [(0, (.slice A_p0 p0.length c_p0)), (2, (.bool p2)), (4, (pt g10547)), (17, (.bool (decide ((p0.length : Int) > 1000))))] [] (fun fb => by kernel_rfl) rfl trivial ?_
 refine WL.cutV (T := Bool) 8 (fun t => [(21, (.bool t)), (0, (.slice A_p0 p0.length c_p0)), (2, (.bool p2)), (4, (pt g10547))]) (fun t => ((decide ((p0.length : Int) > 1000)) || (decide (p1.Width < 1))) = t) (fun K => ?_) ?_
 ·
  rcases Bool.eq_false_or_eq_true (decide ((p0.length : Int) > 1000)) with h10551 | h10551
  ·
   refine WL.setB 17 h10551 rfl ?_
   refine seg 8 [] [0, 2, 4, 21] [(0, (.slice A_p0 p0.length c_p0)), (2, (.bool p2)), (4, (pt g10547)), (21, (.bool true))] [] (fun fb => by kernel_rfl) rfl trivial ?_
   exact WL.toV K true [21, 0, 2, 4] rfl (by first | (rw [h10551]; done) | (rw [h10551]; rfl))
  refine WL.setB 17 h10551 rfl ?_
  refine seg 8 [.v (iv p1.Width)] [0, 2, 4, 21] [(0, (.slice A_p0 p0.length c_p0)), (2, (.bool p2)), (4, (pt g10547)), (21, (.bool (decide (p1.Width < 1))))] [.cell ⟨g10547, 0, none⟩ (iv p1.Width)] (fun fb => by kernel_rfl) rfl ⟨hS10549.cell 0 rfl 0 rfl, trivial⟩ ?_
  exact WL.toV K (decide (p1.Width < 1)) [21, 0, 2, 4] rfl (by first | (rw [h10551]; done) | (rw [h10551]; rfl))
 rintro b10552 rfl
 refine seg 9 [] [0, 2, 4, 22] [(0, (.slice A_p0 p0.length c_p0)), (2, (.bool p2)), (4, (pt g10547)), (22, (.bool ((decide ((p0.length : Int) > 1000)) || (decide (p1.Width < 1)))))] [] (fun fb => by kernel_rfl) rfl trivial ?_
 refine WL.cutV (T := Bool) 13 (fun t => [(26, (.bool t)), (0, (.slice A_p0 p0.length c_p0)), (2, (.bool p2)), (4, (pt g10547))]) (fun t => (((decide ((p0.length : Int) > 1000)) || (decide (p1.Width < 1))) || (decide (p1.Height < 1))) = t) (fun K => ?_) ?_
 ·
  rcases Bool.eq_false_or_eq_true ((decide ((p0.length : Int) > 1000)) || (decide (p1.Width < 1))) with h10553 | h10553
  ·
   refine WL.setB 22 h10553 rfl ?_
   refine seg 13 [] [0, 2, 4, 26] [(0, (.slice A_p0 p0.length c_p0)), (2, (.bool p2)), (4, (pt g10547)), (26, (.bool true))] [] (fun fb => by kernel_rfl) rfl trivial ?_
   exact WL.toV K true [26, 0, 2, 4] rfl (by first | (rw [h10553]; done) | (rw [h10553]; rfl))
  refine WL.setB 22 h10553 rfl ?_
  refine seg 13 [.v (iv p1.Height)] [0, 2, 4, 26] [(0, (.slice A_p0 p0.length c_p0)), (2, (.bool p2)), (4, (pt g10547)), (26, (.bool (decide (p1.Height < 1))))] [.cell ⟨g10547, 1, none⟩ (iv p1.Height)] (fun fb => by kernel_rfl) rfl ⟨hS10549.cell 0 rfl 1 rfl, trivial⟩ ?_
  exact WL.toV K (decide (p1.Height < 1)) [26, 0, 2, 4] rfl (by first | (rw [h10553]; done) | (rw [h10553]; rfl))
 rintro b10554 rfl
 refine seg 14 [] [0, 2, 4, 27] [(0, (.slice A_p0 p0.length c_p0)), (2, (.bool p2)), (4, (pt g10547)), (27, (.bool (((decide ((p0.length : Int) > 1000)) || (decide (p1.Width < 1))) || (decide (p1.Height < 1)))))] [] (fun fb => by kernel_rfl) rfl trivial ?_
 refine WL.cutV (T := Bool) 18 (fun t => [(31, (.bool t)), (0, (.slice A_p0 p0.length c_p0)), (2, (.bool p2)), (4, (pt g10547))]) (fun t => ((((decide ((p0.length : Int) > 1000)) || (decide (p1.Width < 1))) || (decide (p1.Height < 1))) || (decide (p1.Width > 40000))) = t) (fun K => ?_) ?_
 ·
  rcases Bool.eq_false_or_eq_true (((decide ((p0.length : Int) > 1000)) || (decide (p1.Width < 1))) || (decide (p1.Height < 1))) with h10555 | h10555
  ·
   refine WL.setB 27 h10555 rfl ?_
   refine seg 18 [] [0, 2, 4, 31] [(0, (.slice A_p0 p0.length c_p0)), (2, (.bool p2)), (4, (pt g10547)), (31, (.bool true))] [] (fun fb => by kernel_rfl) rfl trivial ?_
   exact WL.toV K true [31, 0, 2, 4] rfl (by first | (rw [h10555]; done) | (rw [h10555]; rfl))
  refine WL.setB 27 h10555 rfl ?_
  refine seg 18 [.v (iv p1.Width)] [0, 2, 4, 31] [(0, (.slice A_p0 p0.length c_p0)), (2, (.bool p2)), (4, (pt g10547)), (31, (.bool (decide (p1.Width > 40000))))] [.cell ⟨g10547, 0, none⟩ (iv p1.Width)] (fun fb => by kernel_rfl) rfl ⟨hS10549.cell 0 rfl 0 rfl, trivial⟩ ?_
  exact WL.toV K (decide (p1.Width > 40000)) [31, 0, 2, 4] rfl (by first | (rw [h10555]; done) | (rw [h10555]; rfl))
 rintro b10556 rfl
 refine seg 19 [] [0, 2, 4, 32] [(0, (.slice A_p0 p0.length c_p0)), (2, (.bool p2)), (4, (pt g10547)), (32, (.bool ((((decide ((p0.length : Int) > 1000)) || (decide (p1.Width < 1))) || (decide (p1.Height < 1))) || (decide (p1.Width > 40000)))))] [] (fun fb => by kernel_rfl) rfl trivial ?_
 refine WL.cutV (T := Bool) 23 (fun t => [(36, (.bool t)), (0, (.slice A_p0 p0.length c_p0)), (2, (.bool p2)), (4, (pt g10547))]) (fun t => (((((decide ((p0.length : Int) > 1000)) || (decide (p1.Width < 1))) || (decide (p1.Height < 1))) || (decide (p1.Width > 40000))) || (decide (p1.Height > 40000))) = t) (fun K => ?_) ?_
 ·
  rcases Bool.eq_false_or_eq_true ((((decide ((p0.length : Int) > 1000)) || (decide (p1.Width < 1))) || (decide (p1.Height < 1))) || (decide (p1.Width > 40000))) with h10557 | h10557
  ·
   refine WL.setB 32 h10557 rfl ?_
   refine seg 23 [] [0, 2, 4, 36] [(0, (.slice A_p0 p0.length c_p0)), (2, (.bool p2)), (4, (pt g10547)), (36, (.bool true))] [] (fun fb => by kernel_rfl) rfl trivial ?_
   exact WL.toV K true [36, 0, 2, 4] rfl (by first | (rw [h10557]; done) | (rw [h10557]; rfl))
  refine WL.setB 32 h10557 rfl ?_
  refine seg 23 [.v (iv p1.Height)] [0, 2, 4, 36] [(0, (.slice A_p0 p0.length c_p0)), (2, (.bool p2)), (4, (pt g10547)), (36, (.bool (decide (p1.Height > 40000))))] [.cell ⟨g10547, 1, none⟩ (iv p1.Height)] (fun fb => by kernel_rfl) rfl ⟨hS10549.cell 0 rfl 1 rfl, trivial⟩ ?_
  exact WL.toV K (decide (p1.Height > 40000)) [36, 0, 2, 4] rfl (by first | (rw [h10557]; done) | (rw [h10557]; rfl))
 rintro b10558 rfl
 refine seg 24 [] [0, 2, 4, 37] [(0, (.slice A_p0 p0.length c_p0)), (2, (.bool p2)), (4, (pt g10547)), (37, (.bool (((((decide ((p0.length : Int) > 1000)) || (decide (p1.Width < 1))) || (decide (p1.Height < 1))) || (decide (p1.Width > 40000))) || (decide (p1.Height > 40000)))))] [] (fun fb => by kernel_rfl) rfl trivial ?_
 refine WL.cutV (T := Bool) 31 (fun t => [(44, (.bool t)), (0, (.slice A_p0 p0.length c_p0)), (2, (.bool p2)), (4, (pt g10547))]) (fun t => ((((((decide ((p0.length : Int) > 1000)) || (decide (p1.Width < 1))) || (decide (p1.Height < 1))) || (decide (p1.Width > 40000))) || (decide (p1.Height > 40000))) || (decide (w64 (p1.Width * p1.Height) > 40000))) = t) (fun K => ?_) ?_
 ·
  rcases Bool.eq_false_or_eq_true (((((decide ((p0.length : Int) > 1000)) || (decide (p1.Width < 1))) || (decide (p1.Height < 1))) || (decide (p1.Width > 40000))) || (decide (p1.Height > 40000))) with h10559 | h10559
  ·
   refine WL.setB 37 h10559 rfl ?_
   refine seg 31 [] [0, 2, 4, 44] [(0, (.slice A_p0 p0.length c_p0)), (2, (.bool p2)), (4, (pt g10547)), (44, (.bool true))] [] (fun fb => by kernel_rfl) rfl trivial ?_
   exact WL.toV K true [44, 0, 2, 4] rfl (by first | (rw [h10559]; done) | (rw [h10559]; rfl))
  refine WL.setB 37 h10559 rfl ?_
  refine seg 31 [.v (iv p1.Width), .v (iv p1.Height)] [0, 2, 4, 44] [(0, (.slice A_p0 p0.length c_p0)), (2, (.bool p2)), (4, (pt g10547)), (44, (.bool (decide (w64 (p1.Width * p1.Height) > 40000))))] [.cell ⟨g10547, 0, none⟩ (iv p1.Width), .cell ⟨g10547, 1, none⟩ (iv p1.Height)] (fun fb => by kernel_rfl) rfl ⟨hS10549.cell 0 rfl 0 rfl, hS10549.cell 0 rfl 1 rfl, trivial⟩ ?_
  exact WL.toV K (decide (w64 (p1.Width * p1.Height) > 40000)) [44, 0, 2, 4] rfl (by first | (rw [h10559]; done) | (rw [h10559]; rfl))
 rintro b10560 rfl
 refine seg 32 [] [0, 2, 4, 45] [(0, (.slice A_p0 p0.length c_p0)), (2, (.bool p2)), (4, (pt g10547)), (45, (.bool ((((((decide ((p0.length : Int) > 1000)) || (decide (p1.Width < 1))) || (decide (p1.Height < 1))) || (decide (p1.Width > 40000))) || (decide (p1.Height > 40000))) || (decide (w64 (p1.Width * p1.Height) > 40000)))))] [] (fun fb => by kernel_rfl) rfl trivial ?_
 refine WL.cutV (T := Bool) 42 (fun t => [(55, (.bool t)), (0, (.slice A_p0 p0.length c_p0)), (2, (.bool p2)), (4, (pt g10547))]) (fun t => (((((((decide ((p0.length : Int) > 1000)) || (decide (p1.Width < 1))) || (decide (p1.Height < 1))) || (decide (p1.Width > 40000))) || (decide (p1.Height > 40000))) || (decide (w64 (p1.Width * p1.Height) > 40000))) || ((p1.Cells.length : Int) != (w64 (p1.Width * p1.Height)))) = t) (fun K => ?_) ?_
 ·
  rcases Bool.eq_false_or_eq_true ((((((decide ((p0.length : Int) > 1000)) || (decide (p1.Width < 1))) || (decide (p1.Height < 1))) || (decide (p1.Width > 40000))) || (decide (p1.Height > 40000))) || (decide (w64 (p1.Width * p1.Height) > 40000))) with h10561 | h10561
  ·
   refine WL.setB 45 h10561 rfl ?_
   refine seg 42 [] [0, 2, 4, 55] [(0, (.slice A_p0 p0.length c_p0)), (2, (.bool p2)), (4, (pt g10547)), (55, (.bool true))] [] (fun fb => by kernel_rfl) rfl trivial ?_
   exact WL.toV K true [55, 0, 2, 4] rfl (by first | (rw [h10561]; done) | (rw [h10561]; rfl))
  refine WL.setB 45 h10561 rfl ?_
  refine seg 42 [.v (.slice A_p1_Cells p1.Cells.length c_p1_Cells), .v (iv p1.Width), .v (iv p1.Height)] [0, 2, 4, 55] [(0, (.slice A_p0 p0.length c_p0)), (2, (.bool p2)), (4, (pt g10547)), (55, (.bool ((p1.Cells.length : Int) != (w64 (p1.Width * p1.Height)))))] [.cell ⟨g10547, 2, none⟩ (.slice A_p1_Cells p1.Cells.length c_p1_Cells), .cell ⟨g10547, 0, none⟩ (iv p1.Width), .cell ⟨g10547, 1, none⟩ (iv p1.Height)] (fun fb => by kernel_rfl) rfl ⟨hS10549.cell 0 rfl 2 rfl, hS10549.cell 0 rfl 0 rfl, hS10549.cell 0 rfl 1 rfl, trivial⟩ ?_
  exact WL.toV K ((p1.Cells.length : Int) != (w64 (p1.Width * p1.Height))) [55, 0, 2, 4] rfl (by first | (rw [h10561]; done) | (rw [h10561]; rfl))
 rintro b10562 rfl
 refine WL.done rfl ?_
 refine WX.next ?_
 rcases br_some hf with ⟨h10563, hf⟩ | ⟨h10563, hf⟩
 ·refine WC.condT2 (fun fb => by kernel_rfl) h10563 ?_
  refine WC.seq ?_
  refine WC.region ?_
  refine seg 1 [] [6] [(6, (.bool false))] [] (fun fb => by kernel_rfl) rfl trivial ?_
  refine WL.done rfl ?_
  refine WX.next ?_
  refine WC.ret ?_
  injection hf with hf
  subst hf
  exact WX.thenR (WX.ret_ [] (.bool false) [] (fun fb => by kernel_rfl) trivial ⟨_, rfl, rfl, hS10549.keep⟩)
 refine WC.condF2 (fun fb => by kernel_rfl) h10563 ?_
 refine WC.skip ?_
 refine WX.next ?_
 refine WC.seq ?_
 refine WC.seq ?_
 refine WC.region ?_
 refine seg 1 [] [0, 2, 4, 7] [(0, (.slice A_p0 p0.length c_p0)), (2, (.bool p2)), (4, (pt g10547)), (7, (iv 0))] [] (fun fb => by kernel_rfl) rfl trivial ?_
 refine WL.done rfl ?_
 refine WX.next ?_
 obtain ⟨x10677, hx10678, hf⟩ := bind_some hf
 refine WC.cutN (T := Unit) (fun t => [(0, (.slice A_p0 p0.length c_p0)), (2, (.bool p2)), (4, (pt g10547))]) (fun t w1 => St NoS w w1 [rowR enc_Tile A_p0 c_p0 p0, rowR encInt A_p1_Cells c_p1_Cells p1.Cells] [blk g10547 (.cells #[(iv p1.Width), (iv p1.Height), (.slice A_p1_Cells p1.Cells.length c_p1_Cells)] 38 (0, 0))] ∧ x10677 = .inr t) (fun Kx10677 => ?_) ?_
 ·
  refine WC.block ?_
  refine WC.loop (T := Int) (fun t => [(0, (.slice A_p0 p0.length c_p0)), (2, (.bool p2)), (4, (pt g10547)), (7, (iv t))]) (fun n t w1 => St NoS w w1 [rowR enc_Tile A_p0 c_p0 p0, rowR encInt A_p1_Cells c_p1_Cells p1.Cells] [blk g10547 (.cells #[(iv p1.Width), (iv p1.Height), (.slice A_p1_Cells p1.Cells.length c_p1_Cells)] 38 (0, 0))] ∧ top_of.l0 n t p0 = some x10677) k 0 [0, 2, 4, 7] rfl ⟨(hS10549.subR [0, 1]).sub [0] (by decide), hx10678⟩ ?_
  rintro k10679 x10676 w10680 ⟨hS10681, hl10682⟩
  cases k10679 with
  | zero => rw [top_of.l0] at hl10682; cases hl10682
  | succ k10679 =>
   rw [top_of.l0] at hl10682
   refine WC.seq ?_
   refine WC.seq ?_
   refine WC.region ?_
   refine seg 4 [] [0, 2, 4, 7, 59] [(0, (.slice A_p0 p0.length c_p0)), (2, (.bool p2)), (4, (pt g10547)), (7, (iv x10676)), (59, (.bool (decide (x10676 < (p0.length : Int)))))] [] (fun fb => by kernel_rfl) rfl trivial ?_
   refine WL.done rfl ?_
   refine WX.next ?_
   rcases br_some hl10682 with ⟨h10683, hl10682⟩ | ⟨h10683, hl10682⟩
   ·refine WC.condT2 (fun fb => by kernel_rfl) h10683 ?_
    refine WC.skip ?_
    refine WX.next ?_
    refine WC.seq ?_
    refine WC.block ?_
    refine WC.seq ?_
    refine WC.region ?_
    refine seg 2 [] [0, 2, 4, 7, 62, 63] [(0, (.slice A_p0 p0.length c_p0)), (2, (.bool p2)), (4, (pt g10547)), (7, (iv x10676)), (62, (.slice A_p0 p0.length c_p0)), (63, (iv x10676))] [] (fun fb => by kernel_rfl) rfl trivial ?_
    obtain ⟨h10684, hl10682⟩ := as_some hl10682
    refine seg 4 [.v (iv ((rdD p0 x10676 z_Tile).N)), .v (iv ((rdD p0 x10676 z_Tile).E)), .v (iv ((rdD p0 x10676 z_Tile).S)), .v (iv ((rdD p0 x10676 z_Tile).W))] [0, 2, 4, 7, 65] [(0, (.slice A_p0 p0.length c_p0)), (2, (.bool p2)), (4, (pt g10547)), (7, (iv x10676)), (65, (.agg #[(iv ((rdD p0 x10676 z_Tile).N)), (iv ((rdD p0 x10676 z_Tile).E)), (iv ((rdD p0 x10676 z_Tile).S)), (iv ((rdD p0 x10676 z_Tile).W))]))] [.idx A_p0 x10676 p0.length, .cell ((adr A_p0).add ((x10676).toNat * 4)) (iv ((rdD p0 x10676 z_Tile).N)), .cell (((adr A_p0).add ((x10676).toNat * 4)).add 1) (iv ((rdD p0 x10676 z_Tile).E)), .cell (((adr A_p0).add ((x10676).toNat * 4)).add 2) (iv ((rdD p0 x10676 z_Tile).S)), .cell (((adr A_p0).add ((x10676).toNat * 4)).add 3) (iv ((rdD p0 x10676 z_Tile).W))] (fun fb => by kernel_rfl) rfl ⟨rowR.adr (hS10681.rd 0).1 h10684.1 h10684.2, rowR.cell (hS10681.rd 0).1 z_Tile h10684.1 h10684.2 0 rfl, rowR.cell (hS10681.rd 0).1 z_Tile h10684.1 h10684.2 1 rfl, rowR.cell (hS10681.rd 0).1 z_Tile h10684.1 h10684.2 2 rfl, rowR.cell (hS10681.rd 0).1 z_Tile h10684.1 h10684.2 3 rfl, trivial⟩ ?_
    refine WL.new hS10681 8 [] (fun g => (.pointer (some ⟨g, 0, none⟩))) (.cells #[(iv 0), (iv 0), (iv 0), (iv 0)] 24 (0, 0)) [] (fun fb g => by kernel_rfl) trivial (fun g10685 w10686 hS10687 => ?_)
    refine ⟨trivial, ?_⟩
    refine WL.store hS10687 0 rfl [(0, (iv ((rdD p0 x10676 z_Tile).N))), (1, (iv ((rdD p0 x10676 z_Tile).E))), (2, (iv ((rdD p0 x10676 z_Tile).S))), (3, (iv ((rdD p0 x10676 z_Tile).W)))] #[(iv ((rdD p0 x10676 z_Tile).N)), (iv ((rdD p0 x10676 z_Tile).E)), (iv ((rdD p0 x10676 z_Tile).S)), (iv ((rdD p0 x10676 z_Tile).W))] (fun fb => by kernel_rfl) (by kernel_rfl) rfl [1] (by decide) (by decide) (fun w10689 hS10690 => ?_)
    refine ⟨trivial, ?_⟩
    refine WL.done rfl ?_
    refine WX.next ?_
    refine WC.seq ?_
    refine WC.seq ?_
    refine WC.region ?_
    refine seg 4 [.v (iv ((rdD p0 x10676 z_Tile).N))] [0, 2, 4, 7, 8, 69] [(0, (.slice A_p0 p0.length c_p0)), (2, (.bool p2)), (4, (pt g10547)), (7, (iv x10676)), (8, (pt g10685)), (69, (.bool (decide ((rdD p0 x10676 z_Tile).N < 0))))] [.cell ⟨g10685, 0, none⟩ (iv ((rdD p0 x10676 z_Tile).N))] (fun fb => by kernel_rfl) rfl ⟨hS10690.cell 0 rfl 0 rfl, trivial⟩ ?_
    refine WL.cutV (T := Bool) 8 (fun t => [(73, (.bool t)), (0, (.slice A_p0 p0.length c_p0)), (2, (.bool p2)), (4, (pt g10547)), (7, (iv x10676)), (8, (pt g10685))]) (fun t => ((decide ((rdD p0 x10676 z_Tile).N < 0)) || (decide ((rdD p0 x10676 z_Tile).E < 0))) = t) (fun K => ?_) ?_
    ·
     rcases Bool.eq_false_or_eq_true (decide ((rdD p0 x10676 z_Tile).N < 0)) with h10691 | h10691
     ·
      refine WL.setB 69 h10691 rfl ?_
      refine seg 8 [] [0, 2, 4, 7, 8, 73] [(0, (.slice A_p0 p0.length c_p0)), (2, (.bool p2)), (4, (pt g10547)), (7, (iv x10676)), (8, (pt g10685)), (73, (.bool true))] [] (fun fb => by kernel_rfl) rfl trivial ?_
      exact WL.toV K true [73, 0, 2, 4, 7, 8] rfl (by first | (rw [h10691]; done) | (rw [h10691]; rfl))
     refine WL.setB 69 h10691 rfl ?_
     refine seg 8 [.v (iv ((rdD p0 x10676 z_Tile).E))] [0, 2, 4, 7, 8, 73] [(0, (.slice A_p0 p0.length c_p0)), (2, (.bool p2)), (4, (pt g10547)), (7, (iv x10676)), (8, (pt g10685)), (73, (.bool (decide ((rdD p0 x10676 z_Tile).E < 0))))] [.cell ⟨g10685, 1, none⟩ (iv ((rdD p0 x10676 z_Tile).E))] (fun fb => by kernel_rfl) rfl ⟨hS10690.cell 0 rfl 1 rfl, trivial⟩ ?_
     exact WL.toV K (decide ((rdD p0 x10676 z_Tile).E < 0)) [73, 0, 2, 4, 7, 8] rfl (by first | (rw [h10691]; done) | (rw [h10691]; rfl))
    rintro b10692 rfl
    refine seg 9 [] [0, 2, 4, 7, 8, 74] [(0, (.slice A_p0 p0.length c_p0)), (2, (.bool p2)), (4, (pt g10547)), (7, (iv x10676)), (8, (pt g10685)), (74, (.bool ((decide ((rdD p0 x10676 z_Tile).N < 0)) || (decide ((rdD p0 x10676 z_Tile).E < 0)))))] [] (fun fb => by kernel_rfl) rfl trivial ?_
    refine WL.cutV (T := Bool) 13 (fun t => [(78, (.bool t)), (0, (.slice A_p0 p0.length c_p0)), (2, (.bool p2)), (4, (pt g10547)), (7, (iv x10676)), (8, (pt g10685))]) (fun t => (((decide ((rdD p0 x10676 z_Tile).N < 0)) || (decide ((rdD p0 x10676 z_Tile).E < 0))) || (decide ((rdD p0 x10676 z_Tile).S < 0))) = t) (fun K => ?_) ?_
    ·
     rcases Bool.eq_false_or_eq_true ((decide ((rdD p0 x10676 z_Tile).N < 0)) || (decide ((rdD p0 x10676 z_Tile).E < 0))) with h10693 | h10693
     ·
      refine WL.setB 74 h10693 rfl ?_
      refine seg 13 [] [0, 2, 4, 7, 8, 78] [(0, (.slice A_p0 p0.length c_p0)), (2, (.bool p2)), (4, (pt g10547)), (7, (iv x10676)), (8, (pt g10685)), (78, (.bool true))] [] (fun fb => by kernel_rfl) rfl trivial ?_
      exact WL.toV K true [78, 0, 2, 4, 7, 8] rfl (by first | (rw [h10693]; done) | (rw [h10693]; rfl))
     refine WL.setB 74 h10693 rfl ?_
     refine seg 13 [.v (iv ((rdD p0 x10676 z_Tile).S))] [0, 2, 4, 7, 8, 78] [(0, (.slice A_p0 p0.length c_p0)), (2, (.bool p2)), (4, (pt g10547)), (7, (iv x10676)), (8, (pt g10685)), (78, (.bool (decide ((rdD p0 x10676 z_Tile).S < 0))))] [.cell ⟨g10685, 2, none⟩ (iv ((rdD p0 x10676 z_Tile).S))] (fun fb => by kernel_rfl) rfl ⟨hS10690.cell 0 rfl 2 rfl, trivial⟩ ?_
     exact WL.toV K (decide ((rdD p0 x10676 z_Tile).S < 0)) [78, 0, 2, 4, 7, 8] rfl (by first | (rw [h10693]; done) | (rw [h10693]; rfl))
    rintro b10694 rfl
    refine seg 14 [] [0, 2, 4, 7, 8, 79] [(0, (.slice A_p0 p0.length c_p0)), (2, (.bool p2)), (4, (pt g10547)), (7, (iv x10676)), (8, (pt g10685)), (79, (.bool (((decide ((rdD p0 x10676 z_Tile).N < 0)) || (decide ((rdD p0 x10676 z_Tile).E < 0))) || (decide ((rdD p0 x10676 z_Tile).S < 0)))))] [] (fun fb => by kernel_rfl) rfl trivial ?_
    refine WL.cutV (T := Bool) 18 (fun t => [(83, (.bool t)), (0, (.slice A_p0 p0.length c_p0)), (2, (.bool p2)), (4, (pt g10547)), (7, (iv x10676)), (8, (pt g10685))]) (fun t => ((((decide ((rdD p0 x10676 z_Tile).N < 0)) || (decide ((rdD p0 x10676 z_Tile).E < 0))) || (decide ((rdD p0 x10676 z_Tile).S < 0))) || (decide ((rdD p0 x10676 z_Tile).W < 0))) = t) (fun K => ?_) ?_
    ·
     rcases Bool.eq_false_or_eq_true (((decide ((rdD p0 x10676 z_Tile).N < 0)) || (decide ((rdD p0 x10676 z_Tile).E < 0))) || (decide ((rdD p0 x10676 z_Tile).S < 0))) with h10695 | h10695
     ·
      refine WL.setB 79 h10695 rfl ?_
      refine seg 18 [] [0, 2, 4, 7, 8, 83] [(0, (.slice A_p0 p0.length c_p0)), (2, (.bool p2)), (4, (pt g10547)), (7, (iv x10676)), (8, (pt g10685)), (83, (.bool true))] [] (fun fb => by kernel_rfl) rfl trivial ?_
      exact WL.toV K true [83, 0, 2, 4, 7, 8] rfl (by first | (rw [h10695]; done) | (rw [h10695]; rfl))
     refine WL.setB 79 h10695 rfl ?_
     refine seg 18 [.v (iv ((rdD p0 x10676 z_Tile).W))] [0, 2, 4, 7, 8, 83] [(0, (.slice A_p0 p0.length c_p0)), (2, (.bool p2)), (4, (pt g10547)), (7, (iv x10676)), (8, (pt g10685)), (83, (.bool (decide ((rdD p0 x10676 z_Tile).W < 0))))] [.cell ⟨g10685, 3, none⟩ (iv ((rdD p0 x10676 z_Tile).W))] (fun fb => by kernel_rfl) rfl ⟨hS10690.cell 0 rfl 3 rfl, trivial⟩ ?_
     exact WL.toV K (decide ((rdD p0 x10676 z_Tile).W < 0)) [83, 0, 2, 4, 7, 8] rfl (by first | (rw [h10695]; done) | (rw [h10695]; rfl))
    rintro b10696 rfl
    refine seg 19 [] [0, 2, 4, 7, 8, 84] [(0, (.slice A_p0 p0.length c_p0)), (2, (.bool p2)), (4, (pt g10547)), (7, (iv x10676)), (8, (pt g10685)), (84, (.bool ((((decide ((rdD p0 x10676 z_Tile).N < 0)) || (decide ((rdD p0 x10676 z_Tile).E < 0))) || (decide ((rdD p0 x10676 z_Tile).S < 0))) || (decide ((rdD p0 x10676 z_Tile).W < 0)))))] [] (fun fb => by kernel_rfl) rfl trivial ?_
    refine WL.cutV (T := Bool) 23 (fun t => [(88, (.bool t)), (0, (.slice A_p0 p0.length c_p0)), (2, (.bool p2)), (4, (pt g10547)), (7, (iv x10676)), (8, (pt g10685))]) (fun t => (((((decide ((rdD p0 x10676 z_Tile).N < 0)) || (decide ((rdD p0 x10676 z_Tile).E < 0))) || (decide ((rdD p0 x10676 z_Tile).S < 0))) || (decide ((rdD p0 x10676 z_Tile).W < 0))) || (decide ((rdD p0 x10676 z_Tile).N ≥ 1000))) = t) (fun K => ?_) ?_
    ·
     rcases Bool.eq_false_or_eq_true ((((decide ((rdD p0 x10676 z_Tile).N < 0)) || (decide ((rdD p0 x10676 z_Tile).E < 0))) || (decide ((rdD p0 x10676 z_Tile).S < 0))) || (decide ((rdD p0 x10676 z_Tile).W < 0))) with h10697 | h10697
     ·
      refine WL.setB 84 h10697 rfl ?_
      refine seg 23 [] [0, 2, 4, 7, 8, 88] [(0, (.slice A_p0 p0.length c_p0)), (2, (.bool p2)), (4, (pt g10547)), (7, (iv x10676)), (8, (pt g10685)), (88, (.bool true))] [] (fun fb => by kernel_rfl) rfl trivial ?_
      exact WL.toV K true [88, 0, 2, 4, 7, 8] rfl (by first | (rw [h10697]; done) | (rw [h10697]; rfl))
     refine WL.setB 84 h10697 rfl ?_
     refine seg 23 [.v (iv ((rdD p0 x10676 z_Tile).N))] [0, 2, 4, 7, 8, 88] [(0, (.slice A_p0 p0.length c_p0)), (2, (.bool p2)), (4, (pt g10547)), (7, (iv x10676)), (8, (pt g10685)), (88, (.bool (decide ((rdD p0 x10676 z_Tile).N ≥ 1000))))] [.cell ⟨g10685, 0, none⟩ (iv ((rdD p0 x10676 z_Tile).N))] (fun fb => by kernel_rfl) rfl ⟨hS10690.cell 0 rfl 0 rfl, trivial⟩ ?_
     exact WL.toV K (decide ((rdD p0 x10676 z_Tile).N ≥ 1000)) [88, 0, 2, 4, 7, 8] rfl (by first | (rw [h10697]; done) | (rw [h10697]; rfl))
    rintro b10698 rfl
    refine seg 24 [] [0, 2, 4, 7, 8, 89] [(0, (.slice A_p0 p0.length c_p0)), (2, (.bool p2)), (4, (pt g10547)), (7, (iv x10676)), (8, (pt g10685)), (89, (.bool (((((decide ((rdD p0 x10676 z_Tile).N < 0)) || (decide ((rdD p0 x10676 z_Tile).E < 0))) || (decide ((rdD p0 x10676 z_Tile).S < 0))) || (decide ((rdD p0 x10676 z_Tile).W < 0))) || (decide ((rdD p0 x10676 z_Tile).N ≥ 1000)))))] [] (fun fb => by kernel_rfl) rfl trivial ?_
    refine WL.cutV (T := Bool) 28 (fun t => [(93, (.bool t)), (0, (.slice A_p0 p0.length c_p0)), (2, (.bool p2)), (4, (pt g10547)), (7, (iv x10676)), (8, (pt g10685))]) (fun t => ((((((decide ((rdD p0 x10676 z_Tile).N < 0)) || (decide ((rdD p0 x10676 z_Tile).E < 0))) || (decide ((rdD p0 x10676 z_Tile).S < 0))) || (decide ((rdD p0 x10676 z_Tile).W < 0))) || (decide ((rdD p0 x10676 z_Tile).N ≥ 1000))) || (decide ((rdD p0 x10676 z_Tile).E ≥ 1000))) = t) (fun K => ?_) ?_
    ·
     rcases Bool.eq_false_or_eq_true (((((decide ((rdD p0 x10676 z_Tile).N < 0)) || (decide ((rdD p0 x10676 z_Tile).E < 0))) || (decide ((rdD p0 x10676 z_Tile).S < 0))) || (decide ((rdD p0 x10676 z_Tile).W < 0))) || (decide ((rdD p0 x10676 z_Tile).N ≥ 1000))) with h10699 | h10699
     ·
      refine WL.setB 89 h10699 rfl ?_
      refine seg 28 [] [0, 2, 4, 7, 8, 93] [(0, (.slice A_p0 p0.length c_p0)), (2, (.bool p2)), (4, (pt g10547)), (7, (iv x10676)), (8, (pt g10685)), (93, (.bool true))] [] (fun fb => by kernel_rfl) rfl trivial ?_
      exact WL.toV K true [93, 0, 2, 4, 7, 8] rfl (by first | (rw [h10699]; done) | (rw [h10699]; rfl))
     refine WL.setB 89 h10699 rfl ?_
     refine seg 28 [.v (iv ((rdD p0 x10676 z_Tile).E))] [0, 2, 4, 7, 8, 93] [(0, (.slice A_p0 p0.length c_p0)), (2, (.bool p2)), (4, (pt g10547)), (7, (iv x10676)), (8, (pt g10685)), (93, (.bool (decide ((rdD p0 x10676 z_Tile).E ≥ 1000))))] [.cell ⟨g10685, 1, none⟩ (iv ((rdD p0 x10676 z_Tile).E))] (fun fb => by kernel_rfl) rfl ⟨hS10690.cell 0 rfl 1 rfl, trivial⟩ ?_
     exact WL.toV K (decide ((rdD p0 x10676 z_Tile).E ≥ 1000)) [93, 0, 2, 4, 7, 8] rfl (by first | (rw [h10699]; done) | (rw [h10699]; rfl))
    rintro b10700 rfl
    refine seg 29 [] [0, 2, 4, 7, 8, 94] [(0, (.slice A_p0 p0.length c_p0)), (2, (.bool p2)), (4, (pt g10547)), (7, (iv x10676)), (8, (pt g10685)), (94, (.bool ((((((decide ((rdD p0 x10676 z_Tile).N < 0)) || (decide ((rdD p0 x10676 z_Tile).E < 0))) || (decide ((rdD p0 x10676 z_Tile).S < 0))) || (decide ((rdD p0 x10676 z_Tile).W < 0))) || (decide ((rdD p0 x10676 z_Tile).N ≥ 1000))) || (decide ((rdD p0 x10676 z_Tile).E ≥ 1000)))))] [] (fun fb => by kernel_rfl) rfl trivial ?_
    refine WL.cutV (T := Bool) 33 (fun t => [(98, (.bool t)), (0, (.slice A_p0 p0.length c_p0)), (2, (.bool p2)), (4, (pt g10547)), (7, (iv x10676)), (8, (pt g10685))]) (fun t => (((((((decide ((rdD p0 x10676 z_Tile).N < 0)) || (decide ((rdD p0 x10676 z_Tile).E < 0))) || (decide ((rdD p0 x10676 z_Tile).S < 0))) || (decide ((rdD p0 x10676 z_Tile).W < 0))) || (decide ((rdD p0 x10676 z_Tile).N ≥ 1000))) || (decide ((rdD p0 x10676 z_Tile).E ≥ 1000))) || (decide ((rdD p0 x10676 z_Tile).S ≥ 1000))) = t) (fun K => ?_) ?_
    ·
     rcases Bool.eq_false_or_eq_true ((((((decide ((rdD p0 x10676 z_Tile).N < 0)) || (decide ((rdD p0 x10676 z_Tile).E < 0))) || (decide ((rdD p0 x10676 z_Tile).S < 0))) || (decide ((rdD p0 x10676 z_Tile).W < 0))) || (decide ((rdD p0 x10676 z_Tile).N ≥ 1000))) || (decide ((rdD p0 x10676 z_Tile).E ≥ 1000))) with h10701 | h10701
     ·
      refine WL.setB 94 h10701 rfl ?_
      refine seg 33 [] [0, 2, 4, 7, 8, 98] [(0, (.slice A_p0 p0.length c_p0)), (2, (.bool p2)), (4, (pt g10547)), (7, (iv x10676)), (8, (pt g10685)), (98, (.bool true))] [] (fun fb => by kernel_rfl) rfl trivial ?_
      exact WL.toV K true [98, 0, 2, 4, 7, 8] rfl (by first | (rw [h10701]; done) | (rw [h10701]; rfl))
     refine WL.setB 94 h10701 rfl ?_
     refine seg 33 [.v (iv ((rdD p0 x10676 z_Tile).S))] [0, 2, 4, 7, 8, 98] [(0, (.slice A_p0 p0.length c_p0)), (2, (.bool p2)), (4, (pt g10547)), (7, (iv x10676)), (8, (pt g10685)), (98, (.bool (decide ((rdD p0 x10676 z_Tile).S ≥ 1000))))] [.cell ⟨g10685, 2, none⟩ (iv ((rdD p0 x10676 z_Tile).S))] (fun fb => by kernel_rfl) rfl ⟨hS10690.cell 0 rfl 2 rfl, trivial⟩ ?_
     exact WL.toV K (decide ((rdD p0 x10676 z_Tile).S ≥ 1000)) [98, 0, 2, 4, 7, 8] rfl (by first | (rw [h10701]; done) | (rw [h10701]; rfl))
    rintro b10702 rfl
    refine seg 34 [] [0, 2, 4, 7, 8, 99] [(0, (.slice A_p0 p0.length c_p0)), (2, (.bool p2)), (4, (pt g10547)), (7, (iv x10676)), (8, (pt g10685)), (99, (.bool (((((((decide ((rdD p0 x10676 z_Tile).N < 0)) || (decide ((rdD p0 x10676 z_Tile).E < 0))) || (decide ((rdD p0 x10676 z_Tile).S < 0))) || (decide ((rdD p0 x10676 z_Tile).W < 0))) || (decide ((rdD p0 x10676 z_Tile).N ≥ 1000))) || (decide ((rdD p0 x10676 z_Tile).E ≥ 1000))) || (decide ((rdD p0 x10676 z_Tile).S ≥ 1000)))))] [] (fun fb => by kernel_rfl) rfl trivial ?_
    refine WL.cutV (T := Bool) 38 (fun t => [(103, (.bool t)), (0, (.slice A_p0 p0.length c_p0)), (2, (.bool p2)), (4, (pt g10547)), (7, (iv x10676)), (8, (pt g10685))]) (fun t => ((((((((decide ((rdD p0 x10676 z_Tile).N < 0)) || (decide ((rdD p0 x10676 z_Tile).E < 0))) || (decide ((rdD p0 x10676 z_Tile).S < 0))) || (decide ((rdD p0 x10676 z_Tile).W < 0))) || (decide ((rdD p0 x10676 z_Tile).N ≥ 1000))) || (decide ((rdD p0 x10676 z_Tile).E ≥ 1000))) || (decide ((rdD p0 x10676 z_Tile).S ≥ 1000))) || (decide ((rdD p0 x10676 z_Tile).W ≥ 1000))) = t) (fun K => ?_) ?_
    ·
     rcases Bool.eq_false_or_eq_true (((((((decide ((rdD p0 x10676 z_Tile).N < 0)) || (decide ((rdD p0 x10676 z_Tile).E < 0))) || (decide ((rdD p0 x10676 z_Tile).S < 0))) || (decide ((rdD p0 x10676 z_Tile).W < 0))) || (decide ((rdD p0 x10676 z_Tile).N ≥ 1000))) || (decide ((rdD p0 x10676 z_Tile).E ≥ 1000))) || (decide ((rdD p0 x10676 z_Tile).S ≥ 1000))) with h10703 | h10703
     ·
      refine WL.setB 99 h10703 rfl ?_
      refine seg 38 [] [0, 2, 4, 7, 8, 103] [(0, (.slice A_p0 p0.length c_p0)), (2, (.bool p2)), (4, (pt g10547)), (7, (iv x10676)), (8, (pt g10685)), (103, (.bool true))] [] (fun fb => by kernel_rfl) rfl trivial ?_
      exact WL.toV K true [103, 0, 2, 4, 7, 8] rfl (by first | (rw [h10703]; done) | (rw [h10703]; rfl))
     refine WL.setB 99 h10703 rfl ?_
     refine seg 38 [.v (iv ((rdD p0 x10676 z_Tile).W))] [0, 2, 4, 7, 8, 103] [(0, (.slice A_p0 p0.length c_p0)), (2, (.bool p2)), (4, (pt g10547)), (7, (iv x10676)), (8, (pt g10685)), (103, (.bool (decide ((rdD p0 x10676 z_Tile).W ≥ 1000))))] [.cell ⟨g10685, 3, none⟩ (iv ((rdD p0 x10676 z_Tile).W))] (fun fb => by kernel_rfl) rfl ⟨hS10690.cell 0 rfl 3 rfl, trivial⟩ ?_
     exact WL.toV K (decide ((rdD p0 x10676 z_Tile).W ≥ 1000)) [103, 0, 2, 4, 7, 8] rfl (by first | (rw [h10703]; done) | (rw [h10703]; rfl))
    rintro b10704 rfl
    refine WL.done rfl ?_
    refine WX.next ?_
    rcases br_some hl10682 with ⟨h10705, hl10682⟩ | ⟨h10705, hl10682⟩
    ·refine WC.condT2 (fun fb => by kernel_rfl) h10705 ?_
     refine WC.seq ?_
     refine WC.region ?_
     refine seg 1 [] [6] [(6, (.bool false))] [] (fun fb => by kernel_rfl) rfl trivial ?_
     refine WL.done rfl ?_
     refine WX.next ?_
     refine WC.ret ?_
     injection hl10682 with hl10682
     subst hl10682
     injection hf with hf
     subst hf
     exact WX.thenR (WX.blockR (WX.thenR (WX.thenR (WX.blockR (WX.thenR (WX.ret_ [] (.bool false) [] (fun fb => by kernel_rfl) trivial ⟨_, rfl, rfl, hS10690.keep⟩))))))
    refine WC.condF2 (fun fb => by kernel_rfl) h10705 ?_
    refine WC.skip ?_
    refine WX.next ?_
    refine WC.seq ?_
    refine WC.region ?_
    refine seg 1 [] [0, 2, 4, 7, 8, 9] [(0, (.slice A_p0 p0.length c_p0)), (2, (.bool p2)), (4, (pt g10547)), (7, (iv x10676)), (8, (pt g10685)), (9, (iv 0))] [] (fun fb => by kernel_rfl) rfl trivial ?_
    refine WL.done rfl ?_
    refine WX.next ?_
    obtain ⟨x10722, hx10723, hl10682⟩ := bind_some hl10682
    refine WC.cutN (T := Unit) (fun t => [(0, (.slice A_p0 p0.length c_p0)), (2, (.bool p2)), (4, (pt g10547)), (7, (iv x10676))]) (fun t w1 => St NoS w w1 [rowR enc_Tile A_p0 c_p0 p0, rowR encInt A_p1_Cells c_p1_Cells p1.Cells] [blk g10547 (.cells #[(iv p1.Width), (iv p1.Height), (.slice A_p1_Cells p1.Cells.length c_p1_Cells)] 38 (0, 0))] ∧ x10722 = .inr t) (fun Kx10722 => ?_) ?_
    ·
     refine WC.block ?_
     refine WC.loop (T := Int) (fun t => [(0, (.slice A_p0 p0.length c_p0)), (2, (.bool p2)), (4, (pt g10547)), (7, (iv x10676)), (8, (pt g10685)), (9, (iv t))]) (fun n t w1 => St NoS w w1 [rowR enc_Tile A_p0 c_p0 p0, rowR encInt A_p1_Cells c_p1_Cells p1.Cells] [blk g10547 (.cells #[(iv p1.Width), (iv p1.Height), (.slice A_p1_Cells p1.Cells.length c_p1_Cells)] 38 (0, 0)), blk g10685 (.cells #[(iv ((rdD p0 x10676 z_Tile).N)), (iv ((rdD p0 x10676 z_Tile).E)), (iv ((rdD p0 x10676 z_Tile).S)), (iv ((rdD p0 x10676 z_Tile).W))] 24 (0, 0))] ∧ top_of.l1 n t p0 x10676 = some x10722) k10679 0 [0, 2, 4, 7, 8, 9] rfl ⟨(hS10690.subR [0, 1]).sub [1, 0] (by decide), hx10723⟩ ?_
     rintro k10724 x10721 w10725 ⟨hS10726, hl10727⟩
     cases k10724 with
     | zero => rw [top_of.l1] at hl10727; cases hl10727
     | succ k10724 =>
      rw [top_of.l1] at hl10727
      refine WC.seq ?_
      refine WC.seq ?_
      refine WC.region ?_
      refine seg 3 [] [0, 2, 4, 7, 8, 9, 106] [(0, (.slice A_p0 p0.length c_p0)), (2, (.bool p2)), (4, (pt g10547)), (7, (iv x10676)), (8, (pt g10685)), (9, (iv x10721)), (106, (.bool (decide (x10721 < x10676))))] [] (fun fb => by kernel_rfl) rfl trivial ?_
      refine WL.done rfl ?_
      refine WX.next ?_
      rcases br_some hl10727 with ⟨h10728, hl10727⟩ | ⟨h10728, hl10727⟩
      ·refine WC.condT2 (fun fb => by kernel_rfl) h10728 ?_
       refine WC.skip ?_
       refine WX.next ?_
       refine WC.seq ?_
       refine WC.block ?_
       refine WC.seq ?_
       obtain ⟨h10733, hl10727⟩ := as_some hl10727
       refine WC.regionD ([(3, ((adr A_p0).add ((x10721).toNat * 4)), (iv ((rdD p0 x10721 z_Tile).N))), (3, (((adr A_p0).add ((x10721).toNat * 4)).add 1), (iv ((rdD p0 x10721 z_Tile).E))), (3, (((adr A_p0).add ((x10721).toNat * 4)).add 2), (iv ((rdD p0 x10721 z_Tile).S))), (3, (((adr A_p0).add ((x10721).toNat * 4)).add 3), (iv ((rdD p0 x10721 z_Tile).W))), (4, ⟨g10685, 0, none⟩, (iv ((rdD p0 x10676 z_Tile).N))), (4, ⟨g10685, 1, none⟩, (iv ((rdD p0 x10676 z_Tile).E))), (4, ⟨g10685, 2, none⟩, (iv ((rdD p0 x10676 z_Tile).S))), (4, ⟨g10685, 3, none⟩, (iv ((rdD p0 x10676 z_Tile).W)))], [0, 1, 2, 3, 4, 5], [[], [], [0, 1], [0, 1, 2], [], [0, 1, 2, 3, 4]]) [[0, 1, 2, 3, 4, 5]] (by kernel_rfl) (by kernel_rfl) (NoPanic.seq (NoPanic.block (NoPanic.seq (NoPanic.seq (NoPanic.block (NoPanic.block (NoPanic.seq (NoPanic.seq (NoPanic.block (NoPanic.seq (NoPanic.body))))))))))) ?_
       have hS10731 := hS10726.drew
       revert hS10731
       generalize World.drew w10725 = w10730
       intro hS10731
       refine ⟨⟨rowR.cell (hS10731.rd 0).1 z_Tile h10733.1 h10733.2 0 rfl, rowR.cell (hS10731.rd 0).1 z_Tile h10733.1 h10733.2 1 rfl, rowR.cell (hS10731.rd 0).1 z_Tile h10733.1 h10733.2 2 rfl, rowR.cell (hS10731.rd 0).1 z_Tile h10733.1 h10733.2 3 rfl, hS10731.cell 1 rfl 0 rfl, hS10731.cell 1 rfl 1 rfl, hS10731.cell 1 rfl 2 rfl, hS10731.cell 1 rfl 3 rfl, trivial⟩, forallC ?_ (forallN)⟩
       refine segF 6 [.v (iv ((rdD p0 x10721 z_Tile).N)), .v (iv ((rdD p0 x10721 z_Tile).E)), .v (iv ((rdD p0 x10721 z_Tile).S)), .v (iv ((rdD p0 x10721 z_Tile).W)), .v (iv ((rdD p0 x10676 z_Tile).N)), .v (iv ((rdD p0 x10676 z_Tile).E)), .v (iv ((rdD p0 x10676 z_Tile).S)), .v (iv ((rdD p0 x10676 z_Tile).W))] [0, 2, 4, 7, 8, 9, 114] [(0, (.slice A_p0 p0.length c_p0)), (2, (.bool p2)), (4, (pt g10547)), (7, (iv x10676)), (8, (pt g10685)), (9, (iv x10721)), (114, (.bool (((rdD p0 x10721 z_Tile).N) == ((rdD p0 x10676 z_Tile).N) && (((rdD p0 x10721 z_Tile).E) == ((rdD p0 x10676 z_Tile).E) && (((rdD p0 x10721 z_Tile).S) == ((rdD p0 x10676 z_Tile).S) && (((rdD p0 x10721 z_Tile).W) == ((rdD p0 x10676 z_Tile).W)))))))] [.idx A_p0 x10721 p0.length] [0, 1, 2, 3, 4, 5, 6, 7] [(3, ((adr A_p0).add ((x10721).toNat * 4)), (iv ((rdD p0 x10721 z_Tile).N))), (3, (((adr A_p0).add ((x10721).toNat * 4)).add 1), (iv ((rdD p0 x10721 z_Tile).E))), (3, (((adr A_p0).add ((x10721).toNat * 4)).add 2), (iv ((rdD p0 x10721 z_Tile).S))), (3, (((adr A_p0).add ((x10721).toNat * 4)).add 3), (iv ((rdD p0 x10721 z_Tile).W))), (4, ⟨g10685, 0, none⟩, (iv ((rdD p0 x10676 z_Tile).N))), (4, ⟨g10685, 1, none⟩, (iv ((rdD p0 x10676 z_Tile).E))), (4, ⟨g10685, 2, none⟩, (iv ((rdD p0 x10676 z_Tile).S))), (4, ⟨g10685, 3, none⟩, (iv ((rdD p0 x10676 z_Tile).W)))] (fun fb => by kernel_rfl) rfl ⟨rowR.adr (hS10731.rd 0).1 h10733.1 h10733.2, trivial⟩ rfl ?_
       refine WL.done rfl ?_
       refine WX.next ?_
       rcases br_some hl10727 with ⟨h10734, hl10727⟩ | ⟨h10734, hl10727⟩
       ·refine WC.condT2 (fun fb => by kernel_rfl) h10734 ?_
        refine WC.seq ?_
        refine WC.region ?_
        refine seg 1 [] [6] [(6, (.bool false))] [] (fun fb => by kernel_rfl) rfl trivial ?_
        refine WL.done rfl ?_
        refine WX.next ?_
        refine WC.ret ?_
        injection hl10727 with hl10727
        subst hl10727
        injection hl10682 with hl10682
        subst hl10682
        injection hf with hf
        subst hf
        exact WX.blockR (WX.thenR (WX.thenR (WX.blockR (WX.blockR (WX.thenR (WX.thenR (WX.blockR (WX.thenR (WX.ret_ [] (.bool false) [] (fun fb => by kernel_rfl) trivial ⟨_, rfl, rfl, hS10731.keep⟩)))))))))
       refine WC.condF2 (fun fb => by kernel_rfl) h10734 ?_
       refine WC.skip ?_
       refine WX.blockN (WX.next ?_)
       refine WC.region ?_
       refine seg 3 [] [0, 2, 4, 7, 8, 9] [(0, (.slice A_p0 p0.length c_p0)), (2, (.bool p2)), (4, (pt g10547)), (7, (iv x10676)), (8, (pt g10685)), (9, (iv (w64 (x10721 + 1))))] [] (fun fb => by kernel_rfl) rfl trivial ?_
       refine WL.done rfl ?_
       exact WX.again k10724 (Nat.lt_succ_self _) (w64 (x10721 + 1)) [0, 2, 4, 7, 8, 9] rfl ⟨(hS10731.subR [0, 1]).sub [0, 1] (by decide), hl10727⟩
      refine WC.condF2 (fun fb => by kernel_rfl) h10728 ?_
      refine WC.exit ?_
      injection hl10727 with hl10727
      exact WX.thenX (WX.thenX (WX.blockHere (WX.to Kx10722 () [0, 2, 4, 7] rfl ⟨(hS10726.subR [0, 1]).sub [0] (by decide), hl10727.symm⟩)))
    rintro y10738 w10735 ⟨hS10736, hq10737⟩
    subst hq10737
    have hl10682 := sum_inr hl10682
    refine WX.blockN (WX.next ?_)
    refine WC.region ?_
    refine seg 3 [] [0, 2, 4, 7] [(0, (.slice A_p0 p0.length c_p0)), (2, (.bool p2)), (4, (pt g10547)), (7, (iv (w64 (x10676 + 1))))] [] (fun fb => by kernel_rfl) rfl trivial ?_
    refine WL.done rfl ?_
    exact WX.again k10679 (Nat.lt_succ_self _) (w64 (x10676 + 1)) [0, 2, 4, 7] rfl ⟨(hS10736.subR [0, 1]).sub [0] (by decide), hl10682⟩
   refine WC.condF2 (fun fb => by kernel_rfl) h10683 ?_
   refine WC.exit ?_
   injection hl10682 with hl10682
   exact WX.thenX (WX.thenX (WX.blockHere (WX.to Kx10677 () [0, 2, 4] rfl ⟨(hS10681.subR [0, 1]).sub [0] (by decide), hl10682.symm⟩)))
 rintro y10743 w10740 ⟨hS10741, hq10742⟩
 subst hq10742
 have hf := sum_inr hf
 refine WX.next ?_
 refine WC.seq ?_
 refine WC.seq ?_
 refine WC.region ?_
 refine seg 1 [] [0, 2, 4, 10] [(0, (.slice A_p0 p0.length c_p0)), (2, (.bool p2)), (4, (pt g10547)), (10, (iv 0))] [] (fun fb => by kernel_rfl) rfl trivial ?_
 refine WL.done rfl ?_
 refine WX.next ?_
 obtain ⟨x10757, hx10758, hf⟩ := bind_some hf
 refine WC.cutN (T := Unit) (fun t => [(0, (.slice A_p0 p0.length c_p0)), (2, (.bool p2)), (4, (pt g10547))]) (fun t w1 => St NoS w w1 [rowR enc_Tile A_p0 c_p0 p0, rowR encInt A_p1_Cells c_p1_Cells p1.Cells] [blk g10547 (.cells #[(iv p1.Width), (iv p1.Height), (.slice A_p1_Cells p1.Cells.length c_p1_Cells)] 38 (0, 0))] ∧ x10757 = .inr t) (fun Kx10757 => ?_) ?_
 ·
  refine WC.block ?_
  refine WC.loop (T := Int) (fun t => [(0, (.slice A_p0 p0.length c_p0)), (2, (.bool p2)), (4, (pt g10547)), (10, (iv t))]) (fun n t w1 => St NoS w w1 [rowR enc_Tile A_p0 c_p0 p0, rowR encInt A_p1_Cells c_p1_Cells p1.Cells] [blk g10547 (.cells #[(iv p1.Width), (iv p1.Height), (.slice A_p1_Cells p1.Cells.length c_p1_Cells)] 38 (0, 0))] ∧ top_of.l2 n t p0 p1 = some x10757) k 0 [0, 2, 4, 10] rfl ⟨(hS10741.subR [0, 1]).sub [0] (by decide), hx10758⟩ ?_
  rintro k10759 x10756 w10760 ⟨hS10761, hl10762⟩
  cases k10759 with
  | zero => rw [top_of.l2] at hl10762; cases hl10762
  | succ k10759 =>
   rw [top_of.l2] at hl10762
   refine WC.seq ?_
   refine WC.seq ?_
   refine WC.region ?_
   refine seg 5 [.v (.slice A_p1_Cells p1.Cells.length c_p1_Cells)] [0, 2, 4, 10, 119] [(0, (.slice A_p0 p0.length c_p0)), (2, (.bool p2)), (4, (pt g10547)), (10, (iv x10756)), (119, (.bool (decide (x10756 < (p1.Cells.length : Int)))))] [.cell ⟨g10547, 2, none⟩ (.slice A_p1_Cells p1.Cells.length c_p1_Cells)] (fun fb => by kernel_rfl) rfl ⟨hS10761.cell 0 rfl 2 rfl, trivial⟩ ?_
   refine WL.done rfl ?_
   refine WX.next ?_
   rcases br_some hl10762 with ⟨h10763, hl10762⟩ | ⟨h10763, hl10762⟩
   ·refine WC.condT2 (fun fb => by kernel_rfl) h10763 ?_
    refine WC.skip ?_
    refine WX.next ?_
    refine WC.seq ?_
    refine WC.block ?_
    refine WC.seq ?_
    refine WC.region ?_
    refine seg 3 [.v (.slice A_p1_Cells p1.Cells.length c_p1_Cells)] [0, 2, 4, 10, 123, 124] [(0, (.slice A_p0 p0.length c_p0)), (2, (.bool p2)), (4, (pt g10547)), (10, (iv x10756)), (123, (.slice A_p1_Cells p1.Cells.length c_p1_Cells)), (124, (iv x10756))] [.cell ⟨g10547, 2, none⟩ (.slice A_p1_Cells p1.Cells.length c_p1_Cells)] (fun fb => by kernel_rfl) rfl ⟨hS10761.cell 0 rfl 2 rfl, trivial⟩ ?_
    obtain ⟨h10764, hl10762⟩ := as_some hl10762
    refine seg 7 [.v (iv (rdD p1.Cells x10756 0))] [0, 2, 4, 10, 128] [(0, (.slice A_p0 p0.length c_p0)), (2, (.bool p2)), (4, (pt g10547)), (10, (iv x10756)), (128, (.bool (decide ((rdD p1.Cells x10756 0) < 0))))] [.idx A_p1_Cells x10756 p1.Cells.length, .cell ((adr A_p1_Cells).add ((x10756).toNat * 1)) (iv (rdD p1.Cells x10756 0))] (fun fb => by kernel_rfl) rfl ⟨rowR.adr (hS10761.rd 1).1 h10764.1 h10764.2, rowR.cell (hS10761.rd 1).1 0 h10764.1 h10764.2 0 rfl, trivial⟩ ?_
    refine WL.cutV (T := Bool) 16 (fun t => [(137, (.bool t)), (0, (.slice A_p0 p0.length c_p0)), (2, (.bool p2)), (4, (pt g10547)), (10, (iv x10756))]) (fun t => ((decide ((rdD p1.Cells x10756 0) < 0)) || (decide ((rdD p1.Cells x10756 0) ≥ (p0.length : Int)))) = t) (fun K => ?_) ?_
    ·
     rcases Bool.eq_false_or_eq_true (decide ((rdD p1.Cells x10756 0) < 0)) with h10765 | h10765
     ·
      refine WL.setB 128 h10765 rfl ?_
      refine seg 16 [] [0, 2, 4, 10, 137] [(0, (.slice A_p0 p0.length c_p0)), (2, (.bool p2)), (4, (pt g10547)), (10, (iv x10756)), (137, (.bool true))] [] (fun fb => by kernel_rfl) rfl trivial ?_
      exact WL.toV K true [137, 0, 2, 4, 10] rfl (by first | (rw [h10765]; done) | (rw [h10765]; rfl))
     refine WL.setB 128 h10765 rfl ?_
     refine seg 16 [.v (.slice A_p1_Cells p1.Cells.length c_p1_Cells), .v (iv (rdD p1.Cells x10756 0))] [0, 2, 4, 10, 137] [(0, (.slice A_p0 p0.length c_p0)), (2, (.bool p2)), (4, (pt g10547)), (10, (iv x10756)), (137, (.bool (decide ((rdD p1.Cells x10756 0) ≥ (p0.length : Int)))))] [.cell ⟨g10547, 2, none⟩ (.slice A_p1_Cells p1.Cells.length c_p1_Cells), .idx A_p1_Cells x10756 p1.Cells.length, .cell ((adr A_p1_Cells).add ((x10756).toNat * 1)) (iv (rdD p1.Cells x10756 0))] (fun fb => by kernel_rfl) rfl ⟨hS10761.cell 0 rfl 2 rfl, rowR.adr (hS10761.rd 1).1 h10764.1 h10764.2, rowR.cell (hS10761.rd 1).1 0 h10764.1 h10764.2 0 rfl, trivial⟩ ?_
     exact WL.toV K (decide ((rdD p1.Cells x10756 0) ≥ (p0.length : Int))) [137, 0, 2, 4, 10] rfl (by first | (rw [h10765]; done) | (rw [h10765]; rfl))
    rintro b10766 rfl
    refine WL.done rfl ?_
    refine WX.next ?_
    rcases br_some hl10762 with ⟨h10767, hl10762⟩ | ⟨h10767, hl10762⟩
    ·refine WC.condT2 (fun fb => by kernel_rfl) h10767 ?_
     refine WC.seq ?_
     refine WC.region ?_
     refine seg 1 [] [6] [(6, (.bool false))] [] (fun fb => by kernel_rfl) rfl trivial ?_
     refine WL.done rfl ?_
     refine WX.next ?_
     refine WC.ret ?_
     injection hl10762 with hl10762
     subst hl10762
     injection hf with hf
     subst hf
     exact WX.blockR (WX.thenR (WX.thenR (WX.blockR (WX.thenR (WX.ret_ [] (.bool false) [] (fun fb => by kernel_rfl) trivial ⟨_, rfl, rfl, hS10761.keep⟩)))))
    refine WC.condF2 (fun fb => by kernel_rfl) h10767 ?_
    refine WC.skip ?_
    refine WX.blockN (WX.next ?_)
    refine WC.region ?_
    refine seg 3 [] [0, 2, 4, 10] [(0, (.slice A_p0 p0.length c_p0)), (2, (.bool p2)), (4, (pt g10547)), (10, (iv (w64 (x10756 + 1))))] [] (fun fb => by kernel_rfl) rfl trivial ?_
    refine WL.done rfl ?_
    exact WX.again k10759 (Nat.lt_succ_self _) (w64 (x10756 + 1)) [0, 2, 4, 10] rfl ⟨(hS10761.subR [0, 1]).sub [0] (by decide), hl10762⟩
   refine WC.condF2 (fun fb => by kernel_rfl) h10763 ?_
   refine WC.exit ?_
   injection hl10762 with hl10762
   exact WX.thenX (WX.thenX (WX.blockHere (WX.to Kx10757 () [0, 2, 4] rfl ⟨(hS10761.subR [0, 1]).sub [0] (by decide), hl10762.symm⟩)))
 rintro y10771 w10768 ⟨hS10769, hq10770⟩
 subst hq10770
 have hf := sum_inr hf
 refine WX.next ?_
 refine WC.seq ?_
 refine WC.seq ?_
 refine WC.region ?_
 refine seg 1 [] [0, 2, 4, 11] [(0, (.slice A_p0 p0.length c_p0)), (2, (.bool p2)), (4, (pt g10547)), (11, (iv 0))] [] (fun fb => by kernel_rfl) rfl trivial ?_
 refine WL.done rfl ?_
 refine WX.next ?_
 obtain ⟨x11577, hx11578, hf⟩ := bind_some hf
 refine WC.cutN (T := Unit) (fun t => []) (fun t w1 => St NoS w w1 [rowR enc_Tile A_p0 c_p0 p0, rowR encInt A_p1_Cells c_p1_Cells p1.Cells] [] ∧ x11577 = .inr t) (fun Kx11577 => ?_) ?_
 ·
  refine WC.block ?_
  refine WC.loop (T := Int) (fun t => [(0, (.slice A_p0 p0.length c_p0)), (2, (.bool p2)), (4, (pt g10547)), (11, (iv t))]) (fun n t w1 => St NoS w w1 [rowR enc_Tile A_p0 c_p0 p0, rowR encInt A_p1_Cells c_p1_Cells p1.Cells] [blk g10547 (.cells #[(iv p1.Width), (iv p1.Height), (.slice A_p1_Cells p1.Cells.length c_p1_Cells)] 38 (0, 0))] ∧ top_of.l3 n t p0 p1 p2 = some x11577) k 0 [0, 2, 4, 11] rfl ⟨(hS10769.subR [0, 1]).sub [0] (by decide), hx11578⟩ ?_
  rintro k11579 x11576 w11580 ⟨hS11581, hl11582⟩
  cases k11579 with
  | zero => rw [top_of.l3] at hl11582; cases hl11582
  | succ k11579 =>
   rw [top_of.l3] at hl11582
   refine WC.seq ?_
   refine WC.seq ?_
   refine WC.region ?_
   refine seg 4 [.v (iv p1.Height)] [0, 2, 4, 11, 141] [(0, (.slice A_p0 p0.length c_p0)), (2, (.bool p2)), (4, (pt g10547)), (11, (iv x11576)), (141, (.bool (decide (x11576 < p1.Height))))] [.cell ⟨g10547, 1, none⟩ (iv p1.Height)] (fun fb => by kernel_rfl) rfl ⟨hS11581.cell 0 rfl 1 rfl, trivial⟩ ?_
   refine WL.done rfl ?_
   refine WX.next ?_
   rcases br_some hl11582 with ⟨h11583, hl11582⟩ | ⟨h11583, hl11582⟩
   ·refine WC.condT2 (fun fb => by kernel_rfl) h11583 ?_
    refine WC.skip ?_
    refine WX.next ?_
    refine WC.seq ?_
    refine WC.block ?_
    refine WC.seq ?_
    refine WC.region ?_
    refine seg 1 [] [0, 2, 4, 11, 12] [(0, (.slice A_p0 p0.length c_p0)), (2, (.bool p2)), (4, (pt g10547)), (11, (iv x11576)), (12, (iv 0))] [] (fun fb => by kernel_rfl) rfl trivial ?_
    refine WL.done rfl ?_
    refine WX.next ?_
    obtain ⟨x11844, hx11845, hl11582⟩ := bind_some hl11582
    refine WC.cutN (T := Unit) (fun t => [(0, (.slice A_p0 p0.length c_p0)), (2, (.bool p2)), (4, (pt g10547)), (11, (iv x11576))]) (fun t w1 => St NoS w w1 [rowR enc_Tile A_p0 c_p0 p0, rowR encInt A_p1_Cells c_p1_Cells p1.Cells] [blk g10547 (.cells #[(iv p1.Width), (iv p1.Height), (.slice A_p1_Cells p1.Cells.length c_p1_Cells)] 38 (0, 0))] ∧ x11844 = .inr t) (fun Kx11844 => ?_) ?_
    ·
     refine WC.block ?_
     refine WC.loop (T := Int) (fun t => [(0, (.slice A_p0 p0.length c_p0)), (2, (.bool p2)), (4, (pt g10547)), (11, (iv x11576)), (12, (iv t))]) (fun n t w1 => St NoS w w1 [rowR enc_Tile A_p0 c_p0 p0, rowR encInt A_p1_Cells c_p1_Cells p1.Cells] [blk g10547 (.cells #[(iv p1.Width), (iv p1.Height), (.slice A_p1_Cells p1.Cells.length c_p1_Cells)] 38 (0, 0))] ∧ top_of.l4 n t p0 p1 p2 x11576 = some x11844) k11579 0 [0, 2, 4, 11, 12] rfl ⟨(hS11581.subR [0, 1]).sub [0] (by decide), hx11845⟩ ?_
     rintro k11846 x11843 w11847 ⟨hS11848, hl11849⟩
     cases k11846 with
     | zero => rw [top_of.l4] at hl11849; cases hl11849
     | succ k11846 =>
      rw [top_of.l4] at hl11849
      refine WC.seq ?_
      refine WC.seq ?_
      refine WC.region ?_
      refine seg 4 [.v (iv p1.Width)] [0, 2, 4, 11, 12, 147] [(0, (.slice A_p0 p0.length c_p0)), (2, (.bool p2)), (4, (pt g10547)), (11, (iv x11576)), (12, (iv x11843)), (147, (.bool (decide (x11843 < p1.Width))))] [.cell ⟨g10547, 0, none⟩ (iv p1.Width)] (fun fb => by kernel_rfl) rfl ⟨hS11848.cell 0 rfl 0 rfl, trivial⟩ ?_
      refine WL.done rfl ?_
      refine WX.next ?_
      rcases br_some hl11849 with ⟨h11850, hl11849⟩ | ⟨h11850, hl11849⟩
      ·refine WC.condT2 (fun fb => by kernel_rfl) h11850 ?_
       refine WC.skip ?_
       refine WX.next ?_
       refine WC.seq ?_
       refine WC.block ?_
       refine WC.seq ?_
       refine WC.region ?_
       refine seg 9 [.v (.slice A_p1_Cells p1.Cells.length c_p1_Cells), .v (iv p1.Width)] [0, 2, 4, 11, 12, 150, 152, 158] [(0, (.slice A_p0 p0.length c_p0)), (2, (.bool p2)), (4, (pt g10547)), (11, (iv x11576)), (12, (iv x11843)), (150, (.slice A_p0 p0.length c_p0)), (152, (.slice A_p1_Cells p1.Cells.length c_p1_Cells)), (158, (iv (w64 ((w64 (x11576 * p1.Width)) + x11843))))] [.cell ⟨g10547, 2, none⟩ (.slice A_p1_Cells p1.Cells.length c_p1_Cells), .cell ⟨g10547, 0, none⟩ (iv p1.Width)] (fun fb => by kernel_rfl) rfl ⟨hS11848.cell 0 rfl 2 rfl, hS11848.cell 0 rfl 0 rfl, trivial⟩ ?_
       obtain ⟨h11851, hl11849⟩ := as_some hl11849
       refine seg 11 [.v (iv (rdD p1.Cells (w64 ((w64 (x11576 * p1.Width)) + x11843)) 0))] [0, 2, 4, 11, 12, 150, 160] [(0, (.slice A_p0 p0.length c_p0)), (2, (.bool p2)), (4, (pt g10547)), (11, (iv x11576)), (12, (iv x11843)), (150, (.slice A_p0 p0.length c_p0)), (160, (iv (rdD p1.Cells (w64 ((w64 (x11576 * p1.Width)) + x11843)) 0)))] [.idx A_p1_Cells (w64 ((w64 (x11576 * p1.Width)) + x11843)) p1.Cells.length, .cell ((adr A_p1_Cells).add ((w64 ((w64 (x11576 * p1.Width)) + x11843)).toNat * 1)) (iv (rdD p1.Cells (w64 ((w64 (x11576 * p1.Width)) + x11843)) 0))] (fun fb => by kernel_rfl) rfl ⟨rowR.adr (hS11848.rd 1).1 h11851.1 h11851.2, rowR.cell (hS11848.rd 1).1 0 h11851.1 h11851.2 0 rfl, trivial⟩ ?_
       obtain ⟨h11852, hl11849⟩ := as_some hl11849
       refine seg 13 [.v (iv ((rdD p0 (rdD p1.Cells (w64 ((w64 (x11576 * p1.Width)) + x11843)) 0) z_Tile).N)), .v (iv ((rdD p0 (rdD p1.Cells (w64 ((w64 (x11576 * p1.Width)) + x11843)) 0) z_Tile).E)), .v (iv ((rdD p0 (rdD p1.Cells (w64 ((w64 (x11576 * p1.Width)) + x11843)) 0) z_Tile).S)), .v (iv ((rdD p0 (rdD p1.Cells (w64 ((w64 (x11576 * p1.Width)) + x11843)) 0) z_Tile).W))] [0, 2, 4, 11, 12, 162] [(0, (.slice A_p0 p0.length c_p0)), (2, (.bool p2)), (4, (pt g10547)), (11, (iv x11576)), (12, (iv x11843)), (162, (.agg #[(iv ((rdD p0 (rdD p1.Cells (w64 ((w64 (x11576 * p1.Width)) + x11843)) 0) z_Tile).N)), (iv ((rdD p0 (rdD p1.Cells (w64 ((w64 (x11576 * p1.Width)) + x11843)) 0) z_Tile).E)), (iv ((rdD p0 (rdD p1.Cells (w64 ((w64 (x11576 * p1.Width)) + x11843)) 0) z_Tile).S)), (iv ((rdD p0 (rdD p1.Cells (w64 ((w64 (x11576 * p1.Width)) + x11843)) 0) z_Tile).W))]))] [.idx A_p0 (rdD p1.Cells (w64 ((w64 (x11576 * p1.Width)) + x11843)) 0) p0.length, .cell ((adr A_p0).add (((rdD p1.Cells (w64 ((w64 (x11576 * p1.Width)) + x11843)) 0)).toNat * 4)) (iv ((rdD p0 (rdD p1.Cells (w64 ((w64 (x11576 * p1.Width)) + x11843)) 0) z_Tile).N)), .cell (((adr A_p0).add (((rdD p1.Cells (w64 ((w64 (x11576 * p1.Width)) + x11843)) 0)).toNat * 4)).add 1) (iv ((rdD p0 (rdD p1.Cells (w64 ((w64 (x11576 * p1.Width)) + x11843)) 0) z_Tile).E)), .cell (((adr A_p0).add (((rdD p1.Cells (w64 ((w64 (x11576 * p1.Width)) + x11843)) 0)).toNat * 4)).add 2) (iv ((rdD p0 (rdD p1.Cells (w64 ((w64 (x11576 * p1.Width)) + x11843)) 0) z_Tile).S)), .cell (((adr A_p0).add (((rdD p1.Cells (w64 ((w64 (x11576 * p1.Width)) + x11843)) 0)).toNat * 4)).add 3) (iv ((rdD p0 (rdD p1.Cells (w64 ((w64 (x11576 * p1.Width)) + x11843)) 0) z_Tile).W))] (fun fb => by kernel_rfl) rfl ⟨rowR.adr (hS11848.rd 0).1 h11852.1 h11852.2, rowR.cell (hS11848.rd 0).1 z_Tile h11852.1 h11852.2 0 rfl, rowR.cell (hS11848.rd 0).1 z_Tile h11852.1 h11852.2 1 rfl, rowR.cell (hS11848.rd 0).1 z_Tile h11852.1 h11852.2 2 rfl, rowR.cell (hS11848.rd 0).1 z_Tile h11852.1 h11852.2 3 rfl, trivial⟩ ?_
       refine WL.new hS11848 13 [] (fun g => (.pointer (some ⟨g, 0, none⟩))) (.cells #[(iv 0), (iv 0), (iv 0), (iv 0)] 24 (0, 0)) [] (fun fb g => by kernel_rfl) trivial (fun g11853 w11854 hS11855 => ?_)
       refine ⟨trivial, ?_⟩
       refine WL.store hS11855 0 rfl [(0, (iv ((rdD p0 (rdD p1.Cells (w64 ((w64 (x11576 * p1.Width)) + x11843)) 0) z_Tile).N))), (1, (iv ((rdD p0 (rdD p1.Cells (w64 ((w64 (x11576 * p1.Width)) + x11843)) 0) z_Tile).E))), (2, (iv ((rdD p0 (rdD p1.Cells (w64 ((w64 (x11576 * p1.Width)) + x11843)) 0) z_Tile).S))), (3, (iv ((rdD p0 (rdD p1.Cells (w64 ((w64 (x11576 * p1.Width)) + x11843)) 0) z_Tile).W)))] #[(iv ((rdD p0 (rdD p1.Cells (w64 ((w64 (x11576 * p1.Width)) + x11843)) 0) z_Tile).N)), (iv ((rdD p0 (rdD p1.Cells (w64 ((w64 (x11576 * p1.Width)) + x11843)) 0) z_Tile).E)), (iv ((rdD p0 (rdD p1.Cells (w64 ((w64 (x11576 * p1.Width)) + x11843)) 0) z_Tile).S)), (iv ((rdD p0 (rdD p1.Cells (w64 ((w64 (x11576 * p1.Width)) + x11843)) 0) z_Tile).W))] (fun fb => by kernel_rfl) (by kernel_rfl) rfl [1] (by decide) (by decide) (fun w11857 hS11858 => ?_)
       refine ⟨trivial, ?_⟩
       refine WL.done rfl ?_
       refine WX.next ?_
       refine WC.seq ?_
       refine WC.seq ?_
       obtain ⟨x11886, hx11887, hl11849⟩ := bind_some hl11849
       refine WC.cutN (T := Bool) (fun t => [(0, (.slice A_p0 p0.length c_p0)), (2, (.bool p2)), (4, (pt g10547)), (11, (iv x11576)), (12, (iv x11843)), (13, (pt g11853)), (193, (.bool t))]) (fun t w1 => St NoS w w1 [rowR enc_Tile A_p0 c_p0 p0, rowR encInt A_p1_Cells c_p1_Cells p1.Cells] [blk g10547 (.cells #[(iv p1.Width), (iv p1.Height), (.slice A_p1_Cells p1.Cells.length c_p1_Cells)] 38 (0, 0)), blk g11853 (.cells #[(iv ((rdD p0 (rdD p1.Cells (w64 ((w64 (x11576 * p1.Width)) + x11843)) 0) z_Tile).N)), (iv ((rdD p0 (rdD p1.Cells (w64 ((w64 (x11576 * p1.Width)) + x11843)) 0) z_Tile).E)), (iv ((rdD p0 (rdD p1.Cells (w64 ((w64 (x11576 * p1.Width)) + x11843)) 0) z_Tile).S)), (iv ((rdD p0 (rdD p1.Cells (w64 ((w64 (x11576 * p1.Width)) + x11843)) 0) z_Tile).W))] 24 (0, 0))] ∧ x11886 = t) (fun Kx11886 => ?_) ?_
       ·
        rcases br_some hx11887 with ⟨h11888, hx11887⟩ | ⟨h11888, hx11887⟩
        ·
         obtain ⟨h11897, hx11887⟩ := as_some hx11887
         obtain ⟨h11898, hx11887⟩ := as_some hx11887
         obtain ⟨h11899, hx11887⟩ := as_some hx11887
         refine WC.regionD ([(10, ⟨g11853, 1, none⟩, (iv ((rdD p0 (rdD p1.Cells (w64 ((w64 (x11576 * p1.Width)) + x11843)) 0) z_Tile).E))), (13, ⟨g10547, 2, none⟩, (.slice A_p1_Cells p1.Cells.length c_p1_Cells)), (16, ⟨g10547, 0, none⟩, (iv p1.Width)), (21, ⟨g10547, 0, none⟩, (iv p1.Width)), (25, ((adr A_p1_Cells).add ((w64 ((w64 (x11576 * p1.Width)) + (Int.tmod (w64 (x11843 + 1)) p1.Width))).toNat * 1)), (iv (rdD p1.Cells (w64 ((w64 (x11576 * p1.Width)) + (Int.tmod (w64 (x11843 + 1)) p1.Width))) 0))), (28, (((adr A_p0).add (((rdD p1.Cells (w64 ((w64 (x11576 * p1.Width)) + (Int.tmod (w64 (x11843 + 1)) p1.Width))) 0)).toNat * 4)).add 3), (iv ((rdD p0 (rdD p1.Cells (w64 ((w64 (x11576 * p1.Width)) + (Int.tmod (w64 (x11843 + 1)) p1.Width))) 0) z_Tile).W)))], [0, 1, 2, 3, 4, 5, 6, 7, 8, 9, 10, 11, 12, 13, 14, 15, 16, 17, 18, 19, 20, 21, 22, 23, 24, 25, 26, 27, 28, 29, 30], [[], [0], [0, 1], [0, 1, 2], [0, 1], [0, 1, 4], [0, 1, 2, 3, 4, 5], [0, 1, 2, 3, 4, 5, 6], [0, 1, 2, 3, 4, 5, 6, 7], [0, 1, 2, 3, 4, 5, 6, 7, 8], [0, 1, 2, 3, 4, 5, 6, 7, 8, 9], [0, 1, 2, 3, 4, 5, 6, 7, 8], [0, 1, 2, 3, 4, 5, 6, 7, 8], [0, 1, 2, 3, 4, 5, 6, 7, 8, 12], [0, 1, 2, 3, 4, 5, 6, 7, 8], [0, 1, 2, 3, 4, 5, 6, 7, 8], [0, 1, 2, 3, 4, 5, 6, 7, 8, 15], [0, 1, 2, 3, 4, 5, 6, 7, 8, 14, 15, 16], [0, 1, 2, 3, 4, 5, 6, 7, 8], [0, 1, 2, 3, 4, 5, 6, 7, 8, 18], [0, 1, 2, 3, 4, 5, 6, 7, 8], [0, 1, 2, 3, 4, 5, 6, 7, 8, 20], [0, 1, 2, 3, 4, 5, 6, 7, 8, 18, 19, 20, 21], [0, 1, 2, 3, 4, 5, 6, 7, 8, 14, 15, 16, 17, 18, 19, 20, 21, 22], [0, 1, 2, 3, 4, 5, 6, 7, 8, 12, 13, 14, 15, 16, 17, 18, 19, 20, 21, 22, 23], [0, 1, 2, 3, 4, 5, 6, 7, 8, 12, 13, 14, 15, 16, 17, 18, 19, 20, 21, 22, 23, 24], [0, 1, 2, 3, 4, 5, 6, 7, 8, 11, 12, 13, 14, 15, 16, 17, 18, 19, 20, 21, 22, 23, 24, 25], [0, 1, 2, 3, 4, 5, 6, 7, 8, 11, 12, 13, 14, 15, 16, 17, 18, 19, 20, 21, 22, 23, 24, 25, 26], [0, 1, 2, 3, 4, 5, 6, 7, 8, 11, 12, 13, 14, 15, 16, 17, 18, 19, 20, 21, 22, 23, 24, 25, 26, 27], [0, 1, 2, 3, 4, 5, 6, 7, 8, 9, 10, 11, 12, 13, 14, 15, 16, 17, 18, 19, 20, 21, 22, 23, 24, 25, 26, 27, 28], [0, 1, 2, 3, 4, 5, 6, 7, 8, 9, 10, 11, 12, 13, 14, 15, 16, 17, 18, 19, 20, 21, 22, 23, 24, 25, 26, 27, 28, 29]]) [[0, 1, 2, 3, 4, 5, 6, 7, 8, 9, 10, 11, 12, 13, 14, 15, 16, 17, 18, 19, 20, 21, 22, 23, 24, 25, 26, 27, 28, 29, 30]] (by kernel_rfl) (by kernel_rfl) (NoPanic.seq (NoPanic.seq (NoPanic.block (NoPanic.seq (NoPanic.seq (NoPanic.block (NoPanic.block (NoPanic.seq (NoPanic.seq (NoPanic.block (NoPanic.seq (NoPanic.body)))))))))))) ?_
         have hS11893 := hS11858.drew
         revert hS11893
         generalize World.drew w11857 = w11892
         intro hS11893
         refine ⟨⟨hS11893.cell 0 rfl 1 rfl, hS11893.cell 1 rfl 2 rfl, hS11893.cell 1 rfl 0 rfl, hS11893.cell 1 rfl 0 rfl, rowR.cell (hS11893.rd 1).1 0 h11898.1 h11898.2 0 rfl, rowR.cell (hS11893.rd 0).1 z_Tile h11899.1 h11899.2 3 rfl, trivial⟩, forallC ?_ (forallN)⟩
         refine seg 2 [] [0, 2, 4, 11, 12, 13, 164] [(0, (.slice A_p0 p0.length c_p0)), (2, (.bool p2)), (4, (pt g10547)), (11, (iv x11576)), (12, (iv x11843)), (13, (pt g11853)), (164, (.bool p2))] [] (fun fb => by kernel_rfl) rfl trivial ?_
         refine WL.setB 164 h11888 rfl ?_
         refine segF 31 [.v (iv ((rdD p0 (rdD p1.Cells (w64 ((w64 (x11576 * p1.Width)) + x11843)) 0) z_Tile).E)), .v (.slice A_p1_Cells p1.Cells.length c_p1_Cells), .v (iv p1.Width), .v (iv p1.Width), .v (iv (rdD p1.Cells (w64 ((w64 (x11576 * p1.Width)) + (Int.tmod (w64 (x11843 + 1)) p1.Width))) 0)), .v (iv ((rdD p0 (rdD p1.Cells (w64 ((w64 (x11576 * p1.Width)) + (Int.tmod (w64 (x11843 + 1)) p1.Width))) 0) z_Tile).W))] [0, 2, 4, 11, 12, 13, 193] [(0, (.slice A_p0 p0.length c_p0)), (2, (.bool p2)), (4, (pt g10547)), (11, (iv x11576)), (12, (iv x11843)), (13, (pt g11853)), (193, (.bool (((rdD p0 (rdD p1.Cells (w64 ((w64 (x11576 * p1.Width)) + x11843)) 0) z_Tile).E) != ((rdD p0 (rdD p1.Cells (w64 ((w64 (x11576 * p1.Width)) + (Int.tmod (w64 (x11843 + 1)) p1.Width))) 0) z_Tile).W))))] [.ne p1.Width, .idx A_p1_Cells (w64 ((w64 (x11576 * p1.Width)) + (Int.tmod (w64 (x11843 + 1)) p1.Width))) p1.Cells.length, .idx A_p0 (rdD p1.Cells (w64 ((w64 (x11576 * p1.Width)) + (Int.tmod (w64 (x11843 + 1)) p1.Width))) 0) p0.length] [0, 1, 2, 3, 4, 5] [(10, ⟨g11853, 1, none⟩, (iv ((rdD p0 (rdD p1.Cells (w64 ((w64 (x11576 * p1.Width)) + x11843)) 0) z_Tile).E))), (13, ⟨g10547, 2, none⟩, (.slice A_p1_Cells p1.Cells.length c_p1_Cells)), (16, ⟨g10547, 0, none⟩, (iv p1.Width)), (21, ⟨g10547, 0, none⟩, (iv p1.Width)), (25, ((adr A_p1_Cells).add ((w64 ((w64 (x11576 * p1.Width)) + (Int.tmod (w64 (x11843 + 1)) p1.Width))).toNat * 1)), (iv (rdD p1.Cells (w64 ((w64 (x11576 * p1.Width)) + (Int.tmod (w64 (x11843 + 1)) p1.Width))) 0))), (28, (((adr A_p0).add (((rdD p1.Cells (w64 ((w64 (x11576 * p1.Width)) + (Int.tmod (w64 (x11843 + 1)) p1.Width))) 0)).toNat * 4)).add 3), (iv ((rdD p0 (rdD p1.Cells (w64 ((w64 (x11576 * p1.Width)) + (Int.tmod (w64 (x11843 + 1)) p1.Width))) 0) z_Tile).W)))] (fun fb => by kernel_rfl) rfl ⟨h11897, rowR.adr (hS11893.rd 1).1 h11898.1 h11898.2, rowR.adr (hS11893.rd 0).1 h11899.1 h11899.2, trivial⟩ rfl ?_
         refine WL.done rfl ?_
         injection hx11887 with hx11887
         exact WX.to Kx11886 (((rdD p0 (rdD p1.Cells (w64 ((w64 (x11576 * p1.Width)) + x11843)) 0) z_Tile).E) != ((rdD p0 (rdD p1.Cells (w64 ((w64 (x11576 * p1.Width)) + (Int.tmod (w64 (x11843 + 1)) p1.Width))) 0) z_Tile).W)) [0, 2, 4, 11, 12, 13, 193] rfl ⟨(hS11893.subR [0, 1]).sub [1, 0] (by decide), hx11887.symm⟩
        rcases br_some hx11887 with ⟨h11900, hx11887⟩ | ⟨h11900, hx11887⟩
        ·
         obtain ⟨h11909, hx11887⟩ := as_some hx11887
         obtain ⟨h11910, hx11887⟩ := as_some hx11887
         obtain ⟨h11911, hx11887⟩ := as_some hx11887
         refine WC.regionD ([(5, ⟨g10547, 0, none⟩, (iv p1.Width)), (10, ⟨g11853, 1, none⟩, (iv ((rdD p0 (rdD p1.Cells (w64 ((w64 (x11576 * p1.Width)) + x11843)) 0) z_Tile).E))), (13, ⟨g10547, 2, none⟩, (.slice A_p1_Cells p1.Cells.length c_p1_Cells)), (16, ⟨g10547, 0, none⟩, (iv p1.Width)), (21, ⟨g10547, 0, none⟩, (iv p1.Width)), (25, ((adr A_p1_Cells).add ((w64 ((w64 (x11576 * p1.Width)) + (Int.tmod (w64 (x11843 + 1)) p1.Width))).toNat * 1)), (iv (rdD p1.Cells (w64 ((w64 (x11576 * p1.Width)) + (Int.tmod (w64 (x11843 + 1)) p1.Width))) 0))), (28, (((adr A_p0).add (((rdD p1.Cells (w64 ((w64 (x11576 * p1.Width)) + (Int.tmod (w64 (x11843 + 1)) p1.Width))) 0)).toNat * 4)).add 3), (iv ((rdD p0 (rdD p1.Cells (w64 ((w64 (x11576 * p1.Width)) + (Int.tmod (w64 (x11843 + 1)) p1.Width))) 0) z_Tile).W)))], [0, 1, 2, 3, 4, 5, 6, 7, 8, 9, 10, 11, 12, 13, 14, 15, 16, 17, 18, 19, 20, 21, 22, 23, 24, 25, 26, 27, 28, 29, 30], [[], [0], [0, 1], [0, 1, 2], [0, 1], [0, 1, 4], [0, 1, 2, 3, 4, 5], [0, 1, 2, 3, 4, 5, 6], [0, 1, 2, 3, 4, 5, 6, 7], [0, 1, 2, 3, 4, 5, 6, 7, 8], [0, 1, 2, 3, 4, 5, 6, 7, 8, 9], [0, 1, 2, 3, 4, 5, 6, 7, 8], [0, 1, 2, 3, 4, 5, 6, 7, 8], [0, 1, 2, 3, 4, 5, 6, 7, 8, 12], [0, 1, 2, 3, 4, 5, 6, 7, 8], [0, 1, 2, 3, 4, 5, 6, 7, 8], [0, 1, 2, 3, 4, 5, 6, 7, 8, 15], [0, 1, 2, 3, 4, 5, 6, 7, 8, 14, 15, 16], [0, 1, 2, 3, 4, 5, 6, 7, 8], [0, 1, 2, 3, 4, 5, 6, 7, 8, 18], [0, 1, 2, 3, 4, 5, 6, 7, 8], [0, 1, 2, 3, 4, 5, 6, 7, 8, 20], [0, 1, 2, 3, 4, 5, 6, 7, 8, 18, 19, 20, 21], [0, 1, 2, 3, 4, 5, 6, 7, 8, 14, 15, 16, 17, 18, 19, 20, 21, 22], [0, 1, 2, 3, 4, 5, 6, 7, 8, 12, 13, 14, 15, 16, 17, 18, 19, 20, 21, 22, 23], [0, 1, 2, 3, 4, 5, 6, 7, 8, 12, 13, 14, 15, 16, 17, 18, 19, 20, 21, 22, 23, 24], [0, 1, 2, 3, 4, 5, 6, 7, 8, 11, 12, 13, 14, 15, 16, 17, 18, 19, 20, 21, 22, 23, 24, 25], [0, 1, 2, 3, 4, 5, 6, 7, 8, 11, 12, 13, 14, 15, 16, 17, 18, 19, 20, 21, 22, 23, 24, 25, 26], [0, 1, 2, 3, 4, 5, 6, 7, 8, 11, 12, 13, 14, 15, 16, 17, 18, 19, 20, 21, 22, 23, 24, 25, 26, 27], [0, 1, 2, 3, 4, 5, 6, 7, 8, 9, 10, 11, 12, 13, 14, 15, 16, 17, 18, 19, 20, 21, 22, 23, 24, 25, 26, 27, 28], [0, 1, 2, 3, 4, 5, 6, 7, 8, 9, 10, 11, 12, 13, 14, 15, 16, 17, 18, 19, 20, 21, 22, 23, 24, 25, 26, 27, 28, 29]]) [[0, 1, 2, 3, 4, 5, 6, 7, 8, 9, 10, 11, 12, 13, 14, 15, 16, 17, 18, 19, 20, 21, 22, 23, 24, 25, 26, 27, 28, 29, 30]] (by kernel_rfl) (by kernel_rfl) (NoPanic.seq (NoPanic.seq (NoPanic.block (NoPanic.seq (NoPanic.seq (NoPanic.block (NoPanic.block (NoPanic.seq (NoPanic.seq (NoPanic.block (NoPanic.seq (NoPanic.body)))))))))))) ?_
         have hS11905 := hS11858.drew
         revert hS11905
         generalize World.drew w11857 = w11904
         intro hS11905
         refine ⟨⟨hS11905.cell 1 rfl 0 rfl, hS11905.cell 0 rfl 1 rfl, hS11905.cell 1 rfl 2 rfl, hS11905.cell 1 rfl 0 rfl, hS11905.cell 1 rfl 0 rfl, rowR.cell (hS11905.rd 1).1 0 h11910.1 h11910.2 0 rfl, rowR.cell (hS11905.rd 0).1 z_Tile h11911.1 h11911.2 3 rfl, trivial⟩, forallC ?_ (forallN)⟩
         refine seg 2 [] [0, 2, 4, 11, 12, 13, 164] [(0, (.slice A_p0 p0.length c_p0)), (2, (.bool p2)), (4, (pt g10547)), (11, (iv x11576)), (12, (iv x11843)), (13, (pt g11853)), (164, (.bool p2))] [] (fun fb => by kernel_rfl) rfl trivial ?_
         refine WL.setB 164 h11888 rfl ?_
         refine segF 9 [.v (iv p1.Width)] [0, 2, 4, 11, 12, 13, 171] [(0, (.slice A_p0 p0.length c_p0)), (2, (.bool p2)), (4, (pt g10547)), (11, (iv x11576)), (12, (iv x11843)), (13, (pt g11853)), (171, (.bool (decide (w64 (x11843 + 1) < p1.Width))))] [] [0] [(5, ⟨g10547, 0, none⟩, (iv p1.Width))] (fun fb => by kernel_rfl) rfl trivial rfl ?_
         refine WL.setB 171 h11900 rfl ?_
         refine segF 31 [.v (iv ((rdD p0 (rdD p1.Cells (w64 ((w64 (x11576 * p1.Width)) + x11843)) 0) z_Tile).E)), .v (.slice A_p1_Cells p1.Cells.length c_p1_Cells), .v (iv p1.Width), .v (iv p1.Width), .v (iv (rdD p1.Cells (w64 ((w64 (x11576 * p1.Width)) + (Int.tmod (w64 (x11843 + 1)) p1.Width))) 0)), .v (iv ((rdD p0 (rdD p1.Cells (w64 ((w64 (x11576 * p1.Width)) + (Int.tmod (w64 (x11843 + 1)) p1.Width))) 0) z_Tile).W))] [0, 2, 4, 11, 12, 13, 193] [(0, (.slice A_p0 p0.length c_p0)), (2, (.bool p2)), (4, (pt g10547)), (11, (iv x11576)), (12, (iv x11843)), (13, (pt g11853)), (193, (.bool (((rdD p0 (rdD p1.Cells (w64 ((w64 (x11576 * p1.Width)) + x11843)) 0) z_Tile).E) != ((rdD p0 (rdD p1.Cells (w64 ((w64 (x11576 * p1.Width)) + (Int.tmod (w64 (x11843 + 1)) p1.Width))) 0) z_Tile).W))))] [.ne p1.Width, .idx A_p1_Cells (w64 ((w64 (x11576 * p1.Width)) + (Int.tmod (w64 (x11843 + 1)) p1.Width))) p1.Cells.length, .idx A_p0 (rdD p1.Cells (w64 ((w64 (x11576 * p1.Width)) + (Int.tmod (w64 (x11843 + 1)) p1.Width))) 0) p0.length] [1, 2, 3, 4, 5, 6] [(10, ⟨g11853, 1, none⟩, (iv ((rdD p0 (rdD p1.Cells (w64 ((w64 (x11576 * p1.Width)) + x11843)) 0) z_Tile).E))), (13, ⟨g10547, 2, none⟩, (.slice A_p1_Cells p1.Cells.length c_p1_Cells)), (16, ⟨g10547, 0, none⟩, (iv p1.Width)), (21, ⟨g10547, 0, none⟩, (iv p1.Width)), (25, ((adr A_p1_Cells).add ((w64 ((w64 (x11576 * p1.Width)) + (Int.tmod (w64 (x11843 + 1)) p1.Width))).toNat * 1)), (iv (rdD p1.Cells (w64 ((w64 (x11576 * p1.Width)) + (Int.tmod (w64 (x11843 + 1)) p1.Width))) 0))), (28, (((adr A_p0).add (((rdD p1.Cells (w64 ((w64 (x11576 * p1.Width)) + (Int.tmod (w64 (x11843 + 1)) p1.Width))) 0)).toNat * 4)).add 3), (iv ((rdD p0 (rdD p1.Cells (w64 ((w64 (x11576 * p1.Width)) + (Int.tmod (w64 (x11843 + 1)) p1.Width))) 0) z_Tile).W)))] (fun fb => by kernel_rfl) rfl ⟨h11909, rowR.adr (hS11905.rd 1).1 h11910.1 h11910.2, rowR.adr (hS11905.rd 0).1 h11911.1 h11911.2, trivial⟩ rfl ?_
         refine WL.done rfl ?_
         injection hx11887 with hx11887
         exact WX.to Kx11886 (((rdD p0 (rdD p1.Cells (w64 ((w64 (x11576 * p1.Width)) + x11843)) 0) z_Tile).E) != ((rdD p0 (rdD p1.Cells (w64 ((w64 (x11576 * p1.Width)) + (Int.tmod (w64 (x11843 + 1)) p1.Width))) 0) z_Tile).W)) [0, 2, 4, 11, 12, 13, 193] rfl ⟨(hS11905.subR [0, 1]).sub [1, 0] (by decide), hx11887.symm⟩
        refine WC.regionD ([(5, ⟨g10547, 0, none⟩, (iv p1.Width))], [0, 1, 2, 3, 4, 5, 6, 7, 8, 9, 10, 11, 12, 13, 14, 15, 16, 17, 18, 19, 20, 21, 22, 23, 24, 25, 26, 27, 28, 29, 30], [[], [0], [0, 1], [0, 1, 2], [0, 1], [0, 1, 4], [0, 1, 2, 3, 4, 5], [0, 1, 2, 3, 4, 5, 6], [0, 1, 2, 3, 4, 5, 6, 7], [0, 1, 2, 3, 4, 5, 6, 7, 8], [0, 1, 2, 3, 4, 5, 6, 7, 8, 9], [0, 1, 2, 3, 4, 5, 6, 7, 8], [0, 1, 2, 3, 4, 5, 6, 7, 8], [0, 1, 2, 3, 4, 5, 6, 7, 8, 12], [0, 1, 2, 3, 4, 5, 6, 7, 8], [0, 1, 2, 3, 4, 5, 6, 7, 8], [0, 1, 2, 3, 4, 5, 6, 7, 8, 15], [0, 1, 2, 3, 4, 5, 6, 7, 8, 14, 15, 16], [0, 1, 2, 3, 4, 5, 6, 7, 8], [0, 1, 2, 3, 4, 5, 6, 7, 8, 18], [0, 1, 2, 3, 4, 5, 6, 7, 8], [0, 1, 2, 3, 4, 5, 6, 7, 8, 20], [0, 1, 2, 3, 4, 5, 6, 7, 8, 18, 19, 20, 21], [0, 1, 2, 3, 4, 5, 6, 7, 8, 14, 15, 16, 17, 18, 19, 20, 21, 22], [0, 1, 2, 3, 4, 5, 6, 7, 8, 12, 13, 14, 15, 16, 17, 18, 19, 20, 21, 22, 23], [0, 1, 2, 3, 4, 5, 6, 7, 8, 12, 13, 14, 15, 16, 17, 18, 19, 20, 21, 22, 23, 24], [0, 1, 2, 3, 4, 5, 6, 7, 8, 11, 12, 13, 14, 15, 16, 17, 18, 19, 20, 21, 22, 23, 24, 25], [0, 1, 2, 3, 4, 5, 6, 7, 8, 11, 12, 13, 14, 15, 16, 17, 18, 19, 20, 21, 22, 23, 24, 25, 26], [0, 1, 2, 3, 4, 5, 6, 7, 8, 11, 12, 13, 14, 15, 16, 17, 18, 19, 20, 21, 22, 23, 24, 25, 26, 27], [0, 1, 2, 3, 4, 5, 6, 7, 8, 9, 10, 11, 12, 13, 14, 15, 16, 17, 18, 19, 20, 21, 22, 23, 24, 25, 26, 27, 28], [0, 1, 2, 3, 4, 5, 6, 7, 8, 9, 10, 11, 12, 13, 14, 15, 16, 17, 18, 19, 20, 21, 22, 23, 24, 25, 26, 27, 28, 29]]) [[0, 1, 2, 3, 4, 5, 6, 7, 8, 9, 10, 11, 12, 13, 14, 15, 16, 17, 18, 19, 20, 21, 22, 23, 24, 25, 26, 27, 28, 29, 30]] (by kernel_rfl) (by kernel_rfl) (NoPanic.seq (NoPanic.seq (NoPanic.block (NoPanic.seq (NoPanic.seq (NoPanic.block (NoPanic.block (NoPanic.seq (NoPanic.seq (NoPanic.block (NoPanic.seq (NoPanic.body)))))))))))) ?_
        have hS11913 := hS11858.drew
        revert hS11913
        generalize World.drew w11857 = w11912
        intro hS11913
        refine ⟨⟨hS11913.cell 1 rfl 0 rfl, trivial⟩, forallC ?_ (forallN)⟩
        refine seg 2 [] [0, 2, 4, 11, 12, 13, 164] [(0, (.slice A_p0 p0.length c_p0)), (2, (.bool p2)), (4, (pt g10547)), (11, (iv x11576)), (12, (iv x11843)), (13, (pt g11853)), (164, (.bool p2))] [] (fun fb => by kernel_rfl) rfl trivial ?_
        refine WL.setB 164 h11888 rfl ?_
        refine segF 9 [.v (iv p1.Width)] [0, 2, 4, 11, 12, 13, 171] [(0, (.slice A_p0 p0.length c_p0)), (2, (.bool p2)), (4, (pt g10547)), (11, (iv x11576)), (12, (iv x11843)), (13, (pt g11853)), (171, (.bool (decide (w64 (x11843 + 1) < p1.Width))))] [] [0] [(5, ⟨g10547, 0, none⟩, (iv p1.Width))] (fun fb => by kernel_rfl) rfl trivial rfl ?_
        refine WL.setB 171 h11900 rfl ?_
        refine seg 31 [] [0, 2, 4, 11, 12, 13, 193] [(0, (.slice A_p0 p0.length c_p0)), (2, (.bool p2)), (4, (pt g10547)), (11, (iv x11576)), (12, (iv x11843)), (13, (pt g11853)), (193, (.bool false))] [] (fun fb => by kernel_rfl) rfl trivial ?_
        refine WL.done rfl ?_
        injection hx11887 with hx11887
        exact WX.to Kx11886 false [0, 2, 4, 11, 12, 13, 193] rfl ⟨(hS11913.subR [0, 1]).sub [1, 0] (by decide), hx11887.symm⟩
       rintro y11917 w11914 ⟨hS11915, hq11916⟩
       subst hq11916
       refine WX.next ?_
       rcases br_some hl11849 with ⟨h11918, hl11849⟩ | ⟨h11918, hl11849⟩
       ·refine WC.condT2 (fun fb => by kernel_rfl) h11918 ?_
        refine WC.seq ?_
        refine WC.region ?_
        refine seg 1 [] [6] [(6, (.bool false))] [] (fun fb => by kernel_rfl) rfl trivial ?_
        refine WL.done rfl ?_
        refine WX.next ?_
        refine WC.ret ?_
        injection hl11849 with hl11849
        subst hl11849
        injection hl11582 with hl11582
        subst hl11582
        injection hf with hf
        subst hf
        exact WX.thenR (WX.blockR (WX.thenR (WX.thenR (WX.blockR (WX.blockR (WX.thenR (WX.thenR (WX.blockR (WX.thenR (WX.ret_ [] (.bool false) [] (fun fb => by kernel_rfl) trivial ⟨_, rfl, rfl, hS11915.keep⟩))))))))))
       refine WC.condF2 (fun fb => by kernel_rfl) h11918 ?_
       refine WC.skip ?_
       refine WX.next ?_
       refine WC.seq ?_
       obtain ⟨x11946, hx11947, hl11849⟩ := bind_some hl11849
       refine WC.cutN (T := Bool) (fun t => [(0, (.slice A_p0 p0.length c_p0)), (2, (.bool p2)), (4, (pt g10547)), (11, (iv x11576)), (12, (iv x11843)), (224, (.bool t))]) (fun t w1 => St NoS w w1 [rowR enc_Tile A_p0 c_p0 p0, rowR encInt A_p1_Cells c_p1_Cells p1.Cells] [blk g10547 (.cells #[(iv p1.Width), (iv p1.Height), (.slice A_p1_Cells p1.Cells.length c_p1_Cells)] 38 (0, 0))] ∧ x11946 = t) (fun Kx11946 => ?_) ?_
       ·
        rcases br_some hx11947 with ⟨h11948, hx11947⟩ | ⟨h11948, hx11947⟩
        ·
         obtain ⟨h11957, hx11947⟩ := as_some hx11947
         obtain ⟨h11958, hx11947⟩ := as_some hx11947
         obtain ⟨h11959, hx11947⟩ := as_some hx11947
         refine WC.regionD ([(10, ⟨g11853, 0, none⟩, (iv ((rdD p0 (rdD p1.Cells (w64 ((w64 (x11576 * p1.Width)) + x11843)) 0) z_Tile).N))), (13, ⟨g10547, 2, none⟩, (.slice A_p1_Cells p1.Cells.length c_p1_Cells)), (17, ⟨g10547, 1, none⟩, (iv p1.Height)), (20, ⟨g10547, 0, none⟩, (iv p1.Width)), (25, ((adr A_p1_Cells).add ((w64 ((w64 ((Int.tmod (w64 (x11576 + 1)) p1.Height) * p1.Width)) + x11843)).toNat * 1)), (iv (rdD p1.Cells (w64 ((w64 ((Int.tmod (w64 (x11576 + 1)) p1.Height) * p1.Width)) + x11843)) 0))), (28, (((adr A_p0).add (((rdD p1.Cells (w64 ((w64 ((Int.tmod (w64 (x11576 + 1)) p1.Height) * p1.Width)) + x11843)) 0)).toNat * 4)).add 2), (iv ((rdD p0 (rdD p1.Cells (w64 ((w64 ((Int.tmod (w64 (x11576 + 1)) p1.Height) * p1.Width)) + x11843)) 0) z_Tile).S)))], [0, 1, 2, 3, 4, 5, 6, 7, 8, 9, 10, 11, 12, 13, 14, 15, 16, 17, 18, 19, 20, 21, 22, 23, 24, 25, 26, 27, 28, 29, 30], [[], [0], [0, 1], [0, 1, 2], [0, 1], [0, 1, 4], [0, 1, 2, 3, 4, 5], [0, 1, 2, 3, 4, 5, 6], [0, 1, 2, 3, 4, 5, 6, 7], [0, 1, 2, 3, 4, 5, 6, 7, 8], [0, 1, 2, 3, 4, 5, 6, 7, 8, 9], [0, 1, 2, 3, 4, 5, 6, 7, 8], [0, 1, 2, 3, 4, 5, 6, 7, 8], [0, 1, 2, 3, 4, 5, 6, 7, 8, 12], [0, 1, 2, 3, 4, 5, 6, 7, 8], [0, 1, 2, 3, 4, 5, 6, 7, 8, 14], [0, 1, 2, 3, 4, 5, 6, 7, 8], [0, 1, 2, 3, 4, 5, 6, 7, 8, 16], [0, 1, 2, 3, 4, 5, 6, 7, 8, 14, 15, 16, 17], [0, 1, 2, 3, 4, 5, 6, 7, 8], [0, 1, 2, 3, 4, 5, 6, 7, 8, 19], [0, 1, 2, 3, 4, 5, 6, 7, 8, 14, 15, 16, 17, 18, 19, 20], [0, 1, 2, 3, 4, 5, 6, 7, 8], [0, 1, 2, 3, 4, 5, 6, 7, 8, 14, 15, 16, 17, 18, 19, 20, 21, 22], [0, 1, 2, 3, 4, 5, 6, 7, 8, 12, 13, 14, 15, 16, 17, 18, 19, 20, 21, 22, 23], [0, 1, 2, 3, 4, 5, 6, 7, 8, 12, 13, 14, 15, 16, 17, 18, 19, 20, 21, 22, 23, 24], [0, 1, 2, 3, 4, 5, 6, 7, 8, 11, 12, 13, 14, 15, 16, 17, 18, 19, 20, 21, 22, 23, 24, 25], [0, 1, 2, 3, 4, 5, 6, 7, 8, 11, 12, 13, 14, 15, 16, 17, 18, 19, 20, 21, 22, 23, 24, 25, 26], [0, 1, 2, 3, 4, 5, 6, 7, 8, 11, 12, 13, 14, 15, 16, 17, 18, 19, 20, 21, 22, 23, 24, 25, 26, 27], [0, 1, 2, 3, 4, 5, 6, 7, 8, 9, 10, 11, 12, 13, 14, 15, 16, 17, 18, 19, 20, 21, 22, 23, 24, 25, 26, 27, 28], [0, 1, 2, 3, 4, 5, 6, 7, 8, 9, 10, 11, 12, 13, 14, 15, 16, 17, 18, 19, 20, 21, 22, 23, 24, 25, 26, 27, 28, 29]]) [[0, 1, 2, 3, 4, 5, 6, 7, 8, 9, 10, 11, 12, 13, 14, 15, 16, 17, 18, 19, 20, 21, 22, 23, 24, 25, 26, 27, 28, 29, 30]] (by kernel_rfl) (by kernel_rfl) (NoPanic.seq (NoPanic.block (NoPanic.seq (NoPanic.seq (NoPanic.block (NoPanic.block (NoPanic.seq (NoPanic.seq (NoPanic.block (NoPanic.seq (NoPanic.body))))))))))) ?_
         have hS11953 := hS11915.drew
         revert hS11953
         generalize World.drew w11914 = w11952
         intro hS11953
         refine ⟨⟨hS11953.cell 1 rfl 0 rfl, hS11953.cell 0 rfl 2 rfl, hS11953.cell 0 rfl 1 rfl, hS11953.cell 0 rfl 0 rfl, rowR.cell (hS11953.rd 1).1 0 h11958.1 h11958.2 0 rfl, rowR.cell (hS11953.rd 0).1 z_Tile h11959.1 h11959.2 2 rfl, trivial⟩, forallC ?_ (forallN)⟩
         refine seg 2 [] [0, 2, 4, 11, 12, 13, 195] [(0, (.slice A_p0 p0.length c_p0)), (2, (.bool p2)), (4, (pt g10547)), (11, (iv x11576)), (12, (iv x11843)), (13, (pt g11853)), (195, (.bool p2))] [] (fun fb => by kernel_rfl) rfl trivial ?_
         refine WL.setB 195 h11948 rfl ?_
         refine segF 31 [.v (iv ((rdD p0 (rdD p1.Cells (w64 ((w64 (x11576 * p1.Width)) + x11843)) 0) z_Tile).N)), .v (.slice A_p1_Cells p1.Cells.length c_p1_Cells), .v (iv p1.Height), .v (iv p1.Width), .v (iv (rdD p1.Cells (w64 ((w64 ((Int.tmod (w64 (x11576 + 1)) p1.Height) * p1.Width)) + x11843)) 0)), .v (iv ((rdD p0 (rdD p1.Cells (w64 ((w64 ((Int.tmod (w64 (x11576 + 1)) p1.Height) * p1.Width)) + x11843)) 0) z_Tile).S))] [0, 2, 4, 11, 12, 224] [(0, (.slice A_p0 p0.length c_p0)), (2, (.bool p2)), (4, (pt g10547)), (11, (iv x11576)), (12, (iv x11843)), (224, (.bool (((rdD p0 (rdD p1.Cells (w64 ((w64 (x11576 * p1.Width)) + x11843)) 0) z_Tile).N) != ((rdD p0 (rdD p1.Cells (w64 ((w64 ((Int.tmod (w64 (x11576 + 1)) p1.Height) * p1.Width)) + x11843)) 0) z_Tile).S))))] [.ne p1.Height, .idx A_p1_Cells (w64 ((w64 ((Int.tmod (w64 (x11576 + 1)) p1.Height) * p1.Width)) + x11843)) p1.Cells.length, .idx A_p0 (rdD p1.Cells (w64 ((w64 ((Int.tmod (w64 (x11576 + 1)) p1.Height) * p1.Width)) + x11843)) 0) p0.length] [0, 1, 2, 3, 4, 5] [(10, ⟨g11853, 0, none⟩, (iv ((rdD p0 (rdD p1.Cells (w64 ((w64 (x11576 * p1.Width)) + x11843)) 0) z_Tile).N))), (13, ⟨g10547, 2, none⟩, (.slice A_p1_Cells p1.Cells.length c_p1_Cells)), (17, ⟨g10547, 1, none⟩, (iv p1.Height)), (20, ⟨g10547, 0, none⟩, (iv p1.Width)), (25, ((adr A_p1_Cells).add ((w64 ((w64 ((Int.tmod (w64 (x11576 + 1)) p1.Height) * p1.Width)) + x11843)).toNat * 1)), (iv (rdD p1.Cells (w64 ((w64 ((Int.tmod (w64 (x11576 + 1)) p1.Height) * p1.Width)) + x11843)) 0))), (28, (((adr A_p0).add (((rdD p1.Cells (w64 ((w64 ((Int.tmod (w64 (x11576 + 1)) p1.Height) * p1.Width)) + x11843)) 0)).toNat * 4)).add 2), (iv ((rdD p0 (rdD p1.Cells (w64 ((w64 ((Int.tmod (w64 (x11576 + 1)) p1.Height) * p1.Width)) + x11843)) 0) z_Tile).S)))] (fun fb => by kernel_rfl) rfl ⟨h11957, rowR.adr (hS11953.rd 1).1 h11958.1 h11958.2, rowR.adr (hS11953.rd 0).1 h11959.1 h11959.2, trivial⟩ rfl ?_
         refine WL.done rfl ?_
         injection hx11947 with hx11947
         exact WX.to Kx11946 (((rdD p0 (rdD p1.Cells (w64 ((w64 (x11576 * p1.Width)) + x11843)) 0) z_Tile).N) != ((rdD p0 (rdD p1.Cells (w64 ((w64 ((Int.tmod (w64 (x11576 + 1)) p1.Height) * p1.Width)) + x11843)) 0) z_Tile).S)) [0, 2, 4, 11, 12, 224] rfl ⟨(hS11953.subR [0, 1]).sub [0] (by decide), hx11947.symm⟩
        rcases br_some hx11947 with ⟨h11960, hx11947⟩ | ⟨h11960, hx11947⟩
        ·
         obtain ⟨h11969, hx11947⟩ := as_some hx11947
         obtain ⟨h11970, hx11947⟩ := as_some hx11947
         obtain ⟨h11971, hx11947⟩ := as_some hx11947
         refine WC.regionD ([(5, ⟨g10547, 1, none⟩, (iv p1.Height)), (10, ⟨g11853, 0, none⟩, (iv ((rdD p0 (rdD p1.Cells (w64 ((w64 (x11576 * p1.Width)) + x11843)) 0) z_Tile).N))), (13, ⟨g10547, 2, none⟩, (.slice A_p1_Cells p1.Cells.length c_p1_Cells)), (17, ⟨g10547, 1, none⟩, (iv p1.Height)), (20, ⟨g10547, 0, none⟩, (iv p1.Width)), (25, ((adr A_p1_Cells).add ((w64 ((w64 ((Int.tmod (w64 (x11576 + 1)) p1.Height) * p1.Width)) + x11843)).toNat * 1)), (iv (rdD p1.Cells (w64 ((w64 ((Int.tmod (w64 (x11576 + 1)) p1.Height) * p1.Width)) + x11843)) 0))), (28, (((adr A_p0).add (((rdD p1.Cells (w64 ((w64 ((Int.tmod (w64 (x11576 + 1)) p1.Height) * p1.Width)) + x11843)) 0)).toNat * 4)).add 2), (iv ((rdD p0 (rdD p1.Cells (w64 ((w64 ((Int.tmod (w64 (x11576 + 1)) p1.Height) * p1.Width)) + x11843)) 0) z_Tile).S)))], [0, 1, 2, 3, 4, 5, 6, 7, 8, 9, 10, 11, 12, 13, 14, 15, 16, 17, 18, 19, 20, 21, 22, 23, 24, 25, 26, 27, 28, 29, 30], [[], [0], [0, 1], [0, 1, 2], [0, 1], [0, 1, 4], [0, 1, 2, 3, 4, 5], [0, 1, 2, 3, 4, 5, 6], [0, 1, 2, 3, 4, 5, 6, 7], [0, 1, 2, 3, 4, 5, 6, 7, 8], [0, 1, 2, 3, 4, 5, 6, 7, 8, 9], [0, 1, 2, 3, 4, 5, 6, 7, 8], [0, 1, 2, 3, 4, 5, 6, 7, 8], [0, 1, 2, 3, 4, 5, 6, 7, 8, 12], [0, 1, 2, 3, 4, 5, 6, 7, 8], [0, 1, 2, 3, 4, 5, 6, 7, 8, 14], [0, 1, 2, 3, 4, 5, 6, 7, 8], [0, 1, 2, 3, 4, 5, 6, 7, 8, 16], [0, 1, 2, 3, 4, 5, 6, 7, 8, 14, 15, 16, 17], [0, 1, 2, 3, 4, 5, 6, 7, 8], [0, 1, 2, 3, 4, 5, 6, 7, 8, 19], [0, 1, 2, 3, 4, 5, 6, 7, 8, 14, 15, 16, 17, 18, 19, 20], [0, 1, 2, 3, 4, 5, 6, 7, 8], [0, 1, 2, 3, 4, 5, 6, 7, 8, 14, 15, 16, 17, 18, 19, 20, 21, 22], [0, 1, 2, 3, 4, 5, 6, 7, 8, 12, 13, 14, 15, 16, 17, 18, 19, 20, 21, 22, 23], [0, 1, 2, 3, 4, 5, 6, 7, 8, 12, 13, 14, 15, 16, 17, 18, 19, 20, 21, 22, 23, 24], [0, 1, 2, 3, 4, 5, 6, 7, 8, 11, 12, 13, 14, 15, 16, 17, 18, 19, 20, 21, 22, 23, 24, 25], [0, 1, 2, 3, 4, 5, 6, 7, 8, 11, 12, 13, 14, 15, 16, 17, 18, 19, 20, 21, 22, 23, 24, 25, 26], [0, 1, 2, 3, 4, 5, 6, 7, 8, 11, 12, 13, 14, 15, 16, 17, 18, 19, 20, 21, 22, 23, 24, 25, 26, 27], [0, 1, 2, 3, 4, 5, 6, 7, 8, 9, 10, 11, 12, 13, 14, 15, 16, 17, 18, 19, 20, 21, 22, 23, 24, 25, 26, 27, 28], [0, 1, 2, 3, 4, 5, 6, 7, 8, 9, 10, 11, 12, 13, 14, 15, 16, 17, 18, 19, 20, 21, 22, 23, 24, 25, 26, 27, 28, 29]]) [[0, 1, 2, 3, 4, 5, 6, 7, 8, 9, 10, 11, 12, 13, 14, 15, 16, 17, 18, 19, 20, 21, 22, 23, 24, 25, 26, 27, 28, 29, 30]] (by kernel_rfl) (by kernel_rfl) (NoPanic.seq (NoPanic.block (NoPanic.seq (NoPanic.seq (NoPanic.block (NoPanic.block (NoPanic.seq (NoPanic.seq (NoPanic.block (NoPanic.seq (NoPanic.body))))))))))) ?_
         have hS11965 := hS11915.drew
         revert hS11965
         generalize World.drew w11914 = w11964
         intro hS11965
         refine ⟨⟨hS11965.cell 0 rfl 1 rfl, hS11965.cell 1 rfl 0 rfl, hS11965.cell 0 rfl 2 rfl, hS11965.cell 0 rfl 1 rfl, hS11965.cell 0 rfl 0 rfl, rowR.cell (hS11965.rd 1).1 0 h11970.1 h11970.2 0 rfl, rowR.cell (hS11965.rd 0).1 z_Tile h11971.1 h11971.2 2 rfl, trivial⟩, forallC ?_ (forallN)⟩
         refine seg 2 [] [0, 2, 4, 11, 12, 13, 195] [(0, (.slice A_p0 p0.length c_p0)), (2, (.bool p2)), (4, (pt g10547)), (11, (iv x11576)), (12, (iv x11843)), (13, (pt g11853)), (195, (.bool p2))] [] (fun fb => by kernel_rfl) rfl trivial ?_
         refine WL.setB 195 h11948 rfl ?_
         refine segF 9 [.v (iv p1.Height)] [0, 2, 4, 11, 12, 13, 202] [(0, (.slice A_p0 p0.length c_p0)), (2, (.bool p2)), (4, (pt g10547)), (11, (iv x11576)), (12, (iv x11843)), (13, (pt g11853)), (202, (.bool (decide (w64 (x11576 + 1) < p1.Height))))] [] [0] [(5, ⟨g10547, 1, none⟩, (iv p1.Height))] (fun fb => by kernel_rfl) rfl trivial rfl ?_
         refine WL.setB 202 h11960 rfl ?_
         refine segF 31 [.v (iv ((rdD p0 (rdD p1.Cells (w64 ((w64 (x11576 * p1.Width)) + x11843)) 0) z_Tile).N)), .v (.slice A_p1_Cells p1.Cells.length c_p1_Cells), .v (iv p1.Height), .v (iv p1.Width), .v (iv (rdD p1.Cells (w64 ((w64 ((Int.tmod (w64 (x11576 + 1)) p1.Height) * p1.Width)) + x11843)) 0)), .v (iv ((rdD p0 (rdD p1.Cells (w64 ((w64 ((Int.tmod (w64 (x11576 + 1)) p1.Height) * p1.Width)) + x11843)) 0) z_Tile).S))] [0, 2, 4, 11, 12, 224] [(0, (.slice A_p0 p0.length c_p0)), (2, (.bool p2)), (4, (pt g10547)), (11, (iv x11576)), (12, (iv x11843)), (224, (.bool (((rdD p0 (rdD p1.Cells (w64 ((w64 (x11576 * p1.Width)) + x11843)) 0) z_Tile).N) != ((rdD p0 (rdD p1.Cells (w64 ((w64 ((Int.tmod (w64 (x11576 + 1)) p1.Height) * p1.Width)) + x11843)) 0) z_Tile).S))))] [.ne p1.Height, .idx A_p1_Cells (w64 ((w64 ((Int.tmod (w64 (x11576 + 1)) p1.Height) * p1.Width)) + x11843)) p1.Cells.length, .idx A_p0 (rdD p1.Cells (w64 ((w64 ((Int.tmod (w64 (x11576 + 1)) p1.Height) * p1.Width)) + x11843)) 0) p0.length] [1, 2, 3, 4, 5, 6] [(10, ⟨g11853, 0, none⟩, (iv ((rdD p0 (rdD p1.Cells (w64 ((w64 (x11576 * p1.Width)) + x11843)) 0) z_Tile).N))), (13, ⟨g10547, 2, none⟩, (.slice A_p1_Cells p1.Cells.length c_p1_Cells)), (17, ⟨g10547, 1, none⟩, (iv p1.Height)), (20, ⟨g10547, 0, none⟩, (iv p1.Width)), (25, ((adr A_p1_Cells).add ((w64 ((w64 ((Int.tmod (w64 (x11576 + 1)) p1.Height) * p1.Width)) + x11843)).toNat * 1)), (iv (rdD p1.Cells (w64 ((w64 ((Int.tmod (w64 (x11576 + 1)) p1.Height) * p1.Width)) + x11843)) 0))), (28, (((adr A_p0).add (((rdD p1.Cells (w64 ((w64 ((Int.tmod (w64 (x11576 + 1)) p1.Height) * p1.Width)) + x11843)) 0)).toNat * 4)).add 2), (iv ((rdD p0 (rdD p1.Cells (w64 ((w64 ((Int.tmod (w64 (x11576 + 1)) p1.Height) * p1.Width)) + x11843)) 0) z_Tile).S)))] (fun fb => by kernel_rfl) rfl ⟨h11969, rowR.adr (hS11965.rd 1).1 h11970.1 h11970.2, rowR.adr (hS11965.rd 0).1 h11971.1 h11971.2, trivial⟩ rfl ?_
         refine WL.done rfl ?_
         injection hx11947 with hx11947
         exact WX.to Kx11946 (((rdD p0 (rdD p1.Cells (w64 ((w64 (x11576 * p1.Width)) + x11843)) 0) z_Tile).N) != ((rdD p0 (rdD p1.Cells (w64 ((w64 ((Int.tmod (w64 (x11576 + 1)) p1.Height) * p1.Width)) + x11843)) 0) z_Tile).S)) [0, 2, 4, 11, 12, 224] rfl ⟨(hS11965.subR [0, 1]).sub [0] (by decide), hx11947.symm⟩
        refine WC.regionD ([(5, ⟨g10547, 1, none⟩, (iv p1.Height))], [0, 1, 2, 3, 4, 5, 6, 7, 8, 9, 10, 11, 12, 13, 14, 15, 16, 17, 18, 19, 20, 21, 22, 23, 24, 25, 26, 27, 28, 29, 30], [[], [0], [0, 1], [0, 1, 2], [0, 1], [0, 1, 4], [0, 1, 2, 3, 4, 5], [0, 1, 2, 3, 4, 5, 6], [0, 1, 2, 3, 4, 5, 6, 7], [0, 1, 2, 3, 4, 5, 6, 7, 8], [0, 1, 2, 3, 4, 5, 6, 7, 8, 9], [0, 1, 2, 3, 4, 5, 6, 7, 8], [0, 1, 2, 3, 4, 5, 6, 7, 8], [0, 1, 2, 3, 4, 5, 6, 7, 8, 12], [0, 1, 2, 3, 4, 5, 6, 7, 8], [0, 1, 2, 3, 4, 5, 6, 7, 8, 14], [0, 1, 2, 3, 4, 5, 6, 7, 8], [0, 1, 2, 3, 4, 5, 6, 7, 8, 16], [0, 1, 2, 3, 4, 5, 6, 7, 8, 14, 15, 16, 17], [0, 1, 2, 3, 4, 5, 6, 7, 8], [0, 1, 2, 3, 4, 5, 6, 7, 8, 19], [0, 1, 2, 3, 4, 5, 6, 7, 8, 14, 15, 16, 17, 18, 19, 20], [0, 1, 2, 3, 4, 5, 6, 7, 8], [0, 1, 2, 3, 4, 5, 6, 7, 8, 14, 15, 16, 17, 18, 19, 20, 21, 22], [0, 1, 2, 3, 4, 5, 6, 7, 8, 12, 13, 14, 15, 16, 17, 18, 19, 20, 21, 22, 23], [0, 1, 2, 3, 4, 5, 6, 7, 8, 12, 13, 14, 15, 16, 17, 18, 19, 20, 21, 22, 23, 24], [0, 1, 2, 3, 4, 5, 6, 7, 8, 11, 12, 13, 14, 15, 16, 17, 18, 19, 20, 21, 22, 23, 24, 25], [0, 1, 2, 3, 4, 5, 6, 7, 8, 11, 12, 13, 14, 15, 16, 17, 18, 19, 20, 21, 22, 23, 24, 25, 26], [0, 1, 2, 3, 4, 5, 6, 7, 8, 11, 12, 13, 14, 15, 16, 17, 18, 19, 20, 21, 22, 23, 24, 25, 26, 27], [0, 1, 2, 3, 4, 5, 6, 7, 8, 9, 10, 11, 12, 13, 14, 15, 16, 17, 18, 19, 20, 21, 22, 23, 24, 25, 26, 27, 28], [0, 1, 2, 3, 4, 5, 6, 7, 8, 9, 10, 11, 12, 13, 14, 15, 16, 17, 18, 19, 20, 21, 22, 23, 24, 25, 26, 27, 28, 29]]) [[0, 1, 2, 3, 4, 5, 6, 7, 8, 9, 10, 11, 12, 13, 14, 15, 16, 17, 18, 19, 20, 21, 22, 23, 24, 25, 26, 27, 28, 29, 30]] (by kernel_rfl) (by kernel_rfl) (NoPanic.seq (NoPanic.block (NoPanic.seq (NoPanic.seq (NoPanic.block (NoPanic.block (NoPanic.seq (NoPanic.seq (NoPanic.block (NoPanic.seq (NoPanic.body))))))))))) ?_
        have hS11973 := hS11915.drew
        revert hS11973
        generalize World.drew w11914 = w11972
        intro hS11973
        refine ⟨⟨hS11973.cell 0 rfl 1 rfl, trivial⟩, forallC ?_ (forallN)⟩
        refine seg 2 [] [0, 2, 4, 11, 12, 13, 195] [(0, (.slice A_p0 p0.length c_p0)), (2, (.bool p2)), (4, (pt g10547)), (11, (iv x11576)), (12, (iv x11843)), (13, (pt g11853)), (195, (.bool p2))] [] (fun fb => by kernel_rfl) rfl trivial ?_
        refine WL.setB 195 h11948 rfl ?_
        refine segF 9 [.v (iv p1.Height)] [0, 2, 4, 11, 12, 13, 202] [(0, (.slice A_p0 p0.length c_p0)), (2, (.bool p2)), (4, (pt g10547)), (11, (iv x11576)), (12, (iv x11843)), (13, (pt g11853)), (202, (.bool (decide (w64 (x11576 + 1) < p1.Height))))] [] [0] [(5, ⟨g10547, 1, none⟩, (iv p1.Height))] (fun fb => by kernel_rfl) rfl trivial rfl ?_
        refine WL.setB 202 h11960 rfl ?_
        refine seg 31 [] [0, 2, 4, 11, 12, 224] [(0, (.slice A_p0 p0.length c_p0)), (2, (.bool p2)), (4, (pt g10547)), (11, (iv x11576)), (12, (iv x11843)), (224, (.bool false))] [] (fun fb => by kernel_rfl) rfl trivial ?_
        refine WL.done rfl ?_
        injection hx11947 with hx11947
        exact WX.to Kx11946 false [0, 2, 4, 11, 12, 224] rfl ⟨(hS11973.subR [0, 1]).sub [0] (by decide), hx11947.symm⟩
       rintro y11977 w11974 ⟨hS11975, hq11976⟩
       subst hq11976
       refine WX.next ?_
       rcases br_some hl11849 with ⟨h11978, hl11849⟩ | ⟨h11978, hl11849⟩
       ·refine WC.condT2 (fun fb => by kernel_rfl) h11978 ?_
        refine WC.seq ?_
        refine WC.region ?_
        refine seg 1 [] [6] [(6, (.bool false))] [] (fun fb => by kernel_rfl) rfl trivial ?_
        refine WL.done rfl ?_
        refine WX.next ?_
        refine WC.ret ?_
        injection hl11849 with hl11849
        subst hl11849
        injection hl11582 with hl11582
        subst hl11582
        injection hf with hf
        subst hf
        exact WX.blockR (WX.thenR (WX.thenR (WX.blockR (WX.blockR (WX.thenR (WX.thenR (WX.blockR (WX.thenR (WX.ret_ [] (.bool false) [] (fun fb => by kernel_rfl) trivial ⟨_, rfl, rfl, hS11975.keep⟩)))))))))
       refine WC.condF2 (fun fb => by kernel_rfl) h11978 ?_
       refine WC.skip ?_
       refine WX.blockN (WX.next ?_)
       refine WC.region ?_
       refine seg 3 [] [0, 2, 4, 11, 12] [(0, (.slice A_p0 p0.length c_p0)), (2, (.bool p2)), (4, (pt g10547)), (11, (iv x11576)), (12, (iv (w64 (x11843 + 1))))] [] (fun fb => by kernel_rfl) rfl trivial ?_
       refine WL.done rfl ?_
       exact WX.again k11846 (Nat.lt_succ_self _) (w64 (x11843 + 1)) [0, 2, 4, 11, 12] rfl ⟨(hS11975.subR [0, 1]).sub [0] (by decide), hl11849⟩
      refine WC.condF2 (fun fb => by kernel_rfl) h11850 ?_
      refine WC.exit ?_
      injection hl11849 with hl11849
      exact WX.thenX (WX.thenX (WX.blockHere (WX.to Kx11844 () [0, 2, 4, 11] rfl ⟨(hS11848.subR [0, 1]).sub [0] (by decide), hl11849.symm⟩)))
    rintro y11982 w11979 ⟨hS11980, hq11981⟩
    subst hq11981
    have hl11582 := sum_inr hl11582
    refine WX.blockN (WX.next ?_)
    refine WC.region ?_
    refine seg 3 [] [0, 2, 4, 11] [(0, (.slice A_p0 p0.length c_p0)), (2, (.bool p2)), (4, (pt g10547)), (11, (iv (w64 (x11576 + 1))))] [] (fun fb => by kernel_rfl) rfl trivial ?_
    refine WL.done rfl ?_
    exact WX.again k11579 (Nat.lt_succ_self _) (w64 (x11576 + 1)) [0, 2, 4, 11] rfl ⟨(hS11980.subR [0, 1]).sub [0] (by decide), hl11582⟩
   refine WC.condF2 (fun fb => by kernel_rfl) h11583 ?_
   refine WC.exit ?_
   injection hl11582 with hl11582
   exact WX.thenX (WX.thenX (WX.blockHere (WX.to Kx11577 () [] rfl ⟨(hS11581.subR [0, 1]).sub [] (by decide), hl11582.symm⟩)))
 rintro y11987 w11984 ⟨hS11985, hq11986⟩
 subst hq11986
 have hf := sum_inr hf
 refine WX.next ?_
 refine WC.seq ?_
 refine WC.region ?_
 refine seg 1 [] [6] [(6, (.bool true))] [] (fun fb => by kernel_rfl) rfl trivial ?_
 refine WL.done rfl ?_
 refine WX.next ?_
 refine WC.ret ?_
 injection hf with hf
 subst hf
 exact WX.ret_ [] (.bool true) [] (fun fb => by kernel_rfl) trivial ⟨_, rfl, rfl, hS11985.keep⟩
theorem top_chess_calls   (r : (List Tile)) (w : World)  (hf : top_chess = some r) :
  CallsR Try.prog 51 #[] w (fun v w' => ∃ (A1_ : Option Addr), ∃ (c1_ : Nat), v = (.slice A1_ r.length c1_) ∧ St NoS w w' [] [rowO 24 enc_Tile A1_ c1_ r]) := by
 have hS : St NoS w w [] [] := St.init (ro_nil _ _)
 refine enter 4 Try.func51 rfl Try.ntmps51 rfl ?_
 unfold top_chess at hf
 refine WC.seq ?_
 refine WC.region ?_
 refine seg 1 [] [] [] [] (fun fb => by kernel_rfl) rfl trivial ?_
 refine WL.done rfl ?_
 refine WX.next ?_
 refine WC.seq ?_
 refine WC.region ?_
 refine seg 2 [] [1, 2] [(1, (.agg #[(iv 0), (iv 1), (iv 1), (iv 0)])), (2, (.agg #[(iv 1), (iv 0), (iv 0), (iv 1)]))] [] (fun fb => by kernel_rfl) rfl trivial ?_
 refine WL.new hS 3 [] (fun g => (.slice (some ⟨g, 0, none⟩) 2 2)) (.cells #[(iv 0), (iv 1), (iv 1), (iv 0), (iv 1), (iv 0), (iv 0), (iv 1)] 24 (0, 0)) [] (fun fb g => by kernel_rfl) trivial (fun g12008 w12009 hS12010 => ?_)
 refine ⟨trivial, ?_⟩
 have hS12012 : St NoS w w12009 [] [rowO 24 enc_Tile (some ⟨g12008, 0, none⟩) 2 [(Tile.mk 0 1 1 0), (Tile.mk 1 0 0 1)]] := hS12010.map1 0 _ (fun h => rowO.ofBlk h rfl (Nat.le_of_ble_eq_true (by kernel_rfl))) (fun _ h => by obtain ⟨_, h1, h2⟩ := h; injection h1 with h1; subst h1; exact h2) [] (by decide) (by decide)
 refine seg 4 [] [0] [(0, (.slice (some ⟨g12008, 0, none⟩) [(Tile.mk 0 1 1 0), (Tile.mk 1 0 0 1)].length 2))] [] (fun fb => by kernel_rfl) rfl trivial ?_
 refine WL.done rfl ?_
 refine WX.next ?_
 refine WC.ret ?_
 injection hf with hf
 subst hf
 exact WX.ret_ [] (.slice (some ⟨g12008, 0, none⟩) [(Tile.mk 0 1 1 0), (Tile.mk 1 0 0 1)].length 2) [] (fun fb => by kernel_rfl) trivial ⟨_, rfl, (some ⟨g12008, 0, none⟩), 2, rfl, (hS12012.sub [0] (by decide)).noR⟩
theorem tile_Repeat_calls (k : Nat) (p0 : Pattern) (p1 : Int) (p2 : Int) (A_p0_Cells : Option Addr) (c_p0_Cells : Nat) (r : Pattern × Int) (w : World) (hR0 : RO NoS w (rowR encInt A_p0_Cells c_p0_Cells p0.Cells)) (hf : tile_Repeat k p0 p1 p2 = some r) :
  CallsR Try.prog 50 #[(.agg #[(iv p0.Width), (iv p0.Height), (.slice A_p0_Cells p0.Cells.length c_p0_Cells)]), (iv p1), (iv p2)] w (fun v w' => ∃ (A1_ : Option Addr), ∃ (c1_ : Nat), v = (.tuple #[(.agg #[(iv r.1.Width), (iv r.1.Height), (.slice A1_ r.1.Cells.length c1_)]), (iv r.2)]) ∧ St NoS w w' [] [rowO 3 encInt A1_ c1_ r.1.Cells]) := by
 have hS : St NoS w w [rowR encInt A_p0_Cells c_p0_Cells p0.Cells] [] := St.init (ro_cons hR0 (ro_nil _ _))
 refine enter 70 Try.func50 rfl Try.ntmps50 rfl ?_
 unfold tile_Repeat at hf
 refine WC.seq ?_
 refine WC.region ?_
 refine WL.new hS 3 [] (fun g => (.pointer (some ⟨g, 0, none⟩))) (.cells #[(iv p0.Width), (iv p0.Height), (.slice A_p0_Cells p0.Cells.length c_p0_Cells)] 38 (0, 0)) [] (fun fb g => by kernel_rfl) trivial (fun g12072 w12073 hS12074 => ?_)
 refine ⟨trivial, ?_⟩
 refine WL.new hS12074 6 [] (fun g => (.pointer (some ⟨g, 0, none⟩))) (.cells #[(iv 0), (iv 0), (.slice none 0 0)] 38 (0, 0)) [] (fun fb g => by kernel_rfl) trivial (fun g12076 w12077 hS12078 => ?_)
 refine ⟨trivial, ?_⟩
 refine seg 3 [] [1, 2, 3, 6] [(1, (iv p1)), (2, (iv p2)), (3, (pt g12072)), (6, (pt g12076))] [] (fun fb => by kernel_rfl) rfl trivial ?_
 refine WL.done rfl ?_
 refine WX.next ?_
 refine WC.seq ?_
 refine WC.seq ?_
 refine WC.region ?_
 refine seg 1 [.v (iv p0.Width), .v (iv p0.Height), .v (.slice A_p0_Cells p0.Cells.length c_p0_Cells)] [1, 2, 3, 6, 11] [(1, (iv p1)), (2, (iv p2)), (3, (pt g12072)), (6, (pt g12076)), (11, (.agg #[(iv p0.Width), (iv p0.Height), (.slice A_p0_Cells p0.Cells.length c_p0_Cells)]))] [.cell ⟨g12072, 0, none⟩ (iv p0.Width), .cell ⟨g12072, 1, none⟩ (iv p0.Height), .cell ⟨g12072, 2, none⟩ (.slice A_p0_Cells p0.Cells.length c_p0_Cells)] (fun fb => by kernel_rfl) rfl ⟨hS12078.cell 1 rfl 0 rfl, hS12078.cell 1 rfl 1 rfl, hS12078.cell 1 rfl 2 rfl, trivial⟩ ?_
 obtain ⟨t12080, ht12081, hf⟩ := bind_some hf
 refine WL.call (some 12) 64 #[(.agg #[(iv p0.Width), (iv p0.Height), (.slice A_p0_Cells p0.Cells.length c_p0_Cells)])] (fun fb => by kernel_rfl) (tile_Form_calls p0 A_p0_Cells c_p0_Cells t12080 _ (hS12078.rd 0) ht12081) (fun v w12082 hR12083 => ?_)
 obtain ⟨rfl, hk_⟩ := hR12083
 have hS12084 := hS12078.keepN hk_
 refine ⟨trivial, ?_⟩
 refine seg 3 [] [1, 2, 3, 6, 13] [(1, (iv p1)), (2, (iv p2)), (3, (pt g12072)), (6, (pt g12076)), (13, (.bool (!t12080)))] [] (fun fb => by kernel_rfl) rfl trivial ?_
 refine WL.done rfl ?_
 refine WX.next ?_
 rcases br_some hf with ⟨h12085, hf⟩ | ⟨h12085, hf⟩
 ·refine WC.condT2 (fun fb => by kernel_rfl) h12085 ?_
  refine WC.seq ?_
  refine WC.region ?_
  refine seg 1 [] [6, 14] [(6, (pt g12076)), (14, (.agg #[(iv 0), (iv 0), (.slice none 0 0)]))] [] (fun fb => by kernel_rfl) rfl trivial ?_
  refine WL.store hS12084 0 rfl [(0, (iv 0)), (1, (iv 0)), (2, (.slice none 0 0))] #[(iv 0), (iv 0), (.slice none 0 0)] (fun fb => by kernel_rfl) (by kernel_rfl) rfl [1] (by decide) (by decide) (fun w12086 hS12087 => ?_)
  refine ⟨trivial, ?_⟩
  refine seg 3 [] [6, 7] [(6, (pt g12076)), (7, (iv 1))] [] (fun fb => by kernel_rfl) rfl trivial ?_
  refine WL.done rfl ?_
  refine WX.next ?_
  refine WC.ret ?_
  have hS12088 := hS12087.nilrow 3 encInt
  injection hf with hf
  subst hf
  exact WX.thenR (WX.ret_ [.v (iv 0), .v (iv 0), .v (.slice none 0 0)] (.tuple #[(.agg #[(iv 0), (iv 0), (.slice none ([] : List Int).length 0)]), (iv 1)]) [.cell ⟨g12076, 0, none⟩ (iv 0), .cell ⟨g12076, 1, none⟩ (iv 0), .cell ⟨g12076, 2, none⟩ (.slice none 0 0)] (fun fb => by kernel_rfl) ⟨hS12087.cell 0 rfl 0 rfl, hS12087.cell 0 rfl 1 rfl, hS12087.cell 0 rfl 2 rfl, trivial⟩ ⟨_, rfl, none, 0, rfl, (hS12088.sub [0] (by decide)).noR⟩)
 refine WC.condF2 (fun fb => by kernel_rfl) h12085 ?_
 refine WC.skip ?_
 refine WX.next ?_
 refine WC.seq ?_
 refine WC.seq ?_
 refine WC.region ?_
 refine seg 3 [] [1, 2, 3, 6, 17] [(1, (iv p1)), (2, (iv p2)), (3, (pt g12072)), (6, (pt g12076)), (17, (.bool (decide (p1 < 1))))] [] (fun fb => by kernel_rfl) rfl trivial ?_
 refine WL.cutV (T := Bool) 6 (fun t => [(20, (.bool t)), (1, (iv p1)), (2, (iv p2)), (3, (pt g12072)), (6, (pt g12076))]) (fun t => ((decide (p1 < 1)) || (decide (p2 < 1))) = t) (fun K => ?_) ?_
 ·
  rcases Bool.eq_false_or_eq_true (decide (p1 < 1)) with h12089 | h12089
  ·
   refine WL.setB 17 h12089 rfl ?_
   refine seg 6 [] [1, 2, 3, 6, 20] [(1, (iv p1)), (2, (iv p2)), (3, (pt g12072)), (6, (pt g12076)), (20, (.bool true))] [] (fun fb => by kernel_rfl) rfl trivial ?_
   exact WL.toV K true [20, 1, 2, 3, 6] rfl (by first | (rw [h12089]; done) | (rw [h12089]; rfl))
  refine WL.setB 17 h12089 rfl ?_
  refine seg 6 [] [1, 2, 3, 6, 20] [(1, (iv p1)), (2, (iv p2)), (3, (pt g12072)), (6, (pt g12076)), (20, (.bool (decide (p2 < 1))))] [] (fun fb => by kernel_rfl) rfl trivial ?_
  exact WL.toV K (decide (p2 < 1)) [20, 1, 2, 3, 6] rfl (by first | (rw [h12089]; done) | (rw [h12089]; rfl))
 rintro b12090 rfl
 refine WL.done rfl ?_
 refine WX.next ?_
 rcases br_some hf with ⟨h12091, hf⟩ | ⟨h12091, hf⟩
 ·refine WC.condT2 (fun fb => by kernel_rfl) h12091 ?_
  refine WC.seq ?_
  refine WC.region ?_
  refine seg 1 [] [6, 21] [(6, (pt g12076)), (21, (.agg #[(iv 0), (iv 0), (.slice none 0 0)]))] [] (fun fb => by kernel_rfl) rfl trivial ?_
  refine WL.store hS12084 0 rfl [(0, (iv 0)), (1, (iv 0)), (2, (.slice none 0 0))] #[(iv 0), (iv 0), (.slice none 0 0)] (fun fb => by kernel_rfl) (by kernel_rfl) rfl [1] (by decide) (by decide) (fun w12092 hS12093 => ?_)
  refine ⟨trivial, ?_⟩
  refine seg 3 [] [6, 7] [(6, (pt g12076)), (7, (iv 2))] [] (fun fb => by kernel_rfl) rfl trivial ?_
  refine WL.done rfl ?_
  refine WX.next ?_
  refine WC.ret ?_
  have hS12094 := hS12093.nilrow 3 encInt
  injection hf with hf
  subst hf
  exact WX.thenR (WX.ret_ [.v (iv 0), .v (iv 0), .v (.slice none 0 0)] (.tuple #[(.agg #[(iv 0), (iv 0), (.slice none ([] : List Int).length 0)]), (iv 2)]) [.cell ⟨g12076, 0, none⟩ (iv 0), .cell ⟨g12076, 1, none⟩ (iv 0), .cell ⟨g12076, 2, none⟩ (.slice none 0 0)] (fun fb => by kernel_rfl) ⟨hS12093.cell 0 rfl 0 rfl, hS12093.cell 0 rfl 1 rfl, hS12093.cell 0 rfl 2 rfl, trivial⟩ ⟨_, rfl, none, 0, rfl, (hS12094.sub [0] (by decide)).noR⟩)
 refine WC.condF2 (fun fb => by kernel_rfl) h12091 ?_
 refine WC.skip ?_
 refine WX.next ?_
 refine WC.seq ?_
 refine WC.seq ?_
 refine WC.region ?_
 refine seg 3 [] [1, 2, 3, 6, 24] [(1, (iv p1)), (2, (iv p2)), (3, (pt g12072)), (6, (pt g12076)), (24, (.bool (decide (p1 > 40000))))] [] (fun fb => by kernel_rfl) rfl trivial ?_
 refine WL.cutV (T := Bool) 6 (fun t => [(27, (.bool t)), (1, (iv p1)), (2, (iv p2)), (3, (pt g12072)), (6, (pt g12076))]) (fun t => ((decide (p1 > 40000)) || (decide (p2 > 40000))) = t) (fun K => ?_) ?_
 ·
  rcases Bool.eq_false_or_eq_true (decide (p1 > 40000)) with h12095 | h12095
  ·
   refine WL.setB 24 h12095 rfl ?_
   refine seg 6 [] [1, 2, 3, 6, 27] [(1, (iv p1)), (2, (iv p2)), (3, (pt g12072)), (6, (pt g12076)), (27, (.bool true))] [] (fun fb => by kernel_rfl) rfl trivial ?_
   exact WL.toV K true [27, 1, 2, 3, 6] rfl (by first | (rw [h12095]; done) | (rw [h12095]; rfl))
  refine WL.setB 24 h12095 rfl ?_
  refine seg 6 [] [1, 2, 3, 6, 27] [(1, (iv p1)), (2, (iv p2)), (3, (pt g12072)), (6, (pt g12076)), (27, (.bool (decide (p2 > 40000))))] [] (fun fb => by kernel_rfl) rfl trivial ?_
  exact WL.toV K (decide (p2 > 40000)) [27, 1, 2, 3, 6] rfl (by first | (rw [h12095]; done) | (rw [h12095]; rfl))
 rintro b12096 rfl
 refine seg 7 [] [1, 2, 3, 6, 28] [(1, (iv p1)), (2, (iv p2)), (3, (pt g12072)), (6, (pt g12076)), (28, (.bool ((decide (p1 > 40000)) || (decide (p2 > 40000)))))] [] (fun fb => by kernel_rfl) rfl trivial ?_
 refine WL.cutV (T := Bool) 12 (fun t => [(33, (.bool t)), (1, (iv p1)), (2, (iv p2)), (3, (pt g12072)), (6, (pt g12076))]) (fun t => (((decide (p1 > 40000)) || (decide (p2 > 40000))) || (decide (w64 (p1 * p2) > 40000))) = t) (fun K => ?_) ?_
 ·
  rcases Bool.eq_false_or_eq_true ((decide (p1 > 40000)) || (decide (p2 > 40000))) with h12097 | h12097
  ·
   refine WL.setB 28 h12097 rfl ?_
   refine seg 12 [] [1, 2, 3, 6, 33] [(1, (iv p1)), (2, (iv p2)), (3, (pt g12072)), (6, (pt g12076)), (33, (.bool true))] [] (fun fb => by kernel_rfl) rfl trivial ?_
   exact WL.toV K true [33, 1, 2, 3, 6] rfl (by first | (rw [h12097]; done) | (rw [h12097]; rfl))
  refine WL.setB 28 h12097 rfl ?_
  refine seg 12 [] [1, 2, 3, 6, 33] [(1, (iv p1)), (2, (iv p2)), (3, (pt g12072)), (6, (pt g12076)), (33, (.bool (decide (w64 (p1 * p2) > 40000))))] [] (fun fb => by kernel_rfl) rfl trivial ?_
  exact WL.toV K (decide (w64 (p1 * p2) > 40000)) [33, 1, 2, 3, 6] rfl (by first | (rw [h12097]; done) | (rw [h12097]; rfl))
 rintro b12098 rfl
 refine WL.done rfl ?_
 refine WX.next ?_
 rcases br_some hf with ⟨h12099, hf⟩ | ⟨h12099, hf⟩
 ·refine WC.condT2 (fun fb => by kernel_rfl) h12099 ?_
  refine WC.seq ?_
  refine WC.region ?_
  refine seg 1 [] [6, 34] [(6, (pt g12076)), (34, (.agg #[(iv 0), (iv 0), (.slice none 0 0)]))] [] (fun fb => by kernel_rfl) rfl trivial ?_
  refine WL.store hS12084 0 rfl [(0, (iv 0)), (1, (iv 0)), (2, (.slice none 0 0))] #[(iv 0), (iv 0), (.slice none 0 0)] (fun fb => by kernel_rfl) (by kernel_rfl) rfl [1] (by decide) (by decide) (fun w12100 hS12101 => ?_)
  refine ⟨trivial, ?_⟩
  refine seg 3 [] [6, 7] [(6, (pt g12076)), (7, (iv 4))] [] (fun fb => by kernel_rfl) rfl trivial ?_
  refine WL.done rfl ?_
  refine WX.next ?_
  refine WC.ret ?_
  have hS12102 := hS12101.nilrow 3 encInt
  injection hf with hf
  subst hf
  exact WX.thenR (WX.ret_ [.v (iv 0), .v (iv 0), .v (.slice none 0 0)] (.tuple #[(.agg #[(iv 0), (iv 0), (.slice none ([] : List Int).length 0)]), (iv 4)]) [.cell ⟨g12076, 0, none⟩ (iv 0), .cell ⟨g12076, 1, none⟩ (iv 0), .cell ⟨g12076, 2, none⟩ (.slice none 0 0)] (fun fb => by kernel_rfl) ⟨hS12101.cell 0 rfl 0 rfl, hS12101.cell 0 rfl 1 rfl, hS12101.cell 0 rfl 2 rfl, trivial⟩ ⟨_, rfl, none, 0, rfl, (hS12102.sub [0] (by decide)).noR⟩)
 refine WC.condF2 (fun fb => by kernel_rfl) h12099 ?_
 refine WC.skip ?_
 refine WX.next ?_
 refine WC.seq ?_
 refine WC.region ?_
 refine seg 3 [] [1, 2, 3, 6, 37] [(1, (iv p1)), (2, (iv p2)), (3, (pt g12072)), (6, (pt g12076)), (37, (.agg #[(iv p1), (iv p2), (.slice none 0 0)]))] [] (fun fb => by kernel_rfl) rfl trivial ?_
 refine WL.new hS12084 8 [] (fun g => (.pointer (some ⟨g, 0, none⟩))) (.cells #[(iv 0), (iv 0), (.slice none 0 0)] 38 (0, 0)) [] (fun fb g => by kernel_rfl) trivial (fun g12103 w12104 hS12105 => ?_)
 refine ⟨trivial, ?_⟩
 refine WL.store hS12105 0 rfl [(0, (iv p1)), (1, (iv p2)), (2, (.slice none 0 0))] #[(iv p1), (iv p2), (.slice none 0 0)] (fun fb => by kernel_rfl) (by kernel_rfl) rfl [1, 2] (by decide) (by decide) (fun w12107 hS12108 => ?_)
 refine ⟨trivial, ?_⟩
 refine WL.done rfl ?_
 refine WX.next ?_
 refine WC.seq ?_
 refine WC.seq ?_
 refine WC.region ?_
 refine seg 2 [] [1, 3, 6, 8, 38, 39] [(1, (iv p1)), (3, (pt g12072)), (6, (pt g12076)), (8, (pt g12103)), (38, (iv p2)), (39, (iv 0))] [] (fun fb => by kernel_rfl) rfl trivial ?_
 refine WL.done rfl ?_
 refine WX.next ?_
 have hS12378 := hS12108.nilrow 3 encInt
 obtain ⟨x12386, hx12387, hf⟩ := bind_some hf
 refine WC.cutN (T := (List Int) × (Option Addr) × Nat) (fun t => [(6, (pt g12076)), (8, (pt g12103))]) (fun t w1 => St NoS w w1 [rowR encInt A_p0_Cells c_p0_Cells p0.Cells] [blk g12076 (.cells #[(iv 0), (iv 0), (.slice none 0 0)] 38 (0, 0)), blk g12103 (.cells #[(iv p1), (iv p2), (.slice t.2.1 t.1.length t.2.2)] 38 (0, 0)), rowO 3 encInt t.2.1 t.2.2 t.1] ∧ x12386 = t.1) (fun Kx12386 => ?_) ?_
 ·
  refine WC.block ?_
  refine WC.loop (T := ((List Int) × Int) × (Option Addr) × Nat) (fun t => [(1, (iv p1)), (3, (pt g12072)), (6, (pt g12076)), (8, (pt g12103)), (38, (iv p2)), (39, (iv t.1.2))]) (fun n t w1 => St NoS w w1 [rowR encInt A_p0_Cells c_p0_Cells p0.Cells] [blk g12072 (.cells #[(iv p0.Width), (iv p0.Height), (.slice A_p0_Cells p0.Cells.length c_p0_Cells)] 38 (0, 0)), blk g12076 (.cells #[(iv 0), (iv 0), (.slice none 0 0)] 38 (0, 0)), blk g12103 (.cells #[(iv p1), (iv p2), (.slice t.2.1 t.1.1.length t.2.2)] 38 (0, 0)), rowO 3 encInt t.2.1 t.2.2 t.1.1] ∧ tile_Repeat.l0 n t.1.1 t.1.2 p0 p1 p2 = some x12386) k ((([] : List Int), 0), none, 0) [1, 3, 6, 8, 38, 39] rfl ⟨(hS12378.subR [0]).sub [3, 2, 1, 0] (by decide), hx12387⟩ ?_
  rintro k12388 ⟨⟨l12381, x12382⟩, A12379, c12380⟩ w12389 ⟨hS12390, hl12391⟩
  cases k12388 with
  | zero => rw [tile_Repeat.l0] at hl12391; cases hl12391
  | succ k12388 =>
   rw [tile_Repeat.l0] at hl12391
   refine WC.seq ?_
   refine WC.region ?_
   refine seg 1 [] [1, 3, 6, 8, 38, 39, 40] [(1, (iv p1)), (3, (pt g12072)), (6, (pt g12076)), (8, (pt g12103)), (38, (iv p2)), (39, (iv x12382)), (40, (.bool (decide (x12382 < p2))))] [] (fun fb => by kernel_rfl) rfl trivial ?_
   refine WL.done rfl ?_
   refine WX.next ?_
   refine WC.seq ?_
   rcases br_some hl12391 with ⟨h12392, hl12391⟩ | ⟨h12392, hl12391⟩
   ·refine WC.condT2 (fun fb => by kernel_rfl) h12392 ?_
    refine WC.skip ?_
    refine WX.next ?_
    refine WC.seq ?_
    refine WC.block ?_
    refine WC.seq ?_
    refine WC.region ?_
    refine seg 2 [] [1, 3, 6, 8, 9, 38, 39] [(1, (iv p1)), (3, (pt g12072)), (6, (pt g12076)), (8, (pt g12103)), (9, (iv x12382)), (38, (iv p2)), (39, (iv x12382))] [] (fun fb => by kernel_rfl) rfl trivial ?_
    refine WL.done rfl ?_
    refine WX.next ?_
    refine WC.seq ?_
    refine WC.region ?_
    refine seg 2 [] [1, 3, 6, 8, 9, 38, 39, 42, 43] [(1, (iv p1)), (3, (pt g12072)), (6, (pt g12076)), (8, (pt g12103)), (9, (iv x12382)), (38, (iv p2)), (39, (iv x12382)), (42, (iv p1)), (43, (iv 0))] [] (fun fb => by kernel_rfl) rfl trivial ?_
    refine WL.done rfl ?_
    refine WX.next ?_
    obtain ⟨x12476, hx12477, hl12391⟩ := bind_some hl12391
    refine WC.cutN (T := (List Int) × (Option Addr) × Nat) (fun t => [(1, (iv p1)), (3, (pt g12072)), (6, (pt g12076)), (8, (pt g12103)), (38, (iv p2)), (39, (iv x12382))]) (fun t w1 => St NoS w w1 [rowR encInt A_p0_Cells c_p0_Cells p0.Cells] [blk g12072 (.cells #[(iv p0.Width), (iv p0.Height), (.slice A_p0_Cells p0.Cells.length c_p0_Cells)] 38 (0, 0)), blk g12076 (.cells #[(iv 0), (iv 0), (.slice none 0 0)] 38 (0, 0)), blk g12103 (.cells #[(iv p1), (iv p2), (.slice t.2.1 t.1.length t.2.2)] 38 (0, 0)), rowO 3 encInt t.2.1 t.2.2 t.1] ∧ x12476 = t.1) (fun Kx12476 => ?_) ?_
    ·
     refine WC.block ?_
     refine WC.loop (T := ((List Int) × Int) × (Option Addr) × Nat) (fun t => [(1, (iv p1)), (3, (pt g12072)), (6, (pt g12076)), (8, (pt g12103)), (9, (iv x12382)), (38, (iv p2)), (39, (iv x12382)), (42, (iv p1)), (43, (iv t.1.2))]) (fun n t w1 => St NoS w w1 [rowR encInt A_p0_Cells c_p0_Cells p0.Cells] [blk g12072 (.cells #[(iv p0.Width), (iv p0.Height), (.slice A_p0_Cells p0.Cells.length c_p0_Cells)] 38 (0, 0)), blk g12076 (.cells #[(iv 0), (iv 0), (.slice none 0 0)] 38 (0, 0)), blk g12103 (.cells #[(iv p1), (iv p2), (.slice t.2.1 t.1.1.length t.2.2)] 38 (0, 0)), rowO 3 encInt t.2.1 t.2.2 t.1.1] ∧ tile_Repeat.l1 n t.1.1 t.1.2 p0 p1 x12382 = some x12476) k12388 ((l12381, 0), A12379, c12380) [1, 3, 6, 8, 9, 38, 39, 42, 43] rfl ⟨(hS12390.subR [0]).sub [0, 1, 2, 3] (by decide), hx12477⟩ ?_
     rintro k12478 ⟨⟨l12471, x12472⟩, A12469, c12470⟩ w12479 ⟨hS12480, hl12481⟩
     cases k12478 with
     | zero => rw [tile_Repeat.l1] at hl12481; cases hl12481
     | succ k12478 =>
      rw [tile_Repeat.l1] at hl12481
      refine WC.seq ?_
      refine WC.region ?_
      refine seg 1 [] [1, 3, 6, 8, 9, 38, 39, 42, 43, 44] [(1, (iv p1)), (3, (pt g12072)), (6, (pt g12076)), (8, (pt g12103)), (9, (iv x12382)), (38, (iv p2)), (39, (iv x12382)), (42, (iv p1)), (43, (iv x12472)), (44, (.bool (decide (x12472 < p1))))] [] (fun fb => by kernel_rfl) rfl trivial ?_
      refine WL.done rfl ?_
      refine WX.next ?_
      refine WC.seq ?_
      rcases br_some hl12481 with ⟨h12482, hl12481⟩ | ⟨h12482, hl12481⟩
      ·refine WC.condT2 (fun fb => by kernel_rfl) h12482 ?_
       refine WC.skip ?_
       refine WX.next ?_
       refine WC.seq ?_
       refine WC.block ?_
       refine WC.seq ?_
       refine WC.region ?_
       refine seg 2 [] [1, 3, 6, 8, 9, 10, 38, 39, 42, 43] [(1, (iv p1)), (3, (pt g12072)), (6, (pt g12076)), (8, (pt g12103)), (9, (iv x12382)), (10, (iv x12472)), (38, (iv p2)), (39, (iv x12382)), (42, (iv p1)), (43, (iv x12472))] [] (fun fb => by kernel_rfl) rfl trivial ?_
       refine WL.done rfl ?_
       refine WX.next ?_
       obtain ⟨h12503, hl12481⟩ := as_some hl12481
       obtain ⟨h12504, hl12481⟩ := as_some hl12481
       obtain ⟨h12505, hl12481⟩ := as_some hl12481
       refine WC.regionD ([(1, ⟨g12103, 2, none⟩, (.slice A12469 l12471.length c12470)), (3, ⟨g12072, 2, none⟩, (.slice A_p0_Cells p0.Cells.length c_p0_Cells)), (6, ⟨g12072, 1, none⟩, (iv p0.Height)), (9, ⟨g12072, 0, none⟩, (iv p0.Width)), (13, ⟨g12072, 0, none⟩, (iv p0.Width)), (17, ((adr A_p0_Cells).add ((w64 ((w64 ((Int.tmod x12382 p0.Height) * p0.Width)) + (Int.tmod x12472 p0.Width))).toNat * 1)), (iv (rdD p0.Cells (w64 ((w64 ((Int.tmod x12382 p0.Height) * p0.Width)) + (Int.tmod x12472 p0.Width))) 0)))], [0, 1, 2, 3, 4, 5, 6, 7, 8, 9, 10, 11, 12, 13, 14, 15, 16, 17, 20], [[], [0], [], [2], [], [], [5], [4, 5, 6], [], [8], [4, 5, 6, 7, 8, 9], [], [], [12], [11, 12, 13], [4, 5, 6, 7, 8, 9, 10, 11, 12, 13, 14], [2, 3, 4, 5, 6, 7, 8, 9, 10, 11, 12, 13, 14, 15], [2, 3, 4, 5, 6, 7, 8, 9, 10, 11, 12, 13, 14, 15, 16], [2, 3, 4, 5, 6, 7, 8, 9, 10, 11, 12, 13, 14, 15, 16, 17], [0, 1, 2, 3, 4, 5, 6, 7, 8, 9, 10, 11, 12, 13, 14, 15, 16, 17, 18], [0, 1, 2, 3, 4, 5, 6, 7, 8, 9, 10, 11, 12, 13, 14, 15, 16, 17, 18, 19], [0, 1, 2, 3, 4, 5, 6, 7, 8, 9, 10, 11, 12, 13, 14, 15, 16, 17, 18, 19, 20]]) [[0, 1, 2, 3, 4, 5, 6, 7, 8, 9, 10, 11, 12, 13, 14, 15, 16, 17, 18, 19, 20, 21]] (by kernel_rfl) (by kernel_rfl) (NoPanic.block (NoPanic.seq (NoPanic.seq (NoPanic.block (NoPanic.block (NoPanic.seq (NoPanic.seq (NoPanic.block (NoPanic.seq (NoPanic.body)))))))))) ?_
       have hS12499 := hS12480.drew
       revert hS12499
       generalize World.drew w12479 = w12498
       intro hS12499
       refine ⟨⟨hS12499.cell 2 rfl 2 rfl, hS12499.cell 0 rfl 2 rfl, hS12499.cell 0 rfl 1 rfl, hS12499.cell 0 rfl 0 rfl, hS12499.cell 0 rfl 0 rfl, rowR.cell (hS12499.rd 0).1 0 h12505.1 h12505.2 0 rfl, trivial⟩, forallC ?_ (forallN)⟩
       refine segF 18 [.v (.slice A12469 l12471.length c12470), .v (.slice A_p0_Cells p0.Cells.length c_p0_Cells), .v (iv p0.Height), .v (iv p0.Width), .v (iv p0.Width), .v (iv (rdD p0.Cells (w64 ((w64 ((Int.tmod x12382 p0.Height) * p0.Width)) + (Int.tmod x12472 p0.Width))) 0))] [1, 3, 6, 8, 9, 38, 39, 42, 43, 47, 63] [(1, (iv p1)), (3, (pt g12072)), (6, (pt g12076)), (8, (pt g12103)), (9, (iv x12382)), (38, (iv p2)), (39, (iv x12382)), (42, (iv p1)), (43, (iv x12472)), (47, (.slice A12469 l12471.length c12470)), (63, (iv (rdD p0.Cells (w64 ((w64 ((Int.tmod x12382 p0.Height) * p0.Width)) + (Int.tmod x12472 p0.Width))) 0)))] [.ne p0.Height, .ne p0.Width, .idx A_p0_Cells (w64 ((w64 ((Int.tmod x12382 p0.Height) * p0.Width)) + (Int.tmod x12472 p0.Width))) p0.Cells.length] [0, 1, 2, 3, 4, 5] [(1, ⟨g12103, 2, none⟩, (.slice A12469 l12471.length c12470)), (3, ⟨g12072, 2, none⟩, (.slice A_p0_Cells p0.Cells.length c_p0_Cells)), (6, ⟨g12072, 1, none⟩, (iv p0.Height)), (9, ⟨g12072, 0, none⟩, (iv p0.Width)), (13, ⟨g12072, 0, none⟩, (iv p0.Width)), (17, ((adr A_p0_Cells).add ((w64 ((w64 ((Int.tmod x12382 p0.Height) * p0.Width)) + (Int.tmod x12472 p0.Width))).toNat * 1)), (iv (rdD p0.Cells (w64 ((w64 ((Int.tmod x12382 p0.Height) * p0.Width)) + (Int.tmod x12472 p0.Width))) 0)))] (fun fb => by kernel_rfl) rfl ⟨h12503, h12504, rowR.adr (hS12499.rd 0).1 h12505.1 h12505.2, trivial⟩ rfl ?_
       refine WL.new hS12499 64 [] (fun g => (.slice (some ⟨g, 0, none⟩) 1 1)) (.cells #[(iv (rdD p0.Cells (w64 ((w64 ((Int.tmod x12382 p0.Height) * p0.Width)) + (Int.tmod x12472 p0.Width))) 0))] 3 (0, 0)) [] (fun fb g => by kernel_rfl) trivial (fun g12506 w12507 hS12508 => ?_)
       refine ⟨⟨hS12508.cell 3 rfl 2 rfl, trivial⟩, ?_⟩
       have hS12510 : St NoS w w12507 [rowR encInt A_p0_Cells c_p0_Cells p0.Cells] [rowO 3 encInt (some ⟨g12506, 0, none⟩) 1 [(rdD p0.Cells (w64 ((w64 ((Int.tmod x12382 p0.Height) * p0.Width)) + (Int.tmod x12472 p0.Width))) 0)], blk g12072 (.cells #[(iv p0.Width), (iv p0.Height), (.slice A_p0_Cells p0.Cells.length c_p0_Cells)] 38 (0, 0)), blk g12076 (.cells #[(iv 0), (iv 0), (.slice none 0 0)] 38 (0, 0)), blk g12103 (.cells #[(iv p1), (iv p2), (.slice A12469 l12471.length c12470)] 38 (0, 0)), rowO 3 encInt A12469 c12470 l12471] := hS12508.map1 0 _ (fun h => rowO.ofBlk h rfl (Nat.le_of_ble_eq_true (by kernel_rfl))) (fun _ h => by obtain ⟨_, h1, h2⟩ := h; injection h1 with h1; subst h1; exact h2) [1, 2, 3, 4] (by decide) (by decide)
       obtain ⟨h12511, hl12481⟩ := as_some hl12481
       refine WL.append hS12510 4 (d := 65) (tS := 36) (z := (iv 0)) (bytes := 8) (c2 := 1) rfl (fun fb => by kernel_rfl) (rowO.rd (hS12510.own 0).1) (by kernel_rfl) (by kernel_rfl) rfl (by decide) h12511 (by decide) [0, 1, 2, 3] (by decide) (by decide) (fun A12512 c12513 w12514 hS12515 => ?_)
       refine ⟨trivial, ?_⟩
       refine seg 21 [] [1, 3, 6, 8, 9, 38, 39, 42, 43, 65, 66] [(1, (iv p1)), (3, (pt g12072)), (6, (pt g12076)), (8, (pt g12103)), (9, (iv x12382)), (38, (iv p2)), (39, (iv x12382)), (42, (iv p1)), (43, (iv x12472)), (65, (.slice A12512 (l12471 ++ [(rdD p0.Cells (w64 ((w64 ((Int.tmod x12382 p0.Height) * p0.Width)) + (Int.tmod x12472 p0.Width))) 0)]).length c12513)), (66, (.pointer (some ⟨g12103, 2, none⟩)))] [] (fun fb => by kernel_rfl) rfl trivial ?_
       refine WL.store hS12515 4 rfl [(2, (.slice A12512 (l12471 ++ [(rdD p0.Cells (w64 ((w64 ((Int.tmod x12382 p0.Height) * p0.Width)) + (Int.tmod x12472 p0.Width))) 0)]).length c12513))] #[(iv p1), (iv p2), (.slice A12512 (l12471 ++ [(rdD p0.Cells (w64 ((w64 ((Int.tmod x12382 p0.Height) * p0.Width)) + (Int.tmod x12472 p0.Width))) 0)]).length c12513)] (fun fb => by kernel_rfl) (by kernel_rfl) rfl [0, 1, 2, 3] (by decide) (by decide) (fun w12516 hS12517 => ?_)
       refine ⟨trivial, ?_⟩
       refine WL.done rfl ?_
       refine WX.blockN (WX.next ?_)
       refine WC.region ?_
       refine seg 2 [] [1, 3, 6, 8, 9, 38, 39, 42, 43] [(1, (iv p1)), (3, (pt g12072)), (6, (pt g12076)), (8, (pt g12103)), (9, (iv x12382)), (38, (iv p2)), (39, (iv x12382)), (42, (iv p1)), (43, (iv (w64 (x12472 + 1))))] [] (fun fb => by kernel_rfl) rfl trivial ?_
       refine WL.done rfl ?_
       exact WX.again k12478 (Nat.lt_succ_self _) ((l12471 ++ [(rdD p0.Cells (w64 ((w64 ((Int.tmod x12382 p0.Height) * p0.Width)) + (Int.tmod x12472 p0.Width))) 0)], w64 (x12472 + 1)), A12512, c12513) [1, 3, 6, 8, 9, 38, 39, 42, 43] rfl ⟨(hS12517.subR [0]).sub [3, 4, 0, 1] (by decide), hl12481⟩
      refine WC.condF2 (fun fb => by kernel_rfl) h12482 ?_
      refine WC.exit ?_
      injection hl12481 with hl12481
      exact WX.thenX (WX.thenX (WX.blockHere (WX.to Kx12476 (l12471, A12469, c12470) [1, 3, 6, 8, 38, 39] rfl ⟨(hS12480.subR [0]).sub [0, 1, 2, 3] (by decide), hl12481.symm⟩)))
    rintro ⟨y12521, A12473, c12474⟩ w12518 ⟨hS12519, hq12520⟩
    subst hq12520
    refine WX.blockN (WX.next ?_)
    refine WC.region ?_
    refine seg 2 [] [1, 3, 6, 8, 38, 39] [(1, (iv p1)), (3, (pt g12072)), (6, (pt g12076)), (8, (pt g12103)), (38, (iv p2)), (39, (iv (w64 (x12382 + 1))))] [] (fun fb => by kernel_rfl) rfl trivial ?_
    refine WL.done rfl ?_
    exact WX.again k12388 (Nat.lt_succ_self _) ((x12476, w64 (x12382 + 1)), A12473, c12474) [1, 3, 6, 8, 38, 39] rfl ⟨(hS12519.subR [0]).sub [0, 1, 2, 3] (by decide), hl12391⟩
   refine WC.condF2 (fun fb => by kernel_rfl) h12392 ?_
   refine WC.exit ?_
   injection hl12391 with hl12391
   exact WX.thenX (WX.thenX (WX.blockHere (WX.to Kx12386 (l12381, A12379, c12380) [6, 8] rfl ⟨(hS12390.subR [0]).sub [1, 2, 3] (by decide), hl12391.symm⟩)))
 rintro ⟨y12525, A12383, c12384⟩ w12522 ⟨hS12523, hq12524⟩
 subst hq12524
 refine WX.next ?_
 refine WC.seq ?_
 refine WC.region ?_
 refine seg 1 [.v (iv p1), .v (iv p2), .v (.slice A12383 x12386.length c12384)] [6, 69] [(6, (pt g12076)), (69, (.agg #[(iv p1), (iv p2), (.slice A12383 x12386.length c12384)]))] [.cell ⟨g12103, 0, none⟩ (iv p1), .cell ⟨g12103, 1, none⟩ (iv p2), .cell ⟨g12103, 2, none⟩ (.slice A12383 x12386.length c12384)] (fun fb => by kernel_rfl) rfl ⟨hS12523.cell 1 rfl 0 rfl, hS12523.cell 1 rfl 1 rfl, hS12523.cell 1 rfl 2 rfl, trivial⟩ ?_
 refine WL.store hS12523 0 rfl [(0, (iv p1)), (1, (iv p2)), (2, (.slice A12383 x12386.length c12384))] #[(iv p1), (iv p2), (.slice A12383 x12386.length c12384)] (fun fb => by kernel_rfl) (by kernel_rfl) rfl [1, 2] (by decide) (by decide) (fun w12526 hS12527 => ?_)
 refine ⟨trivial, ?_⟩
 refine seg 3 [] [6, 7] [(6, (pt g12076)), (7, (iv 0))] [] (fun fb => by kernel_rfl) rfl trivial ?_
 refine WL.done rfl ?_
 refine WX.next ?_
 refine WC.ret ?_
 injection hf with hf
 subst hf
 exact WX.ret_ [.v (iv p1), .v (iv p2), .v (.slice A12383 x12386.length c12384)] (.tuple #[(.agg #[(iv p1), (iv p2), (.slice A12383 x12386.length c12384)]), (iv 0)]) [.cell ⟨g12076, 0, none⟩ (iv p1), .cell ⟨g12076, 1, none⟩ (iv p2), .cell ⟨g12076, 2, none⟩ (.slice A12383 x12386.length c12384)] (fun fb => by kernel_rfl) ⟨hS12527.cell 0 rfl 0 rfl, hS12527.cell 0 rfl 1 rfl, hS12527.cell 0 rfl 2 rfl, trivial⟩ ⟨_, rfl, A12383, c12384, rfl, (hS12527.sub [2] (by decide)).noR⟩
theorem top_sameInts_calls (k : Nat) (p0 : List Int) (p1 : List Int) (A_p0 : Option Addr) (c_p0 : Nat) (A_p1 : Option Addr) (c_p1 : Nat) (r : Bool) (w : World) (hR0 : RO NoS w (rowR encInt A_p0 c_p0 p0)) (hR1 : RO NoS w (rowR encInt A_p1 c_p1 p1)) (hf : top_sameInts k p0 p1 = some r) :
  CallsR Try.prog 52 #[(.slice A_p0 p0.length c_p0), (.slice A_p1 p1.length c_p1)] w (fun v w' => v = (.bool r) ∧ Keeps NoS w w') := by
 have hS : St NoS w w [rowR encInt A_p0 c_p0 p0, rowR encInt A_p1 c_p1 p1] [] := St.init (ro_cons hR0 (ro_cons hR1 (ro_nil _ _)))
 refine enter 26 Try.func52 rfl Try.ntmps52 rfl ?_
 unfold top_sameInts at hf
 refine WC.seq ?_
 refine WC.region ?_
 refine seg 1 [] [0, 1] [(0, (.slice A_p0 p0.length c_p0)), (1, (.slice A_p1 p1.length c_p1))] [] (fun fb => by kernel_rfl) rfl trivial ?_
 refine WL.done rfl ?_
 refine WX.next ?_
 refine WC.seq ?_
 refine WC.seq ?_
 refine WC.region ?_
 refine seg 5 [] [0, 1, 10] [(0, (.slice A_p0 p0.length c_p0)), (1, (.slice A_p1 p1.length c_p1)), (10, (.bool ((p0.length : Int) != (p1.length : Int))))] [] (fun fb => by kernel_rfl) rfl trivial ?_
 refine WL.done rfl ?_
 refine WX.next ?_
 rcases br_some hf with ⟨h12603, hf⟩ | ⟨h12603, hf⟩
 ·refine WC.condT2 (fun fb => by kernel_rfl) h12603 ?_
  refine WC.seq ?_
  refine WC.region ?_
  refine seg 1 [] [4] [(4, (.bool false))] [] (fun fb => by kernel_rfl) rfl trivial ?_
  refine WL.done rfl ?_
  refine WX.next ?_
  refine WC.ret ?_
  injection hf with hf
  subst hf
  exact WX.thenR (WX.ret_ [] (.bool false) [] (fun fb => by kernel_rfl) trivial ⟨_, rfl, rfl, hS.keep⟩)
 refine WC.condF2 (fun fb => by kernel_rfl) h12603 ?_
 refine WC.skip ?_
 refine WX.next ?_
 refine WC.seq ?_
 refine WC.seq ?_
 refine WC.region ?_
 refine seg 1 [] [0, 1, 5] [(0, (.slice A_p0 p0.length c_p0)), (1, (.slice A_p1 p1.length c_p1)), (5, (iv 0))] [] (fun fb => by kernel_rfl) rfl trivial ?_
 refine WL.done rfl ?_
 refine WX.next ?_
 obtain ⟨x12626, hx12627, hf⟩ := bind_some hf
 refine WC.cutN (T := Unit) (fun t => []) (fun t w1 => St NoS w w1 [rowR encInt A_p0 c_p0 p0, rowR encInt A_p1 c_p1 p1] [] ∧ x12626 = .inr t) (fun Kx12626 => ?_) ?_
 ·
  refine WC.block ?_
  refine WC.loop (T := Int) (fun t => [(0, (.slice A_p0 p0.length c_p0)), (1, (.slice A_p1 p1.length c_p1)), (5, (iv t))]) (fun n t w1 => St NoS w w1 [rowR encInt A_p0 c_p0 p0, rowR encInt A_p1 c_p1 p1] [] ∧ top_sameInts.l0 n t p0 p1 = some x12626) k 0 [0, 1, 5] rfl ⟨(hS.subR [0, 1]).sub [] (by decide), hx12627⟩ ?_
  rintro k12628 x12625 w12629 ⟨hS12630, hl12631⟩
  cases k12628 with
  | zero => rw [top_sameInts.l0] at hl12631; cases hl12631
  | succ k12628 =>
   rw [top_sameInts.l0] at hl12631
   refine WC.seq ?_
   refine WC.seq ?_
   refine WC.region ?_
   refine seg 4 [] [0, 1, 5, 14] [(0, (.slice A_p0 p0.length c_p0)), (1, (.slice A_p1 p1.length c_p1)), (5, (iv x12625)), (14, (.bool (decide (x12625 < (p0.length : Int)))))] [] (fun fb => by kernel_rfl) rfl trivial ?_
   refine WL.done rfl ?_
   refine WX.next ?_
   rcases br_some hl12631 with ⟨h12632, hl12631⟩ | ⟨h12632, hl12631⟩
   ·refine WC.condT2 (fun fb => by kernel_rfl) h12632 ?_
    refine WC.skip ?_
    refine WX.next ?_
    refine WC.seq ?_
    refine WC.block ?_
    refine WC.seq ?_
    obtain ⟨h12639, hl12631⟩ := as_some hl12631
    obtain ⟨h12640, hl12631⟩ := as_some hl12631
    refine WC.regionD ([(3, ((adr A_p0).add ((x12625).toNat * 1)), (iv (rdD p0 x12625 0))), (7, ((adr A_p1).add ((x12625).toNat * 1)), (iv (rdD p1 x12625 0)))], [0, 1, 2, 3, 4, 5, 6, 7, 8], [[], [], [0, 1], [0, 1, 2], [], [], [4, 5], [4, 5, 6], [0, 1, 2, 3, 4, 5, 6, 7]]) [[0, 1, 2, 3, 4, 5, 6, 7, 8]] (by kernel_rfl) (by kernel_rfl) (NoPanic.seq (NoPanic.block (NoPanic.seq (NoPanic.seq (NoPanic.block (NoPanic.seq (NoPanic.body))))))) ?_
    have hS12636 := hS12630.drew
    revert hS12636
    generalize World.drew w12629 = w12635
    intro hS12636
    refine ⟨⟨rowR.cell (hS12636.rd 0).1 0 h12639.1 h12639.2 0 rfl, rowR.cell (hS12636.rd 1).1 0 h12640.1 h12640.2 0 rfl, trivial⟩, forallC ?_ (forallN)⟩
    refine segF 9 [.v (iv (rdD p0 x12625 0)), .v (iv (rdD p1 x12625 0))] [0, 1, 5, 25] [(0, (.slice A_p0 p0.length c_p0)), (1, (.slice A_p1 p1.length c_p1)), (5, (iv x12625)), (25, (.bool ((rdD p0 x12625 0) != (rdD p1 x12625 0))))] [.idx A_p0 x12625 p0.length, .idx A_p1 x12625 p1.length] [0, 1] [(3, ((adr A_p0).add ((x12625).toNat * 1)), (iv (rdD p0 x12625 0))), (7, ((adr A_p1).add ((x12625).toNat * 1)), (iv (rdD p1 x12625 0)))] (fun fb => by kernel_rfl) rfl ⟨rowR.adr (hS12636.rd 0).1 h12639.1 h12639.2, rowR.adr (hS12636.rd 1).1 h12640.1 h12640.2, trivial⟩ rfl ?_
    refine WL.done rfl ?_
    refine WX.next ?_
    rcases br_some hl12631 with ⟨h12641, hl12631⟩ | ⟨h12641, hl12631⟩
    ·refine WC.condT2 (fun fb => by kernel_rfl) h12641 ?_
     refine WC.seq ?_
     refine WC.region ?_
     refine seg 1 [] [4] [(4, (.bool false))] [] (fun fb => by kernel_rfl) rfl trivial ?_
     refine WL.done rfl ?_
     refine WX.next ?_
     refine WC.ret ?_
     injection hl12631 with hl12631
     subst hl12631
     injection hf with hf
     subst hf
     exact WX.blockR (WX.thenR (WX.thenR (WX.blockR (WX.thenR (WX.ret_ [] (.bool false) [] (fun fb => by kernel_rfl) trivial ⟨_, rfl, rfl, hS12636.keep⟩)))))
    refine WC.condF2 (fun fb => by kernel_rfl) h12641 ?_
    refine WC.skip ?_
    refine WX.blockN (WX.next ?_)
    refine WC.region ?_
    refine seg 3 [] [0, 1, 5] [(0, (.slice A_p0 p0.length c_p0)), (1, (.slice A_p1 p1.length c_p1)), (5, (iv (w64 (x12625 + 1))))] [] (fun fb => by kernel_rfl) rfl trivial ?_
    refine WL.done rfl ?_
    exact WX.again k12628 (Nat.lt_succ_self _) (w64 (x12625 + 1)) [0, 1, 5] rfl ⟨(hS12636.subR [0, 1]).sub [] (by decide), hl12631⟩
   refine WC.condF2 (fun fb => by kernel_rfl) h12632 ?_
   refine WC.exit ?_
   injection hl12631 with hl12631
   exact WX.thenX (WX.thenX (WX.blockHere (WX.to Kx12626 () [] rfl ⟨(hS12630.subR [0, 1]).sub [] (by decide), hl12631.symm⟩)))
 rintro y12645 w12642 ⟨hS12643, hq12644⟩
 subst hq12644
 have hf := sum_inr hf
 refine WX.next ?_
 refine WC.seq ?_
 refine WC.region ?_
 refine seg 1 [] [4] [(4, (.bool true))] [] (fun fb => by kernel_rfl) rfl trivial ?_
 refine WL.done rfl ?_
 refine WX.next ?_
 refine WC.ret ?_
 injection hf with hf
 subst hf
 exact WX.ret_ [] (.bool true) [] (fun fb => by kernel_rfl) trivial ⟨_, rfl, rfl, hS12643.keep⟩
theorem tile_Fits_calls (k : Nat) (p0 : List Tile) (p1 : Pattern) (A_p0 : Option Addr) (c_p0 : Nat) (A_p1_Cells : Option Addr) (c_p1_Cells : Nat) (r : Bool) (w : World) (hR0 : RO NoS w (rowR enc_Tile A_p0 c_p0 p0)) (hR1 : RO NoS w (rowR encInt A_p1_Cells c_p1_Cells p1.Cells)) (hf : tile_Fits k p0 p1 = some r) :
  CallsR Try.prog 53 #[(.slice A_p0 p0.length c_p0), (.agg #[(iv p1.Width), (iv p1.Height), (.slice A_p1_Cells p1.Cells.length c_p1_Cells)])] w (fun v w' => v = (.bool r) ∧ Keeps NoS w w') := by
 have hS : St NoS w w [rowR enc_Tile A_p0 c_p0 p0, rowR encInt A_p1_Cells c_p1_Cells p1.Cells] [] := St.init (ro_cons hR0 (ro_cons hR1 (ro_nil _ _)))
 refine enter 13 Try.func53 rfl Try.ntmps53 rfl ?_
 unfold tile_Fits at hf
 refine WC.seq ?_
 refine WC.region ?_
 refine WL.new hS 3 [] (fun g => (.pointer (some ⟨g, 0, none⟩))) (.cells #[(iv p1.Width), (iv p1.Height), (.slice A_p1_Cells p1.Cells.length c_p1_Cells)] 38 (0, 0)) [] (fun fb g => by kernel_rfl) trivial (fun g12678 w12679 hS12680 => ?_)
 refine ⟨trivial, ?_⟩
 refine seg 2 [] [0, 3] [(0, (.slice A_p0 p0.length c_p0)), (3, (pt g12678))] [] (fun fb => by kernel_rfl) rfl trivial ?_
 refine WL.done rfl ?_
 refine WX.next ?_
 refine WC.seq ?_
 refine WC.region ?_
 refine seg 2 [.v (iv p1.Width), .v (iv p1.Height), .v (.slice A_p1_Cells p1.Cells.length c_p1_Cells)] [0, 3, 5, 6] [(0, (.slice A_p0 p0.length c_p0)), (3, (pt g12678)), (5, (.slice A_p0 p0.length c_p0)), (6, (.agg #[(iv p1.Width), (iv p1.Height), (.slice A_p1_Cells p1.Cells.length c_p1_Cells)]))] [.cell ⟨g12678, 0, none⟩ (iv p1.Width), .cell ⟨g12678, 1, none⟩ (iv p1.Height), .cell ⟨g12678, 2, none⟩ (.slice A_p1_Cells p1.Cells.length c_p1_Cells)] (fun fb => by kernel_rfl) rfl ⟨hS12680.cell 0 rfl 0 rfl, hS12680.cell 0 rfl 1 rfl, hS12680.cell 0 rfl 2 rfl, trivial⟩ ?_
 obtain ⟨t12682, ht12683, hf⟩ := bind_some hf
 refine WL.call (some 7) 48 #[(.slice A_p0 p0.length c_p0), (.agg #[(iv p1.Width), (iv p1.Height), (.slice A_p1_Cells p1.Cells.length c_p1_Cells)])] (fun fb => by kernel_rfl) (tile_of_calls _ p0 p1 A_p0 c_p0 A_p1_Cells c_p1_Cells t12682 _ (hS12680.rd 0) (hS12680.rd 1) ht12683) (fun v w12684 hR12685 => ?_)
 obtain ⟨rfl, hk_⟩ := hR12685
 have hS12686 := hS12680.keepN hk_
 refine ⟨trivial, ?_⟩
 refine seg 4 [] [0, 3, 8] [(0, (.slice A_p0 p0.length c_p0)), (3, (pt g12678)), (8, (.bool t12682))] [] (fun fb => by kernel_rfl) rfl trivial ?_
 obtain ⟨x12693, hx12694, hf⟩ := bind_some hf
 refine WL.cutW (T := Bool) 8 (fun t => [(12, (.bool t))]) (fun t w1 => (St NoS w w1 [rowR enc_Tile A_p0 c_p0 p0, rowR encInt A_p1_Cells c_p1_Cells p1.Cells] [] ∧ x12693 = t) ∧ CellsOK [] w1) (fun K => ?_) ?_
 ·
  rcases br_some hx12694 with ⟨h12695, hx12694⟩ | ⟨h12695, hx12694⟩
  ·
   refine WL.setB 8 h12695 rfl ?_
   refine seg 6 [.v (iv p1.Width), .v (iv p1.Height), .v (.slice A_p1_Cells p1.Cells.length c_p1_Cells)] [8, 9, 10] [(8, (.bool true)), (9, (.slice A_p0 p0.length c_p0)), (10, (.agg #[(iv p1.Width), (iv p1.Height), (.slice A_p1_Cells p1.Cells.length c_p1_Cells)]))] [.cell ⟨g12678, 0, none⟩ (iv p1.Width), .cell ⟨g12678, 1, none⟩ (iv p1.Height), .cell ⟨g12678, 2, none⟩ (.slice A_p1_Cells p1.Cells.length c_p1_Cells)] (fun fb => by kernel_rfl) rfl ⟨hS12686.cell 0 rfl 0 rfl, hS12686.cell 0 rfl 1 rfl, hS12686.cell 0 rfl 2 rfl, trivial⟩ ?_
   obtain ⟨t12696, ht12697, hx12694⟩ := bind_some hx12694
   refine WL.call (some 11) 49 #[(.slice A_p0 p0.length c_p0), (.agg #[(iv p1.Width), (iv p1.Height), (.slice A_p1_Cells p1.Cells.length c_p1_Cells)]), (.bool false)] (fun fb => by kernel_rfl) (tile_joins_calls _ p0 p1 false A_p0 c_p0 A_p1_Cells c_p1_Cells t12696 _ (hS12686.rd 0) (hS12686.rd 1) ht12697) (fun v w12698 hR12699 => ?_)
   obtain ⟨rfl, hk_⟩ := hR12699
   have hS12700 := hS12686.keepN hk_
   refine ⟨trivial, ?_⟩
   refine seg 8 [] [12] [(12, (.bool t12696))] [] (fun fb => by kernel_rfl) rfl trivial ?_
   injection hx12694 with hx12694
   exact WL.to K t12696 [12] rfl ⟨⟨(hS12700.subR [0, 1]).sub [] (by decide), hx12694.symm⟩, trivial⟩
  refine WL.setB 8 h12695 rfl ?_
  refine seg 8 [] [12] [(12, (.bool false))] [] (fun fb => by kernel_rfl) rfl trivial ?_
  injection hx12694 with hx12694
  exact WL.to K false [12] rfl ⟨⟨(hS12686.subR [0, 1]).sub [] (by decide), hx12694.symm⟩, trivial⟩
 rintro y12701 w12703 ⟨⟨hS12704, hq12702⟩, hF12705⟩
 subst hq12702
 refine seg 9 [] [4] [(4, (.bool x12693))] [] (fun fb => by kernel_rfl) rfl trivial ?_
 refine WL.done rfl ?_
 refine WX.next ?_
 refine WC.ret ?_
 injection hf with hf
 subst hf
 exact WX.ret_ [] (.bool x12693) [] (fun fb => by kernel_rfl) trivial ⟨_, rfl, rfl, hS12704.keep⟩
theorem top_lives_calls (k : Nat)   (r : Bool) (w : World)  (hf : top_lives k = some r) :
  CallsR Try.prog 28 #[] w (fun v w' => v = (.bool r) ∧ Keeps NoS w w') := by
 have hS : St NoS w w [] [] := St.init (ro_nil _ _)
 refine enter 36 Try.func28 rfl Try.ntmps28 rfl ?_
 unfold top_lives at hf
 refine WC.seq ?_
 refine WC.region ?_
 refine seg 1 [] [] [] [] (fun fb => by kernel_rfl) rfl trivial ?_
 refine WL.done rfl ?_
 refine WX.next ?_
 refine WC.seq ?_
 refine WC.region ?_
 refine WL.new hS 4 [] (fun g => (.slice (some ⟨g, 0, none⟩) 4 4)) (.cells #[(iv 0), (iv 1), (iv 1), (iv 0)] 3 (0, 0)) [] (fun fb g => by kernel_rfl) trivial (fun g12061 w12062 hS12063 => ?_)
 refine ⟨trivial, ?_⟩
 have hS12065 : St NoS w w12062 [] [rowO 3 encInt (some ⟨g12061, 0, none⟩) 4 [0, 1, 1, 0]] := hS12063.map1 0 _ (fun h => rowO.ofBlk h rfl (Nat.le_of_ble_eq_true (by kernel_rfl))) (fun _ h => by obtain ⟨_, h1, h2⟩ := h; injection h1 with h1; subst h1; exact h2) [] (by decide) (by decide)
 refine seg 2 [] [5] [(5, (.agg #[(iv 2), (iv 2), (.slice (some ⟨g12061, 0, none⟩) [0, 1, 1, 0].length 4)]))] [] (fun fb => by kernel_rfl) rfl trivial ?_
 refine WL.new hS12065 1 [] (fun g => (.pointer (some ⟨g, 0, none⟩))) (.cells #[(iv 0), (iv 0), (.slice none 0 0)] 38 (0, 0)) [] (fun fb g => by kernel_rfl) trivial (fun g12066 w12067 hS12068 => ?_)
 refine ⟨trivial, ?_⟩
 refine WL.store hS12068 0 rfl [(0, (iv 2)), (1, (iv 2)), (2, (.slice (some ⟨g12061, 0, none⟩) [0, 1, 1, 0].length 4))] #[(iv 2), (iv 2), (.slice (some ⟨g12061, 0, none⟩) [0, 1, 1, 0].length 4)] (fun fb => by kernel_rfl) (by kernel_rfl) rfl [1] (by decide) (by decide) (fun w12070 hS12071 => ?_)
 refine ⟨trivial, ?_⟩
 refine WL.done rfl ?_
 refine WX.next ?_
 refine WC.seq ?_
 refine WC.region ?_
 refine seg 1 [.v (iv 2), .v (iv 2), .v (.slice (some ⟨g12061, 0, none⟩) [0, 1, 1, 0].length 4)] [1, 7] [(1, (pt g12066)), (7, (.agg #[(iv 2), (iv 2), (.slice (some ⟨g12061, 0, none⟩) [0, 1, 1, 0].length 4)]))] [.cell ⟨g12066, 0, none⟩ (iv 2), .cell ⟨g12066, 1, none⟩ (iv 2), .cell ⟨g12066, 2, none⟩ (.slice (some ⟨g12061, 0, none⟩) [0, 1, 1, 0].length 4)] (fun fb => by kernel_rfl) rfl ⟨hS12071.cell 0 rfl 0 rfl, hS12071.cell 0 rfl 1 rfl, hS12071.cell 0 rfl 2 rfl, trivial⟩ ?_
 obtain ⟨t12528, ht12529, hf⟩ := bind_some hf
 refine WL.call (some 8) 50 #[(.agg #[(iv 2), (iv 2), (.slice (some ⟨g12061, 0, none⟩) [0, 1, 1, 0].length 4)]), (iv 3), (iv 1)] (fun fb => by kernel_rfl) (tile_Repeat_calls _ (Pattern.mk 2 2 [0, 1, 1, 0]) 3 1 (some ⟨g12061, 0, none⟩) 4 t12528 _ (hS12071.ow 1).ofO ht12529) (fun v w12530 hR12531 => ?_)
 obtain ⟨A12533, c12534, rfl, hk_⟩ := hR12531
 have hS12532 : St NoS w w12530 [] [rowO 3 encInt A12533 c12534 t12528.1.Cells, blk g12066 (.cells #[(iv 2), (iv 2), (.slice (some ⟨g12061, 0, none⟩) [0, 1, 1, 0].length 4)] 38 (0, 0)), rowO 3 encInt (some ⟨g12061, 0, none⟩) 4 [0, 1, 1, 0]] := hS12071.call hk_ [] [0, 1] (fun g hg => hg.elim) (by simp) (by decide)
 refine ⟨trivial, ?_⟩
 refine seg 5 [] [1, 9, 10] [(1, (pt g12066)), (9, (.agg #[(iv t12528.1.Width), (iv t12528.1.Height), (.slice A12533 t12528.1.Cells.length c12534)])), (10, (iv t12528.2))] [] (fun fb => by kernel_rfl) rfl trivial ?_
 refine WL.new hS12532 2 [] (fun g => (.pointer (some ⟨g, 0, none⟩))) (.cells #[(iv 0), (iv 0), (.slice none 0 0)] 38 (0, 0)) [] (fun fb g => by kernel_rfl) trivial (fun g12535 w12536 hS12537 => ?_)
 refine ⟨trivial, ?_⟩
 refine WL.store hS12537 0 rfl [(0, (iv t12528.1.Width)), (1, (iv t12528.1.Height)), (2, (.slice A12533 t12528.1.Cells.length c12534))] #[(iv t12528.1.Width), (iv t12528.1.Height), (.slice A12533 t12528.1.Cells.length c12534)] (fun fb => by kernel_rfl) (by kernel_rfl) rfl [1, 2, 3] (by decide) (by decide) (fun w12539 hS12540 => ?_)
 refine ⟨trivial, ?_⟩
 refine seg 8 [] [1, 2, 3] [(1, (pt g12066)), (2, (pt g12535)), (3, (iv t12528.2))] [] (fun fb => by kernel_rfl) rfl trivial ?_
 refine WL.done rfl ?_
 refine WX.next ?_
 refine WC.seq ?_
 obtain ⟨x12973, hx12974, hf⟩ := bind_some hf
 refine WC.cutN (T := Bool) (fun t => [(0, (.bool t))]) (fun t w1 => St NoS w w1 [] [] ∧ x12973 = t) (fun Kx12973 => ?_) ?_
 ·
  refine WC.regionD ([(1, ⟨g12066, 0, none⟩, (iv 2)), (1, ⟨g12066, 1, none⟩, (iv 2)), (1, ⟨g12066, 2, none⟩, (.slice (some ⟨g12061, 0, none⟩) [0, 1, 1, 0].length 4)), (16, ⟨g12535, 2, none⟩, (.slice A12533 t12528.1.Cells.length c12534)), (22, ⟨g12535, 0, none⟩, (iv t12528.1.Width)), (22, ⟨g12535, 1, none⟩, (iv t12528.1.Height)), (22, ⟨g12535, 2, none⟩, (.slice A12533 t12528.1.Cells.length c12534))], [1, 3, 6, 8, 9, 10, 11, 12, 13, 14, 15, 16, 19, 20, 22, 24, 25], [[], [], [0, 1], [0, 1, 2], [0, 1, 2, 3], [0, 1, 2, 3], [0, 1, 2, 3, 5], [0, 1, 2, 3, 4, 5, 6], [0, 1, 2, 3, 4, 5, 6, 7], [0, 1, 2, 3, 4, 5, 6, 7, 8], [0, 1, 2, 3, 4, 5, 6, 7, 8, 9], [0, 1, 2, 3, 4, 5, 6, 7, 8, 9, 10], [0, 1, 2, 3, 4, 5, 6, 7, 8, 9, 10, 11], [0, 1, 2, 3, 4, 5, 6, 7, 8, 9, 10, 11, 12], [0, 1, 2, 3, 4, 5, 6, 7, 8, 9, 10, 11, 12, 13], [0, 1, 2, 3, 4, 5, 6, 7, 8, 9, 10, 11, 12, 13, 14], [0, 1, 2, 3, 4, 5, 6, 7, 8, 9, 10, 11, 12, 13, 14, 15], [0, 1, 2, 3, 4, 5, 6, 7, 8, 9, 10, 11, 12, 13, 14], [0, 1, 2, 3, 4, 5, 6, 7, 8, 9, 10, 11, 12, 13, 14, 15, 16, 17], [0, 1, 2, 3, 4, 5, 6, 7, 8, 9, 10, 11, 12, 13, 14, 15, 16, 17, 18], [0, 1, 2, 3, 4, 5, 6, 7, 8, 9, 10, 11, 12, 13, 14, 15, 16, 17, 18, 19], [0, 1, 2, 3, 4, 5, 6, 7, 8, 9, 10, 11, 12, 13, 14, 15, 16, 17, 18, 19, 20], [0, 1, 2, 3, 4, 5, 6, 7, 8, 9, 10, 11, 12, 13, 14, 15, 16, 17, 18, 19, 20], [0, 1, 2, 3, 4, 5, 6, 7, 8, 9, 10, 11, 12, 13, 14, 15, 16, 17, 18, 19, 20, 21, 22], [0, 1, 2, 3, 4, 5, 6, 7, 8, 9, 10, 11, 12, 13, 14, 15, 16, 17, 18, 19, 20, 21, 22, 23], [0, 1, 2, 3, 4, 5, 6, 7, 8, 9, 10, 11, 12, 13, 14, 15, 16, 17, 18, 19, 20, 21, 22, 23, 24]]) [[1, 0, 2, 3, 4, 5, 6, 7, 8, 9, 10, 11, 12, 13, 14, 15, 16, 17, 18, 19, 20, 22, 21, 23, 24, 25], [1, 0, 2, 3, 5, 6, 4, 7, 8, 9, 10, 11, 12, 13, 14, 15, 16, 17, 18, 19, 20, 22, 21, 23, 24, 25]] (by kernel_rfl) (by kernel_rfl) (NoPanic.seq (NoPanic.body)) ?_
  have hS12976 := hS12540.drew
  revert hS12976
  generalize World.drew w12539 = w12975
  intro hS12976
  refine ⟨⟨hS12976.cell 2 rfl 0 rfl, hS12976.cell 2 rfl 1 rfl, hS12976.cell 2 rfl 2 rfl, hS12976.cell 0 rfl 2 rfl, hS12976.cell 0 rfl 0 rfl, hS12976.cell 0 rfl 1 rfl, hS12976.cell 0 rfl 2 rfl, trivial⟩, forallC ?_ (forallC ?_ (forallN))⟩
  ·
   refine segF 1 [.v (iv 2), .v (iv 2), .v (.slice (some ⟨g12061, 0, none⟩) [0, 1, 1, 0].length 4)] [2, 3, 12] [(2, (pt g12535)), (3, (iv t12528.2)), (12, (.agg #[(iv 2), (iv 2), (.slice (some ⟨g12061, 0, none⟩) [0, 1, 1, 0].length 4)]))] [] [0, 1, 2] [(1, ⟨g12066, 0, none⟩, (iv 2)), (1, ⟨g12066, 1, none⟩, (iv 2)), (1, ⟨g12066, 2, none⟩, (.slice (some ⟨g12061, 0, none⟩) [0, 1, 1, 0].length 4))] (fun fb => by kernel_rfl) rfl trivial rfl ?_
   obtain ⟨t12977, ht12978, hx12974⟩ := bind_some hx12974
   refine WL.call (some 11) 51 #[] (fun fb => by kernel_rfl) (top_chess_calls t12977 _ ht12978) (fun v w12979 hR12980 => ?_)
   obtain ⟨A12982, c12983, rfl, hk_⟩ := hR12980
   have hS12981 : St NoS w w12979 [] [rowO 24 enc_Tile A12982 c12983 t12977, blk g12535 (.cells #[(iv t12528.1.Width), (iv t12528.1.Height), (.slice A12533 t12528.1.Cells.length c12534)] 38 (0, 0)), rowO 3 encInt A12533 c12534 t12528.1.Cells, blk g12066 (.cells #[(iv 2), (iv 2), (.slice (some ⟨g12061, 0, none⟩) [0, 1, 1, 0].length 4)] 38 (0, 0)), rowO 3 encInt (some ⟨g12061, 0, none⟩) 4 [0, 1, 1, 0]] := hS12976.call hk_ [] [0, 1, 2, 3] (fun g hg => hg.elim) (by simp) (by decide)
   refine ⟨⟨hS12981.cell 3 rfl 0 rfl, hS12981.cell 3 rfl 1 rfl, hS12981.cell 3 rfl 2 rfl, hS12981.cell 1 rfl 2 rfl, hS12981.cell 1 rfl 0 rfl, hS12981.cell 1 rfl 1 rfl, hS12981.cell 1 rfl 2 rfl, trivial⟩, ?_⟩
   obtain ⟨t12984, ht12985, hx12974⟩ := bind_some hx12974
   refine WL.call (some 13) 27 #[(.slice A12982 t12977.length c12983), (.agg #[(iv 2), (iv 2), (.slice (some ⟨g12061, 0, none⟩) [0, 1, 1, 0].length 4)])] (fun fb => by kernel_rfl) (tile_Repeats_calls _ t12977 (Pattern.mk 2 2 [0, 1, 1, 0]) A12982 c12983 (some ⟨g12061, 0, none⟩) 4 t12984 _ (hS12981.ow 0).ofO (hS12981.ow 4).ofO ht12985) (fun v w12986 hR12987 => ?_)
   obtain ⟨rfl, hk_⟩ := hR12987
   have hS12988 := hS12981.keepN hk_
   refine ⟨⟨hS12988.cell 1 rfl 2 rfl, hS12988.cell 1 rfl 0 rfl, hS12988.cell 1 rfl 1 rfl, hS12988.cell 1 rfl 2 rfl, trivial⟩, ?_⟩
   refine seg 4 [] [2, 3, 14] [(2, (pt g12535)), (3, (iv t12528.2)), (14, (.bool t12984))] [] (fun fb => by kernel_rfl) rfl trivial ?_
   obtain ⟨x13007, hx13008, hx12974⟩ := bind_some hx12974
   refine WL.cutW (T := Bool) 10 (fun t => [(2, (pt g12535)), (3, (iv t12528.2)), (20, (.bool t))]) (fun t w1 => (St NoS w w1 [] [blk g12535 (.cells #[(iv t12528.1.Width), (iv t12528.1.Height), (.slice A12533 t12528.1.Cells.length c12534)] 38 (0, 0)), rowO 3 encInt A12533 c12534 t12528.1.Cells] ∧ x13007 = t) ∧ CellsOK [] w1) (fun K => ?_) ?_
   ·
    rcases br_some hx13008 with ⟨h13009, hx13008⟩ | ⟨h13009, hx13008⟩
    ·
     refine WL.setB 14 h13009 rfl ?_
     obtain ⟨t13010, ht13011, hx13008⟩ := bind_some hx13008
     refine WL.call (some 15) 51 #[] (fun fb => by kernel_rfl) (top_chess_calls t13010 _ ht13011) (fun v w13012 hR13013 => ?_)
     obtain ⟨A13015, c13016, rfl, hk_⟩ := hR13013
     have hS13014 : St NoS w w13012 [] [rowO 24 enc_Tile A13015 c13016 t13010, rowO 24 enc_Tile A12982 c12983 t12977, blk g12535 (.cells #[(iv t12528.1.Width), (iv t12528.1.Height), (.slice A12533 t12528.1.Cells.length c12534)] 38 (0, 0)), rowO 3 encInt A12533 c12534 t12528.1.Cells, blk g12066 (.cells #[(iv 2), (iv 2), (.slice (some ⟨g12061, 0, none⟩) [0, 1, 1, 0].length 4)] 38 (0, 0)), rowO 3 encInt (some ⟨g12061, 0, none⟩) 4 [0, 1, 1, 0]] := hS12988.call hk_ [] [0, 1, 2, 3, 4] (fun g hg => hg.elim) (by simp) (by decide)
     refine ⟨⟨hS13014.cell 2 rfl 2 rfl, hS13014.cell 2 rfl 0 rfl, hS13014.cell 2 rfl 1 rfl, hS13014.cell 2 rfl 2 rfl, trivial⟩, ?_⟩
     refine WL.new hS13014 16 [] (fun g => (.slice (some ⟨g, 0, none⟩) 1 1)) (.cells #[(iv 0)] 3 (0, 0)) [] (fun fb g => by kernel_rfl) trivial (fun g13017 w13018 hS13019 => ?_)
     refine ⟨⟨hS13019.cell 3 rfl 2 rfl, hS13019.cell 3 rfl 0 rfl, hS13019.cell 3 rfl 1 rfl, hS13019.cell 3 rfl 2 rfl, trivial⟩, ?_⟩
     have hS13021 : St NoS w w13018 [] [rowO 3 encInt (some ⟨g13017, 0, none⟩) 1 [0], rowO 24 enc_Tile A13015 c13016 t13010, rowO 24 enc_Tile A12982 c12983 t12977, blk g12535 (.cells #[(iv t12528.1.Width), (iv t12528.1.Height), (.slice A12533 t12528.1.Cells.length c12534)] 38 (0, 0)), rowO 3 encInt A12533 c12534 t12528.1.Cells, blk g12066 (.cells #[(iv 2), (iv 2), (.slice (some ⟨g12061, 0, none⟩) [0, 1, 1, 0].length 4)] 38 (0, 0)), rowO 3 encInt (some ⟨g12061, 0, none⟩) 4 [0, 1, 1, 0]] := hS13019.map1 0 _ (fun h => rowO.ofBlk h rfl (Nat.le_of_ble_eq_true (by kernel_rfl))) (fun _ h => by obtain ⟨_, h1, h2⟩ := h; injection h1 with h1; subst h1; exact h2) [1, 2, 3, 4, 5, 6] (by decide) (by decide)
     refine seg 7 [] [2, 3, 14, 15, 17] [(2, (pt g12535)), (3, (iv t12528.2)), (14, (.bool true)), (15, (.slice A13015 t13010.length c13016)), (17, (.agg #[(iv 1), (iv 1), (.slice (some ⟨g13017, 0, none⟩) [0].length 1)]))] [] (fun fb => by kernel_rfl) rfl trivial ?_
     obtain ⟨t13022, ht13023, hx13008⟩ := bind_some hx13008
     refine WL.call (some 18) 27 #[(.slice A13015 t13010.length c13016), (.agg #[(iv 1), (iv 1), (.slice (some ⟨g13017, 0, none⟩) [0].length 1)])] (fun fb => by kernel_rfl) (tile_Repeats_calls _ t13010 (Pattern.mk 1 1 [0]) A13015 c13016 (some ⟨g13017, 0, none⟩) 1 t13022 _ (hS13021.ow 1).ofO (hS13021.ow 0).ofO ht13023) (fun v w13024 hR13025 => ?_)
     obtain ⟨rfl, hk_⟩ := hR13025
     have hS13026 := hS13021.keepN hk_
     refine ⟨⟨hS13026.cell 3 rfl 2 rfl, hS13026.cell 3 rfl 0 rfl, hS13026.cell 3 rfl 1 rfl, hS13026.cell 3 rfl 2 rfl, trivial⟩, ?_⟩
     refine seg 10 [] [2, 3, 20] [(2, (pt g12535)), (3, (iv t12528.2)), (20, (.bool (!t13022)))] [] (fun fb => by kernel_rfl) rfl trivial ?_
     injection hx13008 with hx13008
     exact WL.to K (!t13022) [2, 3, 20] rfl ⟨⟨(hS13026.subR []).sub [3, 4] (by decide), hx13008.symm⟩, trivial⟩
    refine WL.setB 14 h13009 rfl ?_
    refine seg 10 [] [2, 3, 20] [(2, (pt g12535)), (3, (iv t12528.2)), (20, (.bool false))] [] (fun fb => by kernel_rfl) rfl trivial ?_
    injection hx13008 with hx13008
    exact WL.to K false [2, 3, 20] rfl ⟨⟨(hS12988.subR []).sub [1, 2] (by decide), hx13008.symm⟩, trivial⟩
   rintro y13027 w13029 ⟨⟨hS13030, hq13028⟩, hF13031⟩
   subst hq13028
   refine seg 11 [] [2, 3, 21] [(2, (pt g12535)), (3, (iv t12528.2)), (21, (.bool x13007))] [] (fun fb => by kernel_rfl) rfl trivial ?_
   refine WL.cutV (T := Bool) 14 (fun t => [(24, (.bool t)), (2, (pt g12535))]) (fun t => (x13007 && (t12528.2 == 0)) = t) (fun K => ?_) ?_
   ·
    rcases Bool.eq_false_or_eq_true x13007 with h13032 | h13032
    ·
     refine WL.setB 21 h13032 rfl ?_
     refine seg 14 [] [2, 24] [(2, (pt g12535)), (24, (.bool (t12528.2 == 0)))] [] (fun fb => by kernel_rfl) rfl trivial ?_
     exact WL.toV K (t12528.2 == 0) [24, 2] rfl (by first | (rw [h13032]; done) | (rw [h13032]; rfl))
    refine WL.setB 21 h13032 rfl ?_
    refine seg 14 [] [2, 24] [(2, (pt g12535)), (24, (.bool false))] [] (fun fb => by kernel_rfl) rfl trivial ?_
    exact WL.toV K false [24, 2] rfl (by first | (rw [h13032]; done) | (rw [h13032]; rfl))
   rintro b13033 rfl
   refine seg 15 [] [2, 25] [(2, (pt g12535)), (25, (.bool (x13007 && (t12528.2 == 0))))] [] (fun fb => by kernel_rfl) rfl trivial ?_
   obtain ⟨x13045, hx13046, hx12974⟩ := bind_some hx12974
   refine WL.cutW (T := Bool) 20 (fun t => [(2, (pt g12535)), (30, (.bool t))]) (fun t w1 => (St NoS w w1 [] [blk g12535 (.cells #[(iv t12528.1.Width), (iv t12528.1.Height), (.slice A12533 t12528.1.Cells.length c12534)] 38 (0, 0)), rowO 3 encInt A12533 c12534 t12528.1.Cells] ∧ x13045 = t) ∧ CellsOK [] w1) (fun K => ?_) ?_
   ·
    rcases br_some hx13046 with ⟨h13047, hx13046⟩ | ⟨h13047, hx13046⟩
    ·
     refine WL.setB 25 h13047 rfl ?_
     refine segF 17 [.v (.slice A12533 t12528.1.Cells.length c12534)] [2, 25, 27] [(2, (pt g12535)), (25, (.bool true)), (27, (.slice A12533 t12528.1.Cells.length c12534))] [] [3] [(16, ⟨g12535, 2, none⟩, (.slice A12533 t12528.1.Cells.length c12534))] (fun fb => by kernel_rfl) rfl trivial rfl ?_
     refine WL.new hS13030 28 [] (fun g => (.slice (some ⟨g, 0, none⟩) 3 3)) (.cells #[(iv 0), (iv 1), (iv 0)] 3 (0, 0)) [] (fun fb g => by kernel_rfl) trivial (fun g13048 w13049 hS13050 => ?_)
     refine ⟨⟨hS13050.cell 1 rfl 2 rfl, hS13050.cell 1 rfl 0 rfl, hS13050.cell 1 rfl 1 rfl, hS13050.cell 1 rfl 2 rfl, trivial⟩, ?_⟩
     have hS13052 : St NoS w w13049 [] [rowO 3 encInt (some ⟨g13048, 0, none⟩) 3 [0, 1, 0], blk g12535 (.cells #[(iv t12528.1.Width), (iv t12528.1.Height), (.slice A12533 t12528.1.Cells.length c12534)] 38 (0, 0)), rowO 3 encInt A12533 c12534 t12528.1.Cells] := hS13050.map1 0 _ (fun h => rowO.ofBlk h rfl (Nat.le_of_ble_eq_true (by kernel_rfl))) (fun _ h => by obtain ⟨_, h1, h2⟩ := h; injection h1 with h1; subst h1; exact h2) [1, 2] (by decide) (by decide)
     obtain ⟨t13053, ht13054, hx13046⟩ := bind_some hx13046
     refine WL.call (some 29) 52 #[(.slice A12533 t12528.1.Cells.length c12534), (.slice (some ⟨g13048, 0, none⟩) [0, 1, 0].length 3)] (fun fb => by kernel_rfl) (top_sameInts_calls _ t12528.1.Cells [0, 1, 0] A12533 c12534 (some ⟨g13048, 0, none⟩) 3 t13053 _ (hS13052.ow 2).ofO (hS13052.ow 0).ofO ht13054) (fun v w13055 hR13056 => ?_)
     obtain ⟨rfl, hk_⟩ := hR13056
     have hS13057 := hS13052.keepN hk_
     refine ⟨⟨hS13057.cell 1 rfl 0 rfl, hS13057.cell 1 rfl 1 rfl, hS13057.cell 1 rfl 2 rfl, trivial⟩, ?_⟩
     refine seg 20 [] [2, 30] [(2, (pt g12535)), (30, (.bool t13053))] [] (fun fb => by kernel_rfl) rfl trivial ?_
     injection hx13046 with hx13046
     exact WL.to K t13053 [2, 30] rfl ⟨⟨(hS13057.subR []).sub [1, 2] (by decide), hx13046.symm⟩, trivial⟩
    refine WL.setB 25 h13047 rfl ?_
    refine seg 20 [] [2, 30] [(2, (pt g12535)), (30, (.bool false))] [] (fun fb => by kernel_rfl) rfl trivial ?_
    injection hx13046 with hx13046
    exact WL.to K false [2, 30] rfl ⟨⟨(hS13030.subR []).sub [0, 1] (by decide), hx13046.symm⟩, trivial⟩
   rintro y13058 w13060 ⟨⟨hS13061, hq13059⟩, hF13062⟩
   subst hq13059
   refine seg 21 [] [2, 31] [(2, (pt g12535)), (31, (.bool x13045))] [] (fun fb => by kernel_rfl) rfl trivial ?_
   obtain ⟨x13076, hx13077, hx12974⟩ := bind_some hx12974
   refine WL.cutW (T := Bool) 25 (fun t => [(35, (.bool t))]) (fun t w1 => (St NoS w w1 [] [] ∧ x13076 = t) ∧ CellsOK [] w1) (fun K => ?_) ?_
   ·
    rcases br_some hx13077 with ⟨h13078, hx13077⟩ | ⟨h13078, hx13077⟩
    ·
     refine WL.setB 31 h13078 rfl ?_
     refine segF 22 [.v (iv t12528.1.Width), .v (iv t12528.1.Height), .v (.slice A12533 t12528.1.Cells.length c12534)] [31, 33] [(31, (.bool true)), (33, (.agg #[(iv t12528.1.Width), (iv t12528.1.Height), (.slice A12533 t12528.1.Cells.length c12534)]))] [] [4, 5, 6] [(22, ⟨g12535, 0, none⟩, (iv t12528.1.Width)), (22, ⟨g12535, 1, none⟩, (iv t12528.1.Height)), (22, ⟨g12535, 2, none⟩, (.slice A12533 t12528.1.Cells.length c12534))] (fun fb => by kernel_rfl) rfl trivial rfl ?_
     obtain ⟨t13079, ht13080, hx13077⟩ := bind_some hx13077
     refine WL.call (some 32) 51 #[] (fun fb => by kernel_rfl) (top_chess_calls t13079 _ ht13080) (fun v w13081 hR13082 => ?_)
     obtain ⟨A13084, c13085, rfl, hk_⟩ := hR13082
     have hS13083 : St NoS w w13081 [] [rowO 24 enc_Tile A13084 c13085 t13079, blk g12535 (.cells #[(iv t12528.1.Width), (iv t12528.1.Height), (.slice A12533 t12528.1.Cells.length c12534)] 38 (0, 0)), rowO 3 encInt A12533 c12534 t12528.1.Cells] := hS13061.call hk_ [] [0, 1] (fun g hg => hg.elim) (by simp) (by decide)
     refine ⟨⟨hS13083.cell 1 rfl 0 rfl, hS13083.cell 1 rfl 1 rfl, hS13083.cell 1 rfl 2 rfl, trivial⟩, ?_⟩
     obtain ⟨t13086, ht13087, hx13077⟩ := bind_some hx13077
     refine WL.call (some 34) 53 #[(.slice A13084 t13079.length c13085), (.agg #[(iv t12528.1.Width), (iv t12528.1.Height), (.slice A12533 t12528.1.Cells.length c12534)])] (fun fb => by kernel_rfl) (tile_Fits_calls _ t13079 t12528.1 A13084 c13085 A12533 c12534 t13086 _ (hS13083.ow 0).ofO (hS13083.ow 2).ofO ht13087) (fun v w13088 hR13089 => ?_)
     obtain ⟨rfl, hk_⟩ := hR13089
     have hS13090 := hS13083.keepN hk_
     refine ⟨trivial, ?_⟩
     refine seg 25 [] [35] [(35, (.bool t13086))] [] (fun fb => by kernel_rfl) rfl trivial ?_
     injection hx13077 with hx13077
     exact WL.to K t13086 [35] rfl ⟨⟨(hS13090.subR []).sub [] (by decide), hx13077.symm⟩, trivial⟩
    refine WL.setB 31 h13078 rfl ?_
    refine seg 25 [] [35] [(35, (.bool false))] [] (fun fb => by kernel_rfl) rfl trivial ?_
    injection hx13077 with hx13077
    exact WL.to K false [35] rfl ⟨⟨(hS13061.subR []).sub [] (by decide), hx13077.symm⟩, trivial⟩
   rintro y13091 w13093 ⟨⟨hS13094, hq13092⟩, hF13095⟩
   subst hq13092
   refine seg 26 [] [0] [(0, (.bool x13076))] [] (fun fb => by kernel_rfl) rfl trivial ?_
   refine WL.done rfl ?_
   injection hx12974 with hx12974
   exact WX.to Kx12973 x13076 [0] rfl ⟨(hS13094.subR []).sub [] (by decide), hx12974.symm⟩
  refine segF 1 [.v (iv 2), .v (iv 2), .v (.slice (some ⟨g12061, 0, none⟩) [0, 1, 1, 0].length 4)] [2, 3, 12] [(2, (pt g12535)), (3, (iv t12528.2)), (12, (.agg #[(iv 2), (iv 2), (.slice (some ⟨g12061, 0, none⟩) [0, 1, 1, 0].length 4)]))] [] [0, 1, 2] [(1, ⟨g12066, 0, none⟩, (iv 2)), (1, ⟨g12066, 1, none⟩, (iv 2)), (1, ⟨g12066, 2, none⟩, (.slice (some ⟨g12061, 0, none⟩) [0, 1, 1, 0].length 4))] (fun fb => by kernel_rfl) rfl trivial rfl ?_
  obtain ⟨t13096, ht13097, hx12974⟩ := bind_some hx12974
  refine WL.call (some 11) 51 #[] (fun fb => by kernel_rfl) (top_chess_calls t13096 _ ht13097) (fun v w13098 hR13099 => ?_)
  obtain ⟨A13101, c13102, rfl, hk_⟩ := hR13099
  have hS13100 : St NoS w w13098 [] [rowO 24 enc_Tile A13101 c13102 t13096, blk g12535 (.cells #[(iv t12528.1.Width), (iv t12528.1.Height), (.slice A12533 t12528.1.Cells.length c12534)] 38 (0, 0)), rowO 3 encInt A12533 c12534 t12528.1.Cells, blk g12066 (.cells #[(iv 2), (iv 2), (.slice (some ⟨g12061, 0, none⟩) [0, 1, 1, 0].length 4)] 38 (0, 0)), rowO 3 encInt (some ⟨g12061, 0, none⟩) 4 [0, 1, 1, 0]] := hS12976.call hk_ [] [0, 1, 2, 3] (fun g hg => hg.elim) (by simp) (by decide)
  refine ⟨⟨hS13100.cell 3 rfl 0 rfl, hS13100.cell 3 rfl 1 rfl, hS13100.cell 3 rfl 2 rfl, hS13100.cell 1 rfl 2 rfl, hS13100.cell 1 rfl 0 rfl, hS13100.cell 1 rfl 1 rfl, hS13100.cell 1 rfl 2 rfl, trivial⟩, ?_⟩
  obtain ⟨t13103, ht13104, hx12974⟩ := bind_some hx12974
  refine WL.call (some 13) 27 #[(.slice A13101 t13096.length c13102), (.agg #[(iv 2), (iv 2), (.slice (some ⟨g12061, 0, none⟩) [0, 1, 1, 0].length 4)])] (fun fb => by kernel_rfl) (tile_Repeats_calls _ t13096 (Pattern.mk 2 2 [0, 1, 1, 0]) A13101 c13102 (some ⟨g12061, 0, none⟩) 4 t13103 _ (hS13100.ow 0).ofO (hS13100.ow 4).ofO ht13104) (fun v w13105 hR13106 => ?_)
  obtain ⟨rfl, hk_⟩ := hR13106
  have hS13107 := hS13100.keepN hk_
  refine ⟨⟨hS13107.cell 1 rfl 2 rfl, hS13107.cell 1 rfl 0 rfl, hS13107.cell 1 rfl 1 rfl, hS13107.cell 1 rfl 2 rfl, trivial⟩, ?_⟩
  refine seg 4 [] [2, 3, 14] [(2, (pt g12535)), (3, (iv t12528.2)), (14, (.bool t13103))] [] (fun fb => by kernel_rfl) rfl trivial ?_
  obtain ⟨x13126, hx13127, hx12974⟩ := bind_some hx12974
  refine WL.cutW (T := Bool) 10 (fun t => [(2, (pt g12535)), (3, (iv t12528.2)), (20, (.bool t))]) (fun t w1 => (St NoS w w1 [] [blk g12535 (.cells #[(iv t12528.1.Width), (iv t12528.1.Height), (.slice A12533 t12528.1.Cells.length c12534)] 38 (0, 0)), rowO 3 encInt A12533 c12534 t12528.1.Cells] ∧ x13126 = t) ∧ CellsOK [] w1) (fun K => ?_) ?_
  ·
   rcases br_some hx13127 with ⟨h13128, hx13127⟩ | ⟨h13128, hx13127⟩
   ·
    refine WL.setB 14 h13128 rfl ?_
    refine WL.new hS13107 16 [] (fun g => (.slice (some ⟨g, 0, none⟩) 1 1)) (.cells #[(iv 0)] 3 (0, 0)) [] (fun fb g => by kernel_rfl) trivial (fun g13129 w13130 hS13131 => ?_)
    refine ⟨⟨hS13131.cell 2 rfl 2 rfl, hS13131.cell 2 rfl 0 rfl, hS13131.cell 2 rfl 1 rfl, hS13131.cell 2 rfl 2 rfl, trivial⟩, ?_⟩
    have hS13133 : St NoS w w13130 [] [rowO 3 encInt (some ⟨g13129, 0, none⟩) 1 [0], rowO 24 enc_Tile A13101 c13102 t13096, blk g12535 (.cells #[(iv t12528.1.Width), (iv t12528.1.Height), (.slice A12533 t12528.1.Cells.length c12534)] 38 (0, 0)), rowO 3 encInt A12533 c12534 t12528.1.Cells, blk g12066 (.cells #[(iv 2), (iv 2), (.slice (some ⟨g12061, 0, none⟩) [0, 1, 1, 0].length 4)] 38 (0, 0)), rowO 3 encInt (some ⟨g12061, 0, none⟩) 4 [0, 1, 1, 0]] := hS13131.map1 0 _ (fun h => rowO.ofBlk h rfl (Nat.le_of_ble_eq_true (by kernel_rfl))) (fun _ h => by obtain ⟨_, h1, h2⟩ := h; injection h1 with h1; subst h1; exact h2) [1, 2, 3, 4, 5] (by decide) (by decide)
    refine seg 6 [] [2, 3, 14, 17] [(2, (pt g12535)), (3, (iv t12528.2)), (14, (.bool true)), (17, (.agg #[(iv 1), (iv 1), (.slice (some ⟨g13129, 0, none⟩) [0].length 1)]))] [] (fun fb => by kernel_rfl) rfl trivial ?_
    obtain ⟨t13134, ht13135, hx13127⟩ := bind_some hx13127
    refine WL.call (some 15) 51 #[] (fun fb => by kernel_rfl) (top_chess_calls t13134 _ ht13135) (fun v w13136 hR13137 => ?_)
    obtain ⟨A13139, c13140, rfl, hk_⟩ := hR13137
    have hS13138 : St NoS w w13136 [] [rowO 24 enc_Tile A13139 c13140 t13134, rowO 3 encInt (some ⟨g13129, 0, none⟩) 1 [0], rowO 24 enc_Tile A13101 c13102 t13096, blk g12535 (.cells #[(iv t12528.1.Width), (iv t12528.1.Height), (.slice A12533 t12528.1.Cells.length c12534)] 38 (0, 0)), rowO 3 encInt A12533 c12534 t12528.1.Cells, blk g12066 (.cells #[(iv 2), (iv 2), (.slice (some ⟨g12061, 0, none⟩) [0, 1, 1, 0].length 4)] 38 (0, 0)), rowO 3 encInt (some ⟨g12061, 0, none⟩) 4 [0, 1, 1, 0]] := hS13133.call hk_ [] [0, 1, 2, 3, 4, 5] (fun g hg => hg.elim) (by simp) (by decide)
    refine ⟨⟨hS13138.cell 3 rfl 2 rfl, hS13138.cell 3 rfl 0 rfl, hS13138.cell 3 rfl 1 rfl, hS13138.cell 3 rfl 2 rfl, trivial⟩, ?_⟩
    obtain ⟨t13141, ht13142, hx13127⟩ := bind_some hx13127
    refine WL.call (some 18) 27 #[(.slice A13139 t13134.length c13140), (.agg #[(iv 1), (iv 1), (.slice (some ⟨g13129, 0, none⟩) [0].length 1)])] (fun fb => by kernel_rfl) (tile_Repeats_calls _ t13134 (Pattern.mk 1 1 [0]) A13139 c13140 (some ⟨g13129, 0, none⟩) 1 t13141 _ (hS13138.ow 0).ofO (hS13138.ow 1).ofO ht13142) (fun v w13143 hR13144 => ?_)
    obtain ⟨rfl, hk_⟩ := hR13144
    have hS13145 := hS13138.keepN hk_
    refine ⟨⟨hS13145.cell 3 rfl 2 rfl, hS13145.cell 3 rfl 0 rfl, hS13145.cell 3 rfl 1 rfl, hS13145.cell 3 rfl 2 rfl, trivial⟩, ?_⟩
    refine seg 10 [] [2, 3, 20] [(2, (pt g12535)), (3, (iv t12528.2)), (20, (.bool (!t13141)))] [] (fun fb => by kernel_rfl) rfl trivial ?_
    injection hx13127 with hx13127
    exact WL.to K (!t13141) [2, 3, 20] rfl ⟨⟨(hS13145.subR []).sub [3, 4] (by decide), hx13127.symm⟩, trivial⟩
   refine WL.setB 14 h13128 rfl ?_
   refine seg 10 [] [2, 3, 20] [(2, (pt g12535)), (3, (iv t12528.2)), (20, (.bool false))] [] (fun fb => by kernel_rfl) rfl trivial ?_
   injection hx13127 with hx13127
   exact WL.to K false [2, 3, 20] rfl ⟨⟨(hS13107.subR []).sub [1, 2] (by decide), hx13127.symm⟩, trivial⟩
  rintro y13146 w13148 ⟨⟨hS13149, hq13147⟩, hF13150⟩
  subst hq13147
  refine seg 11 [] [2, 3, 21] [(2, (pt g12535)), (3, (iv t12528.2)), (21, (.bool x13126))] [] (fun fb => by kernel_rfl) rfl trivial ?_
  refine WL.cutV (T := Bool) 14 (fun t => [(24, (.bool t)), (2, (pt g12535))]) (fun t => (x13126 && (t12528.2 == 0)) = t) (fun K => ?_) ?_
  ·
   rcases Bool.eq_false_or_eq_true x13126 with h13151 | h13151
   ·
    refine WL.setB 21 h13151 rfl ?_
    refine seg 14 [] [2, 24] [(2, (pt g12535)), (24, (.bool (t12528.2 == 0)))] [] (fun fb => by kernel_rfl) rfl trivial ?_
    exact WL.toV K (t12528.2 == 0) [24, 2] rfl (by first | (rw [h13151]; done) | (rw [h13151]; rfl))
   refine WL.setB 21 h13151 rfl ?_
   refine seg 14 [] [2, 24] [(2, (pt g12535)), (24, (.bool false))] [] (fun fb => by kernel_rfl) rfl trivial ?_
   exact WL.toV K false [24, 2] rfl (by first | (rw [h13151]; done) | (rw [h13151]; rfl))
  rintro b13152 rfl
  refine seg 15 [] [2, 25] [(2, (pt g12535)), (25, (.bool (x13126 && (t12528.2 == 0))))] [] (fun fb => by kernel_rfl) rfl trivial ?_
  obtain ⟨x13164, hx13165, hx12974⟩ := bind_some hx12974
  refine WL.cutW (T := Bool) 20 (fun t => [(2, (pt g12535)), (30, (.bool t))]) (fun t w1 => (St NoS w w1 [] [blk g12535 (.cells #[(iv t12528.1.Width), (iv t12528.1.Height), (.slice A12533 t12528.1.Cells.length c12534)] 38 (0, 0)), rowO 3 encInt A12533 c12534 t12528.1.Cells] ∧ x13164 = t) ∧ CellsOK [] w1) (fun K => ?_) ?_
  ·
   rcases br_some hx13165 with ⟨h13166, hx13165⟩ | ⟨h13166, hx13165⟩
   ·
    refine WL.setB 25 h13166 rfl ?_
    refine segF 17 [.v (.slice A12533 t12528.1.Cells.length c12534)] [2, 25, 27] [(2, (pt g12535)), (25, (.bool true)), (27, (.slice A12533 t12528.1.Cells.length c12534))] [] [3] [(16, ⟨g12535, 2, none⟩, (.slice A12533 t12528.1.Cells.length c12534))] (fun fb => by kernel_rfl) rfl trivial rfl ?_
    refine WL.new hS13149 28 [] (fun g => (.slice (some ⟨g, 0, none⟩) 3 3)) (.cells #[(iv 0), (iv 1), (iv 0)] 3 (0, 0)) [] (fun fb g => by kernel_rfl) trivial (fun g13167 w13168 hS13169 => ?_)
    refine ⟨⟨hS13169.cell 1 rfl 2 rfl, hS13169.cell 1 rfl 0 rfl, hS13169.cell 1 rfl 1 rfl, hS13169.cell 1 rfl 2 rfl, trivial⟩, ?_⟩
    have hS13171 : St NoS w w13168 [] [rowO 3 encInt (some ⟨g13167, 0, none⟩) 3 [0, 1, 0], blk g12535 (.cells #[(iv t12528.1.Width), (iv t12528.1.Height), (.slice A12533 t12528.1.Cells.length c12534)] 38 (0, 0)), rowO 3 encInt A12533 c12534 t12528.1.Cells] := hS13169.map1 0 _ (fun h => rowO.ofBlk h rfl (Nat.le_of_ble_eq_true (by kernel_rfl))) (fun _ h => by obtain ⟨_, h1, h2⟩ := h; injection h1 with h1; subst h1; exact h2) [1, 2] (by decide) (by decide)
    obtain ⟨t13172, ht13173, hx13165⟩ := bind_some hx13165
    refine WL.call (some 29) 52 #[(.slice A12533 t12528.1.Cells.length c12534), (.slice (some ⟨g13167, 0, none⟩) [0, 1, 0].length 3)] (fun fb => by kernel_rfl) (top_sameInts_calls _ t12528.1.Cells [0, 1, 0] A12533 c12534 (some ⟨g13167, 0, none⟩) 3 t13172 _ (hS13171.ow 2).ofO (hS13171.ow 0).ofO ht13173) (fun v w13174 hR13175 => ?_)
    obtain ⟨rfl, hk_⟩ := hR13175
    have hS13176 := hS13171.keepN hk_
    refine ⟨⟨hS13176.cell 1 rfl 0 rfl, hS13176.cell 1 rfl 1 rfl, hS13176.cell 1 rfl 2 rfl, trivial⟩, ?_⟩
    refine seg 20 [] [2, 30] [(2, (pt g12535)), (30, (.bool t13172))] [] (fun fb => by kernel_rfl) rfl trivial ?_
    injection hx13165 with hx13165
    exact WL.to K t13172 [2, 30] rfl ⟨⟨(hS13176.subR []).sub [1, 2] (by decide), hx13165.symm⟩, trivial⟩
   refine WL.setB 25 h13166 rfl ?_
   refine seg 20 [] [2, 30] [(2, (pt g12535)), (30, (.bool false))] [] (fun fb => by kernel_rfl) rfl trivial ?_
   injection hx13165 with hx13165
   exact WL.to K false [2, 30] rfl ⟨⟨(hS13149.subR []).sub [0, 1] (by decide), hx13165.symm⟩, trivial⟩
  rintro y13177 w13179 ⟨⟨hS13180, hq13178⟩, hF13181⟩
  subst hq13178
  refine seg 21 [] [2, 31] [(2, (pt g12535)), (31, (.bool x13164))] [] (fun fb => by kernel_rfl) rfl trivial ?_
  obtain ⟨x13195, hx13196, hx12974⟩ := bind_some hx12974
  refine WL.cutW (T := Bool) 25 (fun t => [(35, (.bool t))]) (fun t w1 => (St NoS w w1 [] [] ∧ x13195 = t) ∧ CellsOK [] w1) (fun K => ?_) ?_
  ·
   rcases br_some hx13196 with ⟨h13197, hx13196⟩ | ⟨h13197, hx13196⟩
   ·
    refine WL.setB 31 h13197 rfl ?_
    refine segF 22 [.v (iv t12528.1.Width), .v (iv t12528.1.Height), .v (.slice A12533 t12528.1.Cells.length c12534)] [31, 33] [(31, (.bool true)), (33, (.agg #[(iv t12528.1.Width), (iv t12528.1.Height), (.slice A12533 t12528.1.Cells.length c12534)]))] [] [4, 5, 6] [(22, ⟨g12535, 0, none⟩, (iv t12528.1.Width)), (22, ⟨g12535, 1, none⟩, (iv t12528.1.Height)), (22, ⟨g12535, 2, none⟩, (.slice A12533 t12528.1.Cells.length c12534))] (fun fb => by kernel_rfl) rfl trivial rfl ?_
    obtain ⟨t13198, ht13199, hx13196⟩ := bind_some hx13196
    refine WL.call (some 32) 51 #[] (fun fb => by kernel_rfl) (top_chess_calls t13198 _ ht13199) (fun v w13200 hR13201 => ?_)
    obtain ⟨A13203, c13204, rfl, hk_⟩ := hR13201
    have hS13202 : St NoS w w13200 [] [rowO 24 enc_Tile A13203 c13204 t13198, blk g12535 (.cells #[(iv t12528.1.Width), (iv t12528.1.Height), (.slice A12533 t12528.1.Cells.length c12534)] 38 (0, 0)), rowO 3 encInt A12533 c12534 t12528.1.Cells] := hS13180.call hk_ [] [0, 1] (fun g hg => hg.elim) (by simp) (by decide)
    refine ⟨⟨hS13202.cell 1 rfl 0 rfl, hS13202.cell 1 rfl 1 rfl, hS13202.cell 1 rfl 2 rfl, trivial⟩, ?_⟩
    obtain ⟨t13205, ht13206, hx13196⟩ := bind_some hx13196
    refine WL.call (some 34) 53 #[(.slice A13203 t13198.length c13204), (.agg #[(iv t12528.1.Width), (iv t12528.1.Height), (.slice A12533 t12528.1.Cells.length c12534)])] (fun fb => by kernel_rfl) (tile_Fits_calls _ t13198 t12528.1 A13203 c13204 A12533 c12534 t13205 _ (hS13202.ow 0).ofO (hS13202.ow 2).ofO ht13206) (fun v w13207 hR13208 => ?_)
    obtain ⟨rfl, hk_⟩ := hR13208
    have hS13209 := hS13202.keepN hk_
    refine ⟨trivial, ?_⟩
    refine seg 25 [] [35] [(35, (.bool t13205))] [] (fun fb => by kernel_rfl) rfl trivial ?_
    injection hx13196 with hx13196
    exact WL.to K t13205 [35] rfl ⟨⟨(hS13209.subR []).sub [] (by decide), hx13196.symm⟩, trivial⟩
   refine WL.setB 31 h13197 rfl ?_
   refine seg 25 [] [35] [(35, (.bool false))] [] (fun fb => by kernel_rfl) rfl trivial ?_
   injection hx13196 with hx13196
   exact WL.to K false [35] rfl ⟨⟨(hS13180.subR []).sub [] (by decide), hx13196.symm⟩, trivial⟩
  rintro y13210 w13212 ⟨⟨hS13213, hq13211⟩, hF13214⟩
  subst hq13211
  refine seg 26 [] [0] [(0, (.bool x13195))] [] (fun fb => by kernel_rfl) rfl trivial ?_
  refine WL.done rfl ?_
  injection hx12974 with hx12974
  exact WX.to Kx12973 x13195 [0] rfl ⟨(hS13213.subR []).sub [] (by decide), hx12974.symm⟩
 rintro y13218 w13215 ⟨hS13216, hq13217⟩
 subst hq13217
 refine WX.next ?_
 refine WC.ret ?_
 injection hf with hf
 subst hf
 exact WX.ret_ [] (.bool x12973) [] (fun fb => by kernel_rfl) trivial ⟨_, rfl, rfl, hS13216.keep⟩
theorem top_decides_calls (k : Nat)   (r : Bool) (w : World)  (hf : top_decides k = some r) :
  CallsR Try.prog 32 #[] w (fun v w' => v = (.bool r) ∧ Keeps NoS w w') := by
 have hS : St NoS w w [] [] := St.init (ro_nil _ _)
 refine enter 45 Try.func32 rfl Try.ntmps32 rfl ?_
 unfold top_decides at hf
 refine WC.seq ?_
 refine WC.region ?_
 refine seg 1 [] [] [] [] (fun fb => by kernel_rfl) rfl trivial ?_
 refine WL.done rfl ?_
 refine WX.next ?_
 refine WC.seq ?_
 refine WC.region ?_
 obtain ⟨t12013, ht12014, hf⟩ := bind_some hf
 refine WL.call (some 6) 51 #[] (fun fb => by kernel_rfl) (top_chess_calls t12013 _ ht12014) (fun v w12015 hR12016 => ?_)
 obtain ⟨A12018, c12019, rfl, hk_⟩ := hR12016
 have hS12017 : St NoS w w12015 [] [rowO 24 enc_Tile A12018 c12019 t12013] := hS.call hk_ [] [] (fun g hg => hg.elim) (by simp) (by decide)
 refine ⟨trivial, ?_⟩
 obtain ⟨t12020, ht12021, hf⟩ := bind_some hf
 refine WL.call (some 7) 22 #[(.slice A12018 t12013.length c12019)] (fun fb => by kernel_rfl) (decide_Decide_calls _ t12013 A12018 c12019 t12020 _ (hS12017.ow 0).ofO ht12021) (fun v w12022 hR12023 => ?_)
 obtain ⟨A12025, c12026, rfl, hk_⟩ := hR12023
 have hS12024 : St NoS w w12022 [] [rowO 3 encInt A12025 c12026 t12020.1.Torus.Cells, rowO 24 enc_Tile A12018 c12019 t12013] := hS12017.call hk_ [] [0] (fun g hg => hg.elim) (by simp) (by decide)
 refine ⟨trivial, ?_⟩
 refine seg 5 [] [8, 9] [(8, (.agg #[(.bool t12020.1.Fills), (iv t12020.1.Torus.Width), (iv t12020.1.Torus.Height), (.slice A12025 t12020.1.Torus.Cells.length c12026), (iv t12020.1.Side)])), (9, (iv t12020.2))] [] (fun fb => by kernel_rfl) rfl trivial ?_
 refine WL.new hS12024 1 [] (fun g => (.pointer (some ⟨g, 0, none⟩))) (.cells #[(.bool false), (iv 0), (iv 0), (.slice none 0 0), (iv 0)] 40 (0, 0)) [] (fun fb g => by kernel_rfl) trivial (fun g12027 w12028 hS12029 => ?_)
 refine ⟨trivial, ?_⟩
 refine WL.store hS12029 0 rfl [(0, (.bool t12020.1.Fills)), (1, (iv t12020.1.Torus.Width)), (2, (iv t12020.1.Torus.Height)), (3, (.slice A12025 t12020.1.Torus.Cells.length c12026)), (4, (iv t12020.1.Side))] #[(.bool t12020.1.Fills), (iv t12020.1.Torus.Width), (iv t12020.1.Torus.Height), (.slice A12025 t12020.1.Torus.Cells.length c12026), (iv t12020.1.Side)] (fun fb => by kernel_rfl) (by kernel_rfl) rfl [1, 2] (by decide) (by decide) (fun w12031 hS12032 => ?_)
 refine ⟨trivial, ?_⟩
 refine seg 8 [] [1, 2] [(1, (pt g12027)), (2, (iv t12020.2))] [] (fun fb => by kernel_rfl) rfl trivial ?_
 refine WL.done rfl ?_
 refine WX.next ?_
 refine WC.seq ?_
 refine WC.region ?_
 refine seg 1 [] [1, 2, 11] [(1, (pt g12027)), (2, (iv t12020.2)), (11, (.agg #[(iv 0), (iv 0), (iv 1), (iv 0)]))] [] (fun fb => by kernel_rfl) rfl trivial ?_
 refine WL.new hS12032 12 [] (fun g => (.slice (some ⟨g, 0, none⟩) 1 1)) (.cells #[(iv 0), (iv 0), (iv 1), (iv 0)] 24 (0, 0)) [] (fun fb g => by kernel_rfl) trivial (fun g12033 w12034 hS12035 => ?_)
 refine ⟨trivial, ?_⟩
 have hS12037 : St NoS w w12034 [] [rowO 24 enc_Tile (some ⟨g12033, 0, none⟩) 1 [(Tile.mk 0 0 1 0)], blk g12027 (.cells #[(.bool t12020.1.Fills), (iv t12020.1.Torus.Width), (iv t12020.1.Torus.Height), (.slice A12025 t12020.1.Torus.Cells.length c12026), (iv t12020.1.Side)] 40 (0, 0)), rowO 3 encInt A12025 c12026 t12020.1.Torus.Cells, rowO 24 enc_Tile A12018 c12019 t12013] := hS12035.map1 0 _ (fun h => rowO.ofBlk h rfl (Nat.le_of_ble_eq_true (by kernel_rfl))) (fun _ h => by obtain ⟨_, h1, h2⟩ := h; injection h1 with h1; subst h1; exact h2) [1, 2, 3] (by decide) (by decide)
 obtain ⟨t12038, ht12039, hf⟩ := bind_some hf
 refine WL.call (some 13) 22 #[(.slice (some ⟨g12033, 0, none⟩) [(Tile.mk 0 0 1 0)].length 1)] (fun fb => by kernel_rfl) (decide_Decide_calls _ [(Tile.mk 0 0 1 0)] (some ⟨g12033, 0, none⟩) 1 t12038 _ (hS12037.ow 0).ofO ht12039) (fun v w12040 hR12041 => ?_)
 obtain ⟨A12043, c12044, rfl, hk_⟩ := hR12041
 have hS12042 : St NoS w w12040 [] [rowO 3 encInt A12043 c12044 t12038.1.Torus.Cells, rowO 24 enc_Tile (some ⟨g12033, 0, none⟩) 1 [(Tile.mk 0 0 1 0)], blk g12027 (.cells #[(.bool t12020.1.Fills), (iv t12020.1.Torus.Width), (iv t12020.1.Torus.Height), (.slice A12025 t12020.1.Torus.Cells.length c12026), (iv t12020.1.Side)] 40 (0, 0)), rowO 3 encInt A12025 c12026 t12020.1.Torus.Cells, rowO 24 enc_Tile A12018 c12019 t12013] := hS12037.call hk_ [] [0, 1, 2, 3] (fun g hg => hg.elim) (by simp) (by decide)
 refine ⟨trivial, ?_⟩
 refine seg 6 [] [1, 2, 14, 15] [(1, (pt g12027)), (2, (iv t12020.2)), (14, (.agg #[(.bool t12038.1.Fills), (iv t12038.1.Torus.Width), (iv t12038.1.Torus.Height), (.slice A12043 t12038.1.Torus.Cells.length c12044), (iv t12038.1.Side)])), (15, (iv t12038.2))] [] (fun fb => by kernel_rfl) rfl trivial ?_
 refine WL.new hS12042 3 [] (fun g => (.pointer (some ⟨g, 0, none⟩))) (.cells #[(.bool false), (iv 0), (iv 0), (.slice none 0 0), (iv 0)] 40 (0, 0)) [] (fun fb g => by kernel_rfl) trivial (fun g12045 w12046 hS12047 => ?_)
 refine ⟨trivial, ?_⟩
 refine WL.store hS12047 0 rfl [(0, (.bool t12038.1.Fills)), (1, (iv t12038.1.Torus.Width)), (2, (iv t12038.1.Torus.Height)), (3, (.slice A12043 t12038.1.Torus.Cells.length c12044)), (4, (iv t12038.1.Side))] #[(.bool t12038.1.Fills), (iv t12038.1.Torus.Width), (iv t12038.1.Torus.Height), (.slice A12043 t12038.1.Torus.Cells.length c12044), (iv t12038.1.Side)] (fun fb => by kernel_rfl) (by kernel_rfl) rfl [1, 2, 3, 4, 5] (by decide) (by decide) (fun w12049 hS12050 => ?_)
 refine ⟨trivial, ?_⟩
 refine seg 9 [] [1, 2, 3, 4] [(1, (pt g12027)), (2, (iv t12020.2)), (3, (pt g12045)), (4, (iv t12038.2))] [] (fun fb => by kernel_rfl) rfl trivial ?_
 refine WL.done rfl ?_
 refine WX.next ?_
 refine WC.seq ?_
 refine WC.region ?_
 refine seg 3 [] [1, 3, 4, 18] [(1, (pt g12027)), (3, (pt g12045)), (4, (iv t12038.2)), (18, (.bool (t12020.2 == 0)))] [] (fun fb => by kernel_rfl) rfl trivial ?_
 refine WL.cutV (T := Bool) 6 (fun t => [(21, (.bool t)), (1, (pt g12027)), (3, (pt g12045))]) (fun t => ((t12020.2 == 0) && (t12038.2 == 0)) = t) (fun K => ?_) ?_
 ·
  rcases Bool.eq_false_or_eq_true (t12020.2 == 0) with h12051 | h12051
  ·
   refine WL.setB 18 h12051 rfl ?_
   refine seg 6 [] [1, 3, 21] [(1, (pt g12027)), (3, (pt g12045)), (21, (.bool (t12038.2 == 0)))] [] (fun fb => by kernel_rfl) rfl trivial ?_
   exact WL.toV K (t12038.2 == 0) [21, 1, 3] rfl (by first | (rw [h12051]; done) | (rw [h12051]; rfl))
  refine WL.setB 18 h12051 rfl ?_
  refine seg 6 [] [1, 3, 21] [(1, (pt g12027)), (3, (pt g12045)), (21, (.bool false))] [] (fun fb => by kernel_rfl) rfl trivial ?_
  exact WL.toV K false [21, 1, 3] rfl (by first | (rw [h12051]; done) | (rw [h12051]; rfl))
 rintro b12052 rfl
 refine seg 7 [] [1, 3, 22] [(1, (pt g12027)), (3, (pt g12045)), (22, (.bool ((t12020.2 == 0) && (t12038.2 == 0))))] [] (fun fb => by kernel_rfl) rfl trivial ?_
 refine WL.cutV (T := Bool) 10 (fun t => [(25, (.bool t)), (1, (pt g12027)), (3, (pt g12045))]) (fun t => (((t12020.2 == 0) && (t12038.2 == 0)) && t12020.1.Fills) = t) (fun K => ?_) ?_
 ·
  rcases Bool.eq_false_or_eq_true ((t12020.2 == 0) && (t12038.2 == 0)) with h12053 | h12053
  ·
   refine WL.setB 22 h12053 rfl ?_
   refine seg 10 [.v (.bool t12020.1.Fills)] [1, 3, 25] [(1, (pt g12027)), (3, (pt g12045)), (25, (.bool t12020.1.Fills))] [.cell ⟨g12027, 0, none⟩ (.bool t12020.1.Fills)] (fun fb => by kernel_rfl) rfl ⟨hS12050.cell 3 rfl 0 rfl, trivial⟩ ?_
   exact WL.toV K t12020.1.Fills [25, 1, 3] rfl (by first | (rw [h12053]; done) | (rw [h12053]; rfl))
  refine WL.setB 22 h12053 rfl ?_
  refine seg 10 [] [1, 3, 25] [(1, (pt g12027)), (3, (pt g12045)), (25, (.bool false))] [] (fun fb => by kernel_rfl) rfl trivial ?_
  exact WL.toV K false [25, 1, 3] rfl (by first | (rw [h12053]; done) | (rw [h12053]; rfl))
 rintro b12054 rfl
 refine seg 11 [] [1, 3, 26] [(1, (pt g12027)), (3, (pt g12045)), (26, (.bool (((t12020.2 == 0) && (t12038.2 == 0)) && t12020.1.Fills)))] [] (fun fb => by kernel_rfl) rfl trivial ?_
 refine WL.cutV (T := Bool) 16 (fun t => [(31, (.bool t)), (3, (pt g12045))]) (fun t => ((((t12020.2 == 0) && (t12038.2 == 0)) && t12020.1.Fills) && (t12020.1.Torus.Width == 2)) = t) (fun K => ?_) ?_
 ·
  rcases Bool.eq_false_or_eq_true (((t12020.2 == 0) && (t12038.2 == 0)) && t12020.1.Fills) with h12055 | h12055
  ·
   refine WL.setB 26 h12055 rfl ?_
   refine seg 16 [.v (iv t12020.1.Torus.Width)] [3, 31] [(3, (pt g12045)), (31, (.bool (t12020.1.Torus.Width == 2)))] [.cell ⟨g12027, 1, none⟩ (iv t12020.1.Torus.Width)] (fun fb => by kernel_rfl) rfl ⟨hS12050.cell 3 rfl 1 rfl, trivial⟩ ?_
   exact WL.toV K (t12020.1.Torus.Width == 2) [31, 3] rfl (by first | (rw [h12055]; done) | (rw [h12055]; rfl))
  refine WL.setB 26 h12055 rfl ?_
  refine seg 16 [] [3, 31] [(3, (pt g12045)), (31, (.bool false))] [] (fun fb => by kernel_rfl) rfl trivial ?_
  exact WL.toV K false [31, 3] rfl (by first | (rw [h12055]; done) | (rw [h12055]; rfl))
 rintro b12056 rfl
 refine seg 17 [] [3, 32] [(3, (pt g12045)), (32, (.bool ((((t12020.2 == 0) && (t12038.2 == 0)) && t12020.1.Fills) && (t12020.1.Torus.Width == 2))))] [] (fun fb => by kernel_rfl) rfl trivial ?_
 refine WL.cutV (T := Bool) 21 (fun t => [(36, (.bool t)), (3, (pt g12045))]) (fun t => (((((t12020.2 == 0) && (t12038.2 == 0)) && t12020.1.Fills) && (t12020.1.Torus.Width == 2)) && (!t12038.1.Fills)) = t) (fun K => ?_) ?_
 ·
  rcases Bool.eq_false_or_eq_true ((((t12020.2 == 0) && (t12038.2 == 0)) && t12020.1.Fills) && (t12020.1.Torus.Width == 2)) with h12057 | h12057
  ·
   refine WL.setB 32 h12057 rfl ?_
   refine seg 21 [.v (.bool t12038.1.Fills)] [3, 36] [(3, (pt g12045)), (36, (.bool (!t12038.1.Fills)))] [.cell ⟨g12045, 0, none⟩ (.bool t12038.1.Fills)] (fun fb => by kernel_rfl) rfl ⟨hS12050.cell 0 rfl 0 rfl, trivial⟩ ?_
   exact WL.toV K (!t12038.1.Fills) [36, 3] rfl (by first | (rw [h12057]; done) | (rw [h12057]; rfl))
  refine WL.setB 32 h12057 rfl ?_
  refine seg 21 [] [3, 36] [(3, (pt g12045)), (36, (.bool false))] [] (fun fb => by kernel_rfl) rfl trivial ?_
  exact WL.toV K false [36, 3] rfl (by first | (rw [h12057]; done) | (rw [h12057]; rfl))
 rintro b12058 rfl
 refine seg 22 [] [3, 37] [(3, (pt g12045)), (37, (.bool (((((t12020.2 == 0) && (t12038.2 == 0)) && t12020.1.Fills) && (t12020.1.Torus.Width == 2)) && (!t12038.1.Fills))))] [] (fun fb => by kernel_rfl) rfl trivial ?_
 refine WL.cutV (T := Bool) 26 (fun t => [(41, (.bool t))]) (fun t => ((((((t12020.2 == 0) && (t12038.2 == 0)) && t12020.1.Fills) && (t12020.1.Torus.Width == 2)) && (!t12038.1.Fills)) && (t12038.1.Side == 2)) = t) (fun K => ?_) ?_
 ·
  rcases Bool.eq_false_or_eq_true (((((t12020.2 == 0) && (t12038.2 == 0)) && t12020.1.Fills) && (t12020.1.Torus.Width == 2)) && (!t12038.1.Fills)) with h12059 | h12059
  ·
   refine WL.setB 37 h12059 rfl ?_
   refine seg 26 [.v (iv t12038.1.Side)] [41] [(41, (.bool (t12038.1.Side == 2)))] [.cell ⟨g12045, 4, none⟩ (iv t12038.1.Side)] (fun fb => by kernel_rfl) rfl ⟨hS12050.cell 0 rfl 4 rfl, trivial⟩ ?_
   exact WL.toV K (t12038.1.Side == 2) [41] rfl (by first | (rw [h12059]; done) | (rw [h12059]; rfl))
  refine WL.setB 37 h12059 rfl ?_
  refine seg 26 [] [41] [(41, (.bool false))] [] (fun fb => by kernel_rfl) rfl trivial ?_
  exact WL.toV K false [41] rfl (by first | (rw [h12059]; done) | (rw [h12059]; rfl))
 rintro b12060 rfl
 refine seg 27 [] [42] [(42, (.bool ((((((t12020.2 == 0) && (t12038.2 == 0)) && t12020.1.Fills) && (t12020.1.Torus.Width == 2)) && (!t12038.1.Fills)) && (t12038.1.Side == 2))))] [] (fun fb => by kernel_rfl) rfl trivial ?_
 obtain ⟨x13225, hx13226, hf⟩ := bind_some hf
 refine WL.cutW (T := Bool) 29 (fun t => [(44, (.bool t))]) (fun t w1 => (St NoS w w1 [] [] ∧ x13225 = t) ∧ CellsOK [] w1) (fun K => ?_) ?_
 ·
  rcases br_some hx13226 with ⟨h13227, hx13226⟩ | ⟨h13227, hx13226⟩
  ·
   refine WL.setB 42 h13227 rfl ?_
   obtain ⟨t13228, ht13229, hx13226⟩ := bind_some hx13226
   refine WL.call (some 43) 28 #[] (fun fb => by kernel_rfl) (top_lives_calls _ t13228 _ ht13229) (fun v w13230 hR13231 => ?_)
   obtain ⟨rfl, hk_⟩ := hR13231
   have hS13232 := hS12050.keepN hk_
   refine ⟨trivial, ?_⟩
   refine seg 29 [] [44] [(44, (.bool t13228))] [] (fun fb => by kernel_rfl) rfl trivial ?_
   injection hx13226 with hx13226
   exact WL.to K t13228 [44] rfl ⟨⟨(hS13232.subR []).sub [] (by decide), hx13226.symm⟩, trivial⟩
  refine WL.setB 42 h13227 rfl ?_
  refine seg 29 [] [44] [(44, (.bool false))] [] (fun fb => by kernel_rfl) rfl trivial ?_
  injection hx13226 with hx13226
  exact WL.to K false [44] rfl ⟨⟨(hS12050.subR []).sub [] (by decide), hx13226.symm⟩, trivial⟩
 rintro y13233 w13235 ⟨⟨hS13236, hq13234⟩, hF13237⟩
 subst hq13234
 refine seg 30 [] [0] [(0, (.bool x13225))] [] (fun fb => by kernel_rfl) rfl trivial ?_
 refine WL.done rfl ?_
 refine WX.next ?_
 refine WC.ret ?_
 injection hf with hf
 subst hf
 exact WX.ret_ [] (.bool x13225) [] (fun fb => by kernel_rfl) trivial ⟨_, rfl, rfl, hS13236.keep⟩
end Gp
