/- Walks: each function of the program computes its plain function. -/
import Derived.Test.YtjfmjfheeijfiaaDoorGp
set_option linter.unusedVariables false
set_option linter.unusedSimpArgs false
set_option maxHeartbeats 4000000
namespace Gp
open Go Gw Go.Proofs
theorem ref01_colour_calls (p0 : Int)  (r : Bool) (w : World)  (hf : ref01_colour p0 = some r) :
  CallsR Tryd.prog 50 #[(iv p0)] w (fun v w' => v = (.bool r) ∧ Keeps NoS w w') := by
 have hS : St NoS w w [] [] := St.init (ro_nil _ _)
 refine enter 9 Tryd.func50 rfl Tryd.ntmps50 rfl ?_
 unfold ref01_colour at hf
 refine WC.seq ?_
 refine WC.region ?_
 refine seg 1 [] [0] [(0, (iv p0))] [] (fun fb => by kernel_rfl) rfl trivial ?_
 refine WL.done rfl ?_
 refine WX.next ?_
 refine WC.seq ?_
 refine WC.region ?_
 refine seg 3 [] [0, 5] [(0, (iv p0)), (5, (.bool (decide (p0 ≥ 0))))] [] (fun fb => by kernel_rfl) rfl trivial ?_
 refine WL.cutV (T := Bool) 6 (fun t => [(8, (.bool t))]) (fun t => ((decide (p0 ≥ 0)) && (decide (p0 < 1000))) = t) (fun K => ?_) ?_
 ·
  rcases Bool.eq_false_or_eq_true (decide (p0 ≥ 0)) with h10 | h10
  ·
   refine WL.setB 5 h10 rfl ?_
   refine seg 6 [] [8] [(8, (.bool (decide (p0 < 1000))))] [] (fun fb => by kernel_rfl) rfl trivial ?_
   exact WL.toV K (decide (p0 < 1000)) [8] rfl (by first | (rw [h10]; done) | (rw [h10]; rfl))
  refine WL.setB 5 h10 rfl ?_
  refine seg 6 [] [8] [(8, (.bool false))] [] (fun fb => by kernel_rfl) rfl trivial ?_
  exact WL.toV K false [8] rfl (by first | (rw [h10]; done) | (rw [h10]; rfl))
 rintro b11 rfl
 refine seg 7 [] [2] [(2, (.bool ((decide (p0 ≥ 0)) && (decide (p0 < 1000)))))] [] (fun fb => by kernel_rfl) rfl trivial ?_
 refine WL.done rfl ?_
 refine WX.next ?_
 refine WC.ret ?_
 injection hf with hf
 subst hf
 exact WX.ret_ [] (.bool ((decide (p0 ≥ 0)) && (decide (p0 < 1000)))) [] (fun fb => by kernel_rfl) trivial ⟨_, rfl, rfl, hS.keep⟩
theorem ref01_Index_calls (k : Nat) (p0 : List Tile) (p1 : Tile) (A_p0 : Option Addr) (c_p0 : Nat) (r : Int) (w : World) (hR0 : RO NoS w (rowR enc_Tile A_p0 c_p0 p0)) (hf : ref01_Index k p0 p1 = some r) :
  CallsR Tryd.prog 51 #[(.slice A_p0 p0.length c_p0), (.agg #[(iv p1.N), (iv p1.E), (iv p1.S), (iv p1.W)])] w (fun v w' => v = (iv r) ∧ Keeps NoS w w') := by
 have hS : St NoS w w [rowR enc_Tile A_p0 c_p0 p0] [] := St.init (ro_cons hR0 (ro_nil _ _))
 refine enter 19 Tryd.func51 rfl Tryd.ntmps51 rfl ?_
 unfold ref01_Index at hf
 refine WC.seq ?_
 refine WC.region ?_
 refine WL.new hS 3 [] (fun g => (.pointer (some ⟨g, 0, none⟩))) (.cells #[(iv p1.N), (iv p1.E), (iv p1.S), (iv p1.W)] 40 (0, 0)) [] (fun fb g => by kernel_rfl) trivial (fun g76 w77 hS78 => ?_)
 refine ⟨trivial, ?_⟩
 refine seg 2 [] [0, 3] [(0, (.slice A_p0 p0.length c_p0)), (3, (pt g76))] [] (fun fb => by kernel_rfl) rfl trivial ?_
 refine WL.done rfl ?_
 refine WX.next ?_
 refine WC.seq ?_
 refine WC.seq ?_
 refine WC.region ?_
 refine seg 1 [] [0, 3, 5] [(0, (.slice A_p0 p0.length c_p0)), (3, (pt g76)), (5, (iv 0))] [] (fun fb => by kernel_rfl) rfl trivial ?_
 refine WL.done rfl ?_
 refine WX.next ?_
 obtain ⟨x96, hx97, hf⟩ := bind_some hf
 refine WC.cutN (T := Unit) (fun t => []) (fun t w1 => St NoS w w1 [rowR enc_Tile A_p0 c_p0 p0] [] ∧ x96 = .inr t) (fun Kx96 => ?_) ?_
 ·
  refine WC.block ?_
  refine WC.loop (T := Int) (fun t => [(0, (.slice A_p0 p0.length c_p0)), (3, (pt g76)), (5, (iv t))]) (fun n t w1 => St NoS w w1 [rowR enc_Tile A_p0 c_p0 p0] [blk g76 (.cells #[(iv p1.N), (iv p1.E), (iv p1.S), (iv p1.W)] 40 (0, 0))] ∧ ref01_Index.l0 n t p0 p1 = some x96) k 0 [0, 3, 5] rfl ⟨(hS78.subR [0]).sub [0] (by decide), hx97⟩ ?_
  rintro k98 x95 w99 ⟨hS100, hl101⟩
  cases k98 with
  | zero => rw [ref01_Index.l0] at hl101; cases hl101
  | succ k98 =>
   rw [ref01_Index.l0] at hl101
   refine WC.seq ?_
   refine WC.seq ?_
   refine WC.region ?_
   refine seg 4 [] [0, 3, 5, 9] [(0, (.slice A_p0 p0.length c_p0)), (3, (pt g76)), (5, (iv x95)), (9, (.bool (decide (x95 < (p0.length : Int)))))] [] (fun fb => by kernel_rfl) rfl trivial ?_
   refine WL.done rfl ?_
   refine WX.next ?_
   rcases br_some hl101 with ⟨h102, hl101⟩ | ⟨h102, hl101⟩
   ·refine WC.condT2 (fun fb => by kernel_rfl) h102 ?_
    refine WC.skip ?_
    refine WX.next ?_
    refine WC.seq ?_
    refine WC.block ?_
    refine WC.seq ?_
    obtain ⟨h107, hl101⟩ := as_some hl101
    refine WC.regionD ([(3, ((adr A_p0).add ((x95).toNat * 4)), (iv ((rdD p0 x95 z_Tile).N))), (3, (((adr A_p0).add ((x95).toNat * 4)).add 1), (iv ((rdD p0 x95 z_Tile).E))), (3, (((adr A_p0).add ((x95).toNat * 4)).add 2), (iv ((rdD p0 x95 z_Tile).S))), (3, (((adr A_p0).add ((x95).toNat * 4)).add 3), (iv ((rdD p0 x95 z_Tile).W))), (4, ⟨g76, 0, none⟩, (iv p1.N)), (4, ⟨g76, 1, none⟩, (iv p1.E)), (4, ⟨g76, 2, none⟩, (iv p1.S)), (4, ⟨g76, 3, none⟩, (iv p1.W))], [0, 1, 2, 3, 4, 5], [[], [], [0, 1], [0, 1, 2], [], [0, 1, 2, 3, 4]]) [[0, 1, 2, 3, 4, 5]] (by kernel_rfl) (by kernel_rfl) (NoPanic.seq (NoPanic.block (NoPanic.seq (NoPanic.seq (NoPanic.block (NoPanic.seq (NoPanic.body))))))) ?_
    have hS105 := hS100.drew
    revert hS105
    generalize World.drew w99 = w104
    intro hS105
    refine ⟨⟨rowR.cell (hS105.rd 0).1 z_Tile h107.1 h107.2 0 rfl, rowR.cell (hS105.rd 0).1 z_Tile h107.1 h107.2 1 rfl, rowR.cell (hS105.rd 0).1 z_Tile h107.1 h107.2 2 rfl, rowR.cell (hS105.rd 0).1 z_Tile h107.1 h107.2 3 rfl, hS105.cell 0 rfl 0 rfl, hS105.cell 0 rfl 1 rfl, hS105.cell 0 rfl 2 rfl, hS105.cell 0 rfl 3 rfl, trivial⟩, forallC ?_ (forallN)⟩
    refine segF 6 [.v (iv ((rdD p0 x95 z_Tile).N)), .v (iv ((rdD p0 x95 z_Tile).E)), .v (iv ((rdD p0 x95 z_Tile).S)), .v (iv ((rdD p0 x95 z_Tile).W)), .v (iv p1.N), .v (iv p1.E), .v (iv p1.S), .v (iv p1.W)] [0, 3, 5, 17] [(0, (.slice A_p0 p0.length c_p0)), (3, (pt g76)), (5, (iv x95)), (17, (.bool (((rdD p0 x95 z_Tile).N) == p1.N && (((rdD p0 x95 z_Tile).E) == p1.E && (((rdD p0 x95 z_Tile).S) == p1.S && (((rdD p0 x95 z_Tile).W) == p1.W))))))] [.idx A_p0 x95 p0.length] [0, 1, 2, 3, 4, 5, 6, 7] [(3, ((adr A_p0).add ((x95).toNat * 4)), (iv ((rdD p0 x95 z_Tile).N))), (3, (((adr A_p0).add ((x95).toNat * 4)).add 1), (iv ((rdD p0 x95 z_Tile).E))), (3, (((adr A_p0).add ((x95).toNat * 4)).add 2), (iv ((rdD p0 x95 z_Tile).S))), (3, (((adr A_p0).add ((x95).toNat * 4)).add 3), (iv ((rdD p0 x95 z_Tile).W))), (4, ⟨g76, 0, none⟩, (iv p1.N)), (4, ⟨g76, 1, none⟩, (iv p1.E)), (4, ⟨g76, 2, none⟩, (iv p1.S)), (4, ⟨g76, 3, none⟩, (iv p1.W))] (fun fb => by kernel_rfl) rfl ⟨rowR.adr (hS105.rd 0).1 h107.1 h107.2, trivial⟩ rfl ?_
    refine WL.done rfl ?_
    refine WX.next ?_
    rcases br_some hl101 with ⟨h108, hl101⟩ | ⟨h108, hl101⟩
    ·refine WC.condT2 (fun fb => by kernel_rfl) h108 ?_
     refine WC.seq ?_
     refine WC.region ?_
     refine seg 2 [] [4] [(4, (iv x95))] [] (fun fb => by kernel_rfl) rfl trivial ?_
     refine WL.done rfl ?_
     refine WX.next ?_
     refine WC.ret ?_
     injection hl101 with hl101
     subst hl101
     injection hf with hf
     subst hf
     exact WX.blockR (WX.thenR (WX.thenR (WX.blockR (WX.thenR (WX.ret_ [] (iv x95) [] (fun fb => by kernel_rfl) trivial ⟨_, rfl, rfl, hS105.keep⟩)))))
    refine WC.condF2 (fun fb => by kernel_rfl) h108 ?_
    refine WC.skip ?_
    refine WX.blockN (WX.next ?_)
    refine WC.region ?_
    refine seg 3 [] [0, 3, 5] [(0, (.slice A_p0 p0.length c_p0)), (3, (pt g76)), (5, (iv (w64 (x95 + 1))))] [] (fun fb => by kernel_rfl) rfl trivial ?_
    refine WL.done rfl ?_
    exact WX.again k98 (Nat.lt_succ_self _) (w64 (x95 + 1)) [0, 3, 5] rfl ⟨(hS105.subR [0]).sub [0] (by decide), hl101⟩
   refine WC.condF2 (fun fb => by kernel_rfl) h102 ?_
   refine WC.exit ?_
   injection hl101 with hl101
   exact WX.thenX (WX.thenX (WX.blockHere (WX.to Kx96 () [] rfl ⟨(hS100.subR [0]).sub [] (by decide), hl101.symm⟩)))
 rintro y112 w109 ⟨hS110, hq111⟩
 subst hq111
 have hf := sum_inr hf
 refine WX.next ?_
 refine WC.seq ?_
 refine WC.region ?_
 refine seg 1 [] [4] [(4, (iv (-1)))] [] (fun fb => by kernel_rfl) rfl trivial ?_
 refine WL.done rfl ?_
 refine WX.next ?_
 refine WC.ret ?_
 injection hf with hf
 subst hf
 exact WX.ret_ [] (iv (-1)) [] (fun fb => by kernel_rfl) trivial ⟨_, rfl, rfl, hS110.keep⟩
theorem ref01_Valid_calls (k : Nat) (p0 : List Tile) (A_p0 : Option Addr) (c_p0 : Nat) (r : Bool) (w : World) (hR0 : RO NoS w (rowR enc_Tile A_p0 c_p0 p0)) (hf : ref01_Valid k p0 = some r) :
  CallsR Tryd.prog 15 #[(.slice A_p0 p0.length c_p0)] w (fun v w' => v = (.bool r) ∧ Keeps NoS w w') := by
 have hS : St NoS w w [rowR enc_Tile A_p0 c_p0 p0] [] := St.init (ro_cons hR0 (ro_nil _ _))
 refine enter 48 Tryd.func15 rfl Tryd.ntmps15 rfl ?_
 unfold ref01_Valid at hf
 refine WC.seq ?_
 refine WC.region ?_
 refine seg 1 [] [0] [(0, (.slice A_p0 p0.length c_p0))] [] (fun fb => by kernel_rfl) rfl trivial ?_
 refine WL.done rfl ?_
 refine WX.next ?_
 refine WC.seq ?_
 refine WC.seq ?_
 refine WC.region ?_
 refine seg 3 [] [0, 7] [(0, (.slice A_p0 p0.length c_p0)), (7, (.bool (decide ((p0.length : Int) > 1000))))] [] (fun fb => by kernel_rfl) rfl trivial ?_
 refine WL.done rfl ?_
 refine WX.next ?_
 rcases br_some hf with ⟨h1, hf⟩ | ⟨h1, hf⟩
 ·refine WC.condT2 (fun fb => by kernel_rfl) h1 ?_
  refine WC.seq ?_
  refine WC.region ?_
  refine seg 1 [] [2] [(2, (.bool false))] [] (fun fb => by kernel_rfl) rfl trivial ?_
  refine WL.done rfl ?_
  refine WX.next ?_
  refine WC.ret ?_
  injection hf with hf
  subst hf
  exact WX.thenR (WX.ret_ [] (.bool false) [] (fun fb => by kernel_rfl) trivial ⟨_, rfl, rfl, hS.keep⟩)
 refine WC.condF2 (fun fb => by kernel_rfl) h1 ?_
 refine WC.skip ?_
 refine WX.next ?_
 refine WC.seq ?_
 refine WC.seq ?_
 refine WC.region ?_
 refine seg 1 [] [0, 3] [(0, (.slice A_p0 p0.length c_p0)), (3, (iv 0))] [] (fun fb => by kernel_rfl) rfl trivial ?_
 refine WL.done rfl ?_
 refine WX.next ?_
 obtain ⟨x410, hx411, hf⟩ := bind_some hf
 refine WC.cutN (T := Unit) (fun t => []) (fun t w1 => St NoS w w1 [rowR enc_Tile A_p0 c_p0 p0] [] ∧ x410 = .inr t) (fun Kx410 => ?_) ?_
 ·
  refine WC.block ?_
  refine WC.loop (T := Int) (fun t => [(0, (.slice A_p0 p0.length c_p0)), (3, (iv t))]) (fun n t w1 => St NoS w w1 [rowR enc_Tile A_p0 c_p0 p0] [] ∧ ref01_Valid.l0 n t p0 = some x410) k 0 [0, 3] rfl ⟨(hS.subR [0]).sub [] (by decide), hx411⟩ ?_
  rintro k412 x409 w413 ⟨hS414, hl415⟩
  cases k412 with
  | zero => rw [ref01_Valid.l0] at hl415; cases hl415
  | succ k412 =>
   rw [ref01_Valid.l0] at hl415
   refine WC.seq ?_
   refine WC.seq ?_
   refine WC.region ?_
   refine seg 4 [] [0, 3, 11] [(0, (.slice A_p0 p0.length c_p0)), (3, (iv x409)), (11, (.bool (decide (x409 < (p0.length : Int)))))] [] (fun fb => by kernel_rfl) rfl trivial ?_
   refine WL.done rfl ?_
   refine WX.next ?_
   rcases br_some hl415 with ⟨h416, hl415⟩ | ⟨h416, hl415⟩
   ·refine WC.condT2 (fun fb => by kernel_rfl) h416 ?_
    refine WC.skip ?_
    refine WX.next ?_
    refine WC.seq ?_
    refine WC.block ?_
    refine WC.seq ?_
    refine WC.region ?_
    refine seg 2 [] [0, 3, 14, 15] [(0, (.slice A_p0 p0.length c_p0)), (3, (iv x409)), (14, (.slice A_p0 p0.length c_p0)), (15, (iv x409))] [] (fun fb => by kernel_rfl) rfl trivial ?_
    obtain ⟨h417, hl415⟩ := as_some hl415
    refine seg 4 [.v (iv ((rdD p0 x409 z_Tile).N)), .v (iv ((rdD p0 x409 z_Tile).E)), .v (iv ((rdD p0 x409 z_Tile).S)), .v (iv ((rdD p0 x409 z_Tile).W))] [0, 3, 17] [(0, (.slice A_p0 p0.length c_p0)), (3, (iv x409)), (17, (.agg #[(iv ((rdD p0 x409 z_Tile).N)), (iv ((rdD p0 x409 z_Tile).E)), (iv ((rdD p0 x409 z_Tile).S)), (iv ((rdD p0 x409 z_Tile).W))]))] [.idx A_p0 x409 p0.length, .cell ((adr A_p0).add ((x409).toNat * 4)) (iv ((rdD p0 x409 z_Tile).N)), .cell (((adr A_p0).add ((x409).toNat * 4)).add 1) (iv ((rdD p0 x409 z_Tile).E)), .cell (((adr A_p0).add ((x409).toNat * 4)).add 2) (iv ((rdD p0 x409 z_Tile).S)), .cell (((adr A_p0).add ((x409).toNat * 4)).add 3) (iv ((rdD p0 x409 z_Tile).W))] (fun fb => by kernel_rfl) rfl ⟨rowR.adr (hS414.rd 0).1 h417.1 h417.2, rowR.cell (hS414.rd 0).1 z_Tile h417.1 h417.2 0 rfl, rowR.cell (hS414.rd 0).1 z_Tile h417.1 h417.2 1 rfl, rowR.cell (hS414.rd 0).1 z_Tile h417.1 h417.2 2 rfl, rowR.cell (hS414.rd 0).1 z_Tile h417.1 h417.2 3 rfl, trivial⟩ ?_
    refine WL.new hS414 4 [] (fun g => (.pointer (some ⟨g, 0, none⟩))) (.cells #[(iv 0), (iv 0), (iv 0), (iv 0)] 40 (0, 0)) [] (fun fb g => by kernel_rfl) trivial (fun g418 w419 hS420 => ?_)
    refine ⟨trivial, ?_⟩
    refine WL.store hS420 0 rfl [(0, (iv ((rdD p0 x409 z_Tile).N))), (1, (iv ((rdD p0 x409 z_Tile).E))), (2, (iv ((rdD p0 x409 z_Tile).S))), (3, (iv ((rdD p0 x409 z_Tile).W)))] #[(iv ((rdD p0 x409 z_Tile).N)), (iv ((rdD p0 x409 z_Tile).E)), (iv ((rdD p0 x409 z_Tile).S)), (iv ((rdD p0 x409 z_Tile).W))] (fun fb => by kernel_rfl) (by kernel_rfl) rfl [] (by decide) (by decide) (fun w422 hS423 => ?_)
    refine ⟨trivial, ?_⟩
    refine WL.done rfl ?_
    refine WX.next ?_
    refine WC.seq ?_
    refine WC.regionD ([(1, ⟨g418, 0, none⟩, (iv ((rdD p0 x409 z_Tile).N))), (6, ⟨g418, 1, none⟩, (iv ((rdD p0 x409 z_Tile).E))), (12, ⟨g418, 2, none⟩, (iv ((rdD p0 x409 z_Tile).S))), (18, ⟨g418, 3, none⟩, (iv ((rdD p0 x409 z_Tile).W))), (26, ⟨g418, 0, none⟩, (iv ((rdD p0 x409 z_Tile).N))), (26, ⟨g418, 1, none⟩, (iv ((rdD p0 x409 z_Tile).E))), (26, ⟨g418, 2, none⟩, (iv ((rdD p0 x409 z_Tile).S))), (26, ⟨g418, 3, none⟩, (iv ((rdD p0 x409 z_Tile).W)))], [0, 1, 3, 4, 5, 6, 8, 9, 10, 11, 12, 14, 15, 16, 17, 18, 20, 21, 22, 23, 24, 25, 26, 28, 29], [[], [0], [0, 1], [0, 1, 2], [0, 1, 2, 3], [0, 1, 2, 3, 4], [0, 1, 2, 3, 4, 5], [0, 1, 2, 3, 4, 5, 6], [0, 1, 2, 3, 4, 5, 6, 7], [0, 1, 2, 3, 4, 5, 6, 7, 8], [0, 1, 2, 3, 4, 5, 6, 7, 8, 9], [0, 1, 2, 3, 4, 5, 6, 7, 8, 9, 10], [0, 1, 2, 3, 4, 5, 6, 7, 8, 9, 10, 11], [0, 1, 2, 3, 4, 5, 6, 7, 8, 9, 10, 11, 12], [0, 1, 2, 3, 4, 5, 6, 7, 8, 9, 10, 11, 12, 13], [0, 1, 2, 3, 4, 5, 6, 7, 8, 9, 10, 11, 12, 13, 14], [0, 1, 2, 3, 4, 5, 6, 7, 8, 9, 10, 11, 12, 13, 14, 15], [0, 1, 2, 3, 4, 5, 6, 7, 8, 9, 10, 11, 12, 13, 14, 15, 16], [0, 1, 2, 3, 4, 5, 6, 7, 8, 9, 10, 11, 12, 13, 14, 15, 16, 17], [0, 1, 2, 3, 4, 5, 6, 7, 8, 9, 10, 11, 12, 13, 14, 15, 16, 17, 18], [0, 1, 2, 3, 4, 5, 6, 7, 8, 9, 10, 11, 12, 13, 14, 15, 16, 17, 18, 19], [0, 1, 2, 3, 4, 5, 6, 7, 8, 9, 10, 11, 12, 13, 14, 15, 16, 17, 18, 19, 20], [0, 1, 2, 3, 4, 5, 6, 7, 8, 9, 10, 11, 12, 13, 14, 15, 16, 17, 18, 19, 20, 21], [0, 1, 2, 3, 4, 5, 6, 7, 8, 9, 10, 11, 12, 13, 14, 15, 16, 17, 18, 19, 20, 21, 22], [0, 1, 2, 3, 4, 5, 6, 7, 8, 9, 10, 11, 12, 13, 14, 15, 16, 17, 18, 19, 20, 21, 22], [0, 1, 2, 3, 4, 5, 6, 7, 8, 9, 10, 11, 12, 13, 14, 15, 16, 17, 18, 19, 20, 21, 22, 23, 24], [0, 1, 2, 3, 4, 5, 6, 7, 8, 9, 10, 11, 12, 13, 14, 15, 16, 17, 18, 19, 20, 21, 22], [0, 1, 2, 3, 4, 5, 6, 7, 8, 9, 10, 11, 12, 13, 14, 15, 16, 17, 18, 19, 20, 21, 22, 23, 24, 25, 26], [0, 1, 2, 3, 4, 5, 6, 7, 8, 9, 10, 11, 12, 13, 14, 15, 16, 17, 18, 19, 20, 21, 22, 23, 24, 25, 26, 27], [0, 1, 2, 3, 4, 5, 6, 7, 8, 9, 10, 11, 12, 13, 14, 15, 16, 17, 18, 19, 20, 21, 22, 23, 24, 25, 26, 27, 28]]) [[0, 1, 2, 3, 4, 5, 6, 7, 8, 9, 10, 11, 12, 13, 14, 15, 16, 17, 18, 19, 20, 21, 22, 23, 24, 25, 26, 27, 28, 29]] (by kernel_rfl) (by kernel_rfl) (NoPanic.seq (NoPanic.block (NoPanic.seq (NoPanic.seq (NoPanic.block (NoPanic.seq (NoPanic.body))))))) ?_
    have hS510 := hS423.drew
    revert hS510
    generalize World.drew w422 = w509
    intro hS510
    refine ⟨⟨hS510.cell 0 rfl 0 rfl, hS510.cell 0 rfl 1 rfl, hS510.cell 0 rfl 2 rfl, hS510.cell 0 rfl 3 rfl, hS510.cell 0 rfl 0 rfl, hS510.cell 0 rfl 1 rfl, hS510.cell 0 rfl 2 rfl, hS510.cell 0 rfl 3 rfl, trivial⟩, forallC ?_ (forallN)⟩
    refine segF 2 [.v (iv ((rdD p0 x409 z_Tile).N))] [0, 3, 4, 19] [(0, (.slice A_p0 p0.length c_p0)), (3, (iv x409)), (4, (pt g418)), (19, (iv ((rdD p0 x409 z_Tile).N)))] [] [0] [(1, ⟨g418, 0, none⟩, (iv ((rdD p0 x409 z_Tile).N)))] (fun fb => by kernel_rfl) rfl trivial rfl ?_
    obtain ⟨t513, ht514, hl415⟩ := bind_some hl415
    refine WL.call (some 20) 50 #[(iv ((rdD p0 x409 z_Tile).N))] (fun fb => by kernel_rfl) (ref01_colour_calls ((rdD p0 x409 z_Tile).N) t513 _ ht514) (fun v w515 hR516 => ?_)
    obtain ⟨rfl, hk_⟩ := hR516
    have hS517 := hS510.keepN hk_
    refine ⟨⟨hS517.cell 0 rfl 1 rfl, hS517.cell 0 rfl 2 rfl, hS517.cell 0 rfl 3 rfl, hS517.cell 0 rfl 0 rfl, hS517.cell 0 rfl 1 rfl, hS517.cell 0 rfl 2 rfl, hS517.cell 0 rfl 3 rfl, trivial⟩, ?_⟩
    refine seg 5 [] [0, 3, 4, 22] [(0, (.slice A_p0 p0.length c_p0)), (3, (iv x409)), (4, (pt g418)), (22, (.bool (!t513)))] [] (fun fb => by kernel_rfl) rfl trivial ?_
    obtain ⟨x524, hx525, hl415⟩ := bind_some hl415
    refine WL.cutW (T := Bool) 10 (fun t => [(0, (.slice A_p0 p0.length c_p0)), (3, (iv x409)), (4, (pt g418)), (27, (.bool t))]) (fun t w1 => (St NoS w w1 [rowR enc_Tile A_p0 c_p0 p0] [blk g418 (.cells #[(iv ((rdD p0 x409 z_Tile).N)), (iv ((rdD p0 x409 z_Tile).E)), (iv ((rdD p0 x409 z_Tile).S)), (iv ((rdD p0 x409 z_Tile).W))] 40 (0, 0))] ∧ x524 = t) ∧ CellsOK [] w1) (fun K => ?_) ?_
    ·
     rcases br_some hx525 with ⟨h526, hx525⟩ | ⟨h526, hx525⟩
     ·
      refine WL.setB 22 h526 rfl ?_
      refine seg 10 [] [0, 3, 4, 27] [(0, (.slice A_p0 p0.length c_p0)), (3, (iv x409)), (4, (pt g418)), (27, (.bool true))] [] (fun fb => by kernel_rfl) rfl trivial ?_
      injection hx525 with hx525
      exact WL.to K true [0, 3, 4, 27] rfl ⟨⟨(hS517.subR [0]).sub [0] (by decide), hx525.symm⟩, trivial⟩
     refine WL.setB 22 h526 rfl ?_
     refine segF 7 [.v (iv ((rdD p0 x409 z_Tile).E))] [0, 3, 4, 22, 24] [(0, (.slice A_p0 p0.length c_p0)), (3, (iv x409)), (4, (pt g418)), (22, (.bool false)), (24, (iv ((rdD p0 x409 z_Tile).E)))] [] [1] [(6, ⟨g418, 1, none⟩, (iv ((rdD p0 x409 z_Tile).E)))] (fun fb => by kernel_rfl) rfl trivial rfl ?_
     obtain ⟨t527, ht528, hx525⟩ := bind_some hx525
     refine WL.call (some 25) 50 #[(iv ((rdD p0 x409 z_Tile).E))] (fun fb => by kernel_rfl) (ref01_colour_calls ((rdD p0 x409 z_Tile).E) t527 _ ht528) (fun v w529 hR530 => ?_)
     obtain ⟨rfl, hk_⟩ := hR530
     have hS531 := hS517.keepN hk_
     refine ⟨⟨hS531.cell 0 rfl 2 rfl, hS531.cell 0 rfl 3 rfl, hS531.cell 0 rfl 0 rfl, hS531.cell 0 rfl 1 rfl, hS531.cell 0 rfl 2 rfl, hS531.cell 0 rfl 3 rfl, trivial⟩, ?_⟩
     refine seg 10 [] [0, 3, 4, 27] [(0, (.slice A_p0 p0.length c_p0)), (3, (iv x409)), (4, (pt g418)), (27, (.bool (!t527)))] [] (fun fb => by kernel_rfl) rfl trivial ?_
     injection hx525 with hx525
     exact WL.to K (!t527) [0, 3, 4, 27] rfl ⟨⟨(hS531.subR [0]).sub [0] (by decide), hx525.symm⟩, trivial⟩
    rintro y532 w534 ⟨⟨hS535, hq533⟩, hF536⟩
    subst hq533
    refine seg 11 [] [0, 3, 4, 28] [(0, (.slice A_p0 p0.length c_p0)), (3, (iv x409)), (4, (pt g418)), (28, (.bool x524))] [] (fun fb => by kernel_rfl) rfl trivial ?_
    obtain ⟨x543, hx544, hl415⟩ := bind_some hl415
    refine WL.cutW (T := Bool) 16 (fun t => [(0, (.slice A_p0 p0.length c_p0)), (3, (iv x409)), (4, (pt g418)), (33, (.bool t))]) (fun t w1 => (St NoS w w1 [rowR enc_Tile A_p0 c_p0 p0] [blk g418 (.cells #[(iv ((rdD p0 x409 z_Tile).N)), (iv ((rdD p0 x409 z_Tile).E)), (iv ((rdD p0 x409 z_Tile).S)), (iv ((rdD p0 x409 z_Tile).W))] 40 (0, 0))] ∧ x543 = t) ∧ CellsOK [] w1) (fun K => ?_) ?_
    ·
     rcases br_some hx544 with ⟨h545, hx544⟩ | ⟨h545, hx544⟩
     ·
      refine WL.setB 28 h545 rfl ?_
      refine seg 16 [] [0, 3, 4, 33] [(0, (.slice A_p0 p0.length c_p0)), (3, (iv x409)), (4, (pt g418)), (33, (.bool true))] [] (fun fb => by kernel_rfl) rfl trivial ?_
      injection hx544 with hx544
      exact WL.to K true [0, 3, 4, 33] rfl ⟨⟨(hS535.subR [0]).sub [0] (by decide), hx544.symm⟩, trivial⟩
     refine WL.setB 28 h545 rfl ?_
     refine segF 13 [.v (iv ((rdD p0 x409 z_Tile).S))] [0, 3, 4, 28, 30] [(0, (.slice A_p0 p0.length c_p0)), (3, (iv x409)), (4, (pt g418)), (28, (.bool false)), (30, (iv ((rdD p0 x409 z_Tile).S)))] [] [2] [(12, ⟨g418, 2, none⟩, (iv ((rdD p0 x409 z_Tile).S)))] (fun fb => by kernel_rfl) rfl trivial rfl ?_
     obtain ⟨t546, ht547, hx544⟩ := bind_some hx544
     refine WL.call (some 31) 50 #[(iv ((rdD p0 x409 z_Tile).S))] (fun fb => by kernel_rfl) (ref01_colour_calls ((rdD p0 x409 z_Tile).S) t546 _ ht547) (fun v w548 hR549 => ?_)
     obtain ⟨rfl, hk_⟩ := hR549
     have hS550 := hS535.keepN hk_
     refine ⟨⟨hS550.cell 0 rfl 3 rfl, hS550.cell 0 rfl 0 rfl, hS550.cell 0 rfl 1 rfl, hS550.cell 0 rfl 2 rfl, hS550.cell 0 rfl 3 rfl, trivial⟩, ?_⟩
     refine seg 16 [] [0, 3, 4, 33] [(0, (.slice A_p0 p0.length c_p0)), (3, (iv x409)), (4, (pt g418)), (33, (.bool (!t546)))] [] (fun fb => by kernel_rfl) rfl trivial ?_
     injection hx544 with hx544
     exact WL.to K (!t546) [0, 3, 4, 33] rfl ⟨⟨(hS550.subR [0]).sub [0] (by decide), hx544.symm⟩, trivial⟩
    rintro y551 w553 ⟨⟨hS554, hq552⟩, hF555⟩
    subst hq552
    refine seg 17 [] [0, 3, 4, 34] [(0, (.slice A_p0 p0.length c_p0)), (3, (iv x409)), (4, (pt g418)), (34, (.bool x543))] [] (fun fb => by kernel_rfl) rfl trivial ?_
    obtain ⟨x562, hx563, hl415⟩ := bind_some hl415
    refine WL.cutW (T := Bool) 22 (fun t => [(0, (.slice A_p0 p0.length c_p0)), (3, (iv x409)), (4, (pt g418)), (39, (.bool t))]) (fun t w1 => (St NoS w w1 [rowR enc_Tile A_p0 c_p0 p0] [blk g418 (.cells #[(iv ((rdD p0 x409 z_Tile).N)), (iv ((rdD p0 x409 z_Tile).E)), (iv ((rdD p0 x409 z_Tile).S)), (iv ((rdD p0 x409 z_Tile).W))] 40 (0, 0))] ∧ x562 = t) ∧ CellsOK [] w1) (fun K => ?_) ?_
    ·
     rcases br_some hx563 with ⟨h564, hx563⟩ | ⟨h564, hx563⟩
     ·
      refine WL.setB 34 h564 rfl ?_
      refine seg 22 [] [0, 3, 4, 39] [(0, (.slice A_p0 p0.length c_p0)), (3, (iv x409)), (4, (pt g418)), (39, (.bool true))] [] (fun fb => by kernel_rfl) rfl trivial ?_
      injection hx563 with hx563
      exact WL.to K true [0, 3, 4, 39] rfl ⟨⟨(hS554.subR [0]).sub [0] (by decide), hx563.symm⟩, trivial⟩
     refine WL.setB 34 h564 rfl ?_
     refine segF 19 [.v (iv ((rdD p0 x409 z_Tile).W))] [0, 3, 4, 34, 36] [(0, (.slice A_p0 p0.length c_p0)), (3, (iv x409)), (4, (pt g418)), (34, (.bool false)), (36, (iv ((rdD p0 x409 z_Tile).W)))] [] [3] [(18, ⟨g418, 3, none⟩, (iv ((rdD p0 x409 z_Tile).W)))] (fun fb => by kernel_rfl) rfl trivial rfl ?_
     obtain ⟨t565, ht566, hx563⟩ := bind_some hx563
     refine WL.call (some 37) 50 #[(iv ((rdD p0 x409 z_Tile).W))] (fun fb => by kernel_rfl) (ref01_colour_calls ((rdD p0 x409 z_Tile).W) t565 _ ht566) (fun v w567 hR568 => ?_)
     obtain ⟨rfl, hk_⟩ := hR568
     have hS569 := hS554.keepN hk_
     refine ⟨⟨hS569.cell 0 rfl 0 rfl, hS569.cell 0 rfl 1 rfl, hS569.cell 0 rfl 2 rfl, hS569.cell 0 rfl 3 rfl, trivial⟩, ?_⟩
     refine seg 22 [] [0, 3, 4, 39] [(0, (.slice A_p0 p0.length c_p0)), (3, (iv x409)), (4, (pt g418)), (39, (.bool (!t565)))] [] (fun fb => by kernel_rfl) rfl trivial ?_
     injection hx563 with hx563
     exact WL.to K (!t565) [0, 3, 4, 39] rfl ⟨⟨(hS569.subR [0]).sub [0] (by decide), hx563.symm⟩, trivial⟩
    rintro y570 w572 ⟨⟨hS573, hq571⟩, hF574⟩
    subst hq571
    refine seg 23 [] [0, 3, 4, 40] [(0, (.slice A_p0 p0.length c_p0)), (3, (iv x409)), (4, (pt g418)), (40, (.bool x562))] [] (fun fb => by kernel_rfl) rfl trivial ?_
    obtain ⟨x583, hx584, hl415⟩ := bind_some hl415
    refine WL.cutW (T := Bool) 30 (fun t => [(0, (.slice A_p0 p0.length c_p0)), (3, (iv x409)), (47, (.bool t))]) (fun t w1 => (St NoS w w1 [rowR enc_Tile A_p0 c_p0 p0] [] ∧ x583 = t) ∧ CellsOK [] w1) (fun K => ?_) ?_
    ·
     rcases br_some hx584 with ⟨h585, hx584⟩ | ⟨h585, hx584⟩
     ·
      refine WL.setB 40 h585 rfl ?_
      refine seg 30 [] [0, 3, 47] [(0, (.slice A_p0 p0.length c_p0)), (3, (iv x409)), (47, (.bool true))] [] (fun fb => by kernel_rfl) rfl trivial ?_
      injection hx584 with hx584
      exact WL.to K true [0, 3, 47] rfl ⟨⟨(hS573.subR [0]).sub [] (by decide), hx584.symm⟩, trivial⟩
     refine WL.setB 40 h585 rfl ?_
     refine seg 25 [] [0, 3, 4, 40, 41, 42] [(0, (.slice A_p0 p0.length c_p0)), (3, (iv x409)), (4, (pt g418)), (40, (.bool false)), (41, (.slice A_p0 p0.length c_p0)), (42, (iv x409))] [] (fun fb => by kernel_rfl) rfl trivial ?_
     obtain ⟨h586, hx584⟩ := as_some hx584
     refine seg 26 [] [0, 3, 4, 40, 43] [(0, (.slice A_p0 p0.length c_p0)), (3, (iv x409)), (4, (pt g418)), (40, (.bool false)), (43, (.slice (subA A_p0 c_p0 (0 : Int).toNat 4) (x409.toNat - (0 : Int).toNat) (c_p0 - (0 : Int).toNat)))] [.idx (some ⟨0, 0, none⟩) (0 : Int) (x409.toNat + 1), .idx (some ⟨0, 0, none⟩) x409 (c_p0 + 1)] (fun fb => by kernel_rfl) rfl ⟨cut1 h586.1 h586.2.1, cut2 h586.1 h586.2.1 h586.2.2 (hS573.rd 0).1.2, trivial⟩ ?_
     refine WL.reE [0, 3, 4, 40, 43] [(0, (.slice A_p0 p0.length c_p0)), (3, (iv x409)), (4, (pt g418)), (40, (.bool false)), (43, (.slice (subA A_p0 c_p0 (0 : Int).toNat 4) (x409.toNat - (0 : Int).toNat) (c_p0 - (0 : Int).toNat)))] [(0, (.slice A_p0 p0.length c_p0)), (3, (iv x409)), (4, (pt g418)), (40, (.bool false)), (43, (.slice (subA A_p0 c_p0 (0 : Int).toNat 4) (cut p0 (0 : Int) x409).length (c_p0 - (0 : Int).toNat)))] rfl (by rw [cut_length h586.1 h586.2.1 h586.2.2]) ?_
     have hS587 := hS573.cutR 0 rfl h586.1 h586.2.1 h586.2.2
     refine segF 27 [.v (iv ((rdD p0 x409 z_Tile).N)), .v (iv ((rdD p0 x409 z_Tile).E)), .v (iv ((rdD p0 x409 z_Tile).S)), .v (iv ((rdD p0 x409 z_Tile).W))] [0, 3, 40, 43, 44] [(0, (.slice A_p0 p0.length c_p0)), (3, (iv x409)), (40, (.bool false)), (43, (.slice (subA A_p0 c_p0 (0 : Int).toNat 4) (cut p0 (0 : Int) x409).length (c_p0 - (0 : Int).toNat))), (44, (.agg #[(iv ((rdD p0 x409 z_Tile).N)), (iv ((rdD p0 x409 z_Tile).E)), (iv ((rdD p0 x409 z_Tile).S)), (iv ((rdD p0 x409 z_Tile).W))]))] [] [4, 5, 6, 7] [(26, ⟨g418, 0, none⟩, (iv ((rdD p0 x409 z_Tile).N))), (26, ⟨g418, 1, none⟩, (iv ((rdD p0 x409 z_Tile).E))), (26, ⟨g418, 2, none⟩, (iv ((rdD p0 x409 z_Tile).S))), (26, ⟨g418, 3, none⟩, (iv ((rdD p0 x409 z_Tile).W)))] (fun fb => by kernel_rfl) rfl trivial rfl ?_
     obtain ⟨t588, ht589, hx584⟩ := bind_some hx584
     refine WL.call (some 45) 51 #[(.slice (subA A_p0 c_p0 (0 : Int).toNat 4) (cut p0 (0 : Int) x409).length (c_p0 - (0 : Int).toNat)), (.agg #[(iv ((rdD p0 x409 z_Tile).N)), (iv ((rdD p0 x409 z_Tile).E)), (iv ((rdD p0 x409 z_Tile).S)), (iv ((rdD p0 x409 z_Tile).W))])] (fun fb => by kernel_rfl) (ref01_Index_calls _ (cut p0 (0 : Int) x409) (rdD p0 x409 z_Tile) (subA A_p0 c_p0 (0 : Int).toNat 4) (c_p0 - (0 : Int).toNat) t588 _ (hS587.rd 0) ht589) (fun v w590 hR591 => ?_)
     obtain ⟨rfl, hk_⟩ := hR591
     have hS592 := hS587.keepN hk_
     refine ⟨trivial, ?_⟩
     refine seg 30 [] [0, 3, 47] [(0, (.slice A_p0 p0.length c_p0)), (3, (iv x409)), (47, (.bool (decide (t588 ≥ 0))))] [] (fun fb => by kernel_rfl) rfl trivial ?_
     injection hx584 with hx584
     exact WL.to K (decide (t588 ≥ 0)) [0, 3, 47] rfl ⟨⟨(hS592.subR [1]).sub [] (by decide), hx584.symm⟩, trivial⟩
    rintro y593 w595 ⟨⟨hS596, hq594⟩, hF597⟩
    subst hq594
    refine WL.done rfl ?_
    refine WX.next ?_
    rcases br_some hl415 with ⟨h598, hl415⟩ | ⟨h598, hl415⟩
    ·refine WC.condT2 (fun fb => by kernel_rfl) h598 ?_
     refine WC.seq ?_
     refine WC.region ?_
     refine seg 1 [] [2] [(2, (.bool false))] [] (fun fb => by kernel_rfl) rfl trivial ?_
     refine WL.done rfl ?_
     refine WX.next ?_
     refine WC.ret ?_
     injection hl415 with hl415
     subst hl415
     injection hf with hf
     subst hf
     exact WX.blockR (WX.thenR (WX.thenR (WX.blockR (WX.thenR (WX.ret_ [] (.bool false) [] (fun fb => by kernel_rfl) trivial ⟨_, rfl, rfl, hS596.keep⟩)))))
    refine WC.condF2 (fun fb => by kernel_rfl) h598 ?_
    refine WC.skip ?_
    refine WX.blockN (WX.next ?_)
    refine WC.region ?_
    refine seg 3 [] [0, 3] [(0, (.slice A_p0 p0.length c_p0)), (3, (iv (w64 (x409 + 1))))] [] (fun fb => by kernel_rfl) rfl trivial ?_
    refine WL.done rfl ?_
    exact WX.again k412 (Nat.lt_succ_self _) (w64 (x409 + 1)) [0, 3] rfl ⟨(hS596.subR [0]).sub [] (by decide), hl415⟩
   refine WC.condF2 (fun fb => by kernel_rfl) h416 ?_
   refine WC.exit ?_
   injection hl415 with hl415
   exact WX.thenX (WX.thenX (WX.blockHere (WX.to Kx410 () [] rfl ⟨(hS414.subR [0]).sub [] (by decide), hl415.symm⟩)))
 rintro y602 w599 ⟨hS600, hq601⟩
 subst hq601
 have hf := sum_inr hf
 refine WX.next ?_
 refine WC.seq ?_
 refine WC.region ?_
 refine seg 1 [] [2] [(2, (.bool true))] [] (fun fb => by kernel_rfl) rfl trivial ?_
 refine WL.done rfl ?_
 refine WX.next ?_
 refine WC.ret ?_
 injection hf with hf
 subst hf
 exact WX.ret_ [] (.bool true) [] (fun fb => by kernel_rfl) trivial ⟨_, rfl, rfl, hS600.keep⟩
theorem ref02_at_calls (k : Nat) (p0 : List Int) (p1 : Int) (A_p0 : Option Addr) (c_p0 : Nat) (r : Int) (w : World) (hR0 : RO NoS w (rowR encInt A_p0 c_p0 p0)) (hf : ref02_at k p0 p1 = some r) :
  CallsR Tryd.prog 87 #[(.slice A_p0 p0.length c_p0), (iv p1)] w (fun v w' => v = (iv r) ∧ Keeps NoS w w') := by
 have hS : St NoS w w [rowR encInt A_p0 c_p0 p0] [] := St.init (ro_cons hR0 (ro_nil _ _))
 refine enter 19 Tryd.func87 rfl Tryd.ntmps87 rfl ?_
 unfold ref02_at at hf
 refine WC.seq ?_
 refine WC.region ?_
 refine seg 1 [] [0, 1] [(0, (.slice A_p0 p0.length c_p0)), (1, (iv p1))] [] (fun fb => by kernel_rfl) rfl trivial ?_
 refine WL.done rfl ?_
 refine WX.next ?_
 refine WC.seq ?_
 refine WC.seq ?_
 refine WC.region ?_
 refine seg 1 [] [0, 1, 5] [(0, (.slice A_p0 p0.length c_p0)), (1, (iv p1)), (5, (iv 0))] [] (fun fb => by kernel_rfl) rfl trivial ?_
 refine WL.done rfl ?_
 refine WX.next ?_
 obtain ⟨x633, hx634, hf⟩ := bind_some hf
 refine WC.cutN (T := Unit) (fun t => []) (fun t w1 => St NoS w w1 [rowR encInt A_p0 c_p0 p0] [] ∧ x633 = .inr t) (fun Kx633 => ?_) ?_
 ·
  refine WC.block ?_
  refine WC.loop (T := Int) (fun t => [(0, (.slice A_p0 p0.length c_p0)), (1, (iv p1)), (5, (iv t))]) (fun n t w1 => St NoS w w1 [rowR encInt A_p0 c_p0 p0] [] ∧ ref02_at.l0 n t p0 p1 = some x633) k 0 [0, 1, 5] rfl ⟨(hS.subR [0]).sub [] (by decide), hx634⟩ ?_
  rintro k635 x632 w636 ⟨hS637, hl638⟩
  cases k635 with
  | zero => rw [ref02_at.l0] at hl638; cases hl638
  | succ k635 =>
   rw [ref02_at.l0] at hl638
   refine WC.seq ?_
   refine WC.seq ?_
   refine WC.region ?_
   refine seg 4 [] [0, 1, 5, 9] [(0, (.slice A_p0 p0.length c_p0)), (1, (iv p1)), (5, (iv x632)), (9, (.bool (decide (x632 < (p0.length : Int)))))] [] (fun fb => by kernel_rfl) rfl trivial ?_
   refine WL.done rfl ?_
   refine WX.next ?_
   rcases br_some hl638 with ⟨h639, hl638⟩ | ⟨h639, hl638⟩
   ·refine WC.condT2 (fun fb => by kernel_rfl) h639 ?_
    refine WC.skip ?_
    refine WX.next ?_
    refine WC.seq ?_
    refine WC.block ?_
    refine WC.seq ?_
    refine WC.region ?_
    refine seg 2 [] [0, 1, 5, 12, 13] [(0, (.slice A_p0 p0.length c_p0)), (1, (iv p1)), (5, (iv x632)), (12, (.slice A_p0 p0.length c_p0)), (13, (iv x632))] [] (fun fb => by kernel_rfl) rfl trivial ?_
    obtain ⟨h640, hl638⟩ := as_some hl638
    refine seg 6 [.v (iv (rdD p0 x632 0))] [0, 1, 5, 17] [(0, (.slice A_p0 p0.length c_p0)), (1, (iv p1)), (5, (iv x632)), (17, (.bool ((rdD p0 x632 0) == p1)))] [.idx A_p0 x632 p0.length, .cell ((adr A_p0).add ((x632).toNat * 1)) (iv (rdD p0 x632 0))] (fun fb => by kernel_rfl) rfl ⟨rowR.adr (hS637.rd 0).1 h640.1 h640.2, rowR.cell (hS637.rd 0).1 0 h640.1 h640.2 0 rfl, trivial⟩ ?_
    refine WL.done rfl ?_
    refine WX.next ?_
    rcases br_some hl638 with ⟨h641, hl638⟩ | ⟨h641, hl638⟩
    ·refine WC.condT2 (fun fb => by kernel_rfl) h641 ?_
     refine WC.seq ?_
     refine WC.region ?_
     refine seg 2 [] [4] [(4, (iv x632))] [] (fun fb => by kernel_rfl) rfl trivial ?_
     refine WL.done rfl ?_
     refine WX.next ?_
     refine WC.ret ?_
     injection hl638 with hl638
     subst hl638
     injection hf with hf
     subst hf
     exact WX.blockR (WX.thenR (WX.thenR (WX.blockR (WX.thenR (WX.ret_ [] (iv x632) [] (fun fb => by kernel_rfl) trivial ⟨_, rfl, rfl, hS637.keep⟩)))))
    refine WC.condF2 (fun fb => by kernel_rfl) h641 ?_
    refine WC.skip ?_
    refine WX.blockN (WX.next ?_)
    refine WC.region ?_
    refine seg 3 [] [0, 1, 5] [(0, (.slice A_p0 p0.length c_p0)), (1, (iv p1)), (5, (iv (w64 (x632 + 1))))] [] (fun fb => by kernel_rfl) rfl trivial ?_
    refine WL.done rfl ?_
    exact WX.again k635 (Nat.lt_succ_self _) (w64 (x632 + 1)) [0, 1, 5] rfl ⟨(hS637.subR [0]).sub [] (by decide), hl638⟩
   refine WC.condF2 (fun fb => by kernel_rfl) h639 ?_
   refine WC.exit ?_
   injection hl638 with hl638
   exact WX.thenX (WX.thenX (WX.blockHere (WX.to Kx633 () [] rfl ⟨(hS637.subR [0]).sub [] (by decide), hl638.symm⟩)))
 rintro y645 w642 ⟨hS643, hq644⟩
 subst hq644
 have hf := sum_inr hf
 refine WX.next ?_
 refine WC.seq ?_
 refine WC.region ?_
 refine seg 1 [] [4] [(4, (iv (-1)))] [] (fun fb => by kernel_rfl) rfl trivial ?_
 refine WL.done rfl ?_
 refine WX.next ?_
 refine WC.ret ?_
 injection hf with hf
 subst hf
 exact WX.ret_ [] (iv (-1)) [] (fun fb => by kernel_rfl) trivial ⟨_, rfl, rfl, hS643.keep⟩
theorem ref02_with_calls (k : Nat) (p0 : List Int) (p1 : Int) (A_p0 : Option Addr) (c_p0 : Nat) (r : (List Int)) (w : World) (hI : IoOK w [rowO 3 encInt A_p0 c_p0 p0]) (hf : ref02_with k p0 p1 = some r) :
  CallsR Tryd.prog 67 #[(.slice A_p0 p0.length c_p0), (iv p1)] w (fun v w' => ∃ (A1_ : Option Addr), ∃ (c1_ : Nat), v = (.slice A1_ r.length c1_) ∧ St (fpL [rowO 3 encInt A_p0 c_p0 p0]) w w' [] [rowO 3 encInt A1_ c1_ r]) := by
 have hS : St (fpL [rowO 3 encInt A_p0 c_p0 p0]) w w [] [rowO 3 encInt A_p0 c_p0 p0] := St.initIO (ro_nil _ _) hI
 refine enter 14 Tryd.func67 rfl Tryd.ntmps67 rfl ?_
 unfold ref02_with at hf
 refine WC.seq ?_
 refine WC.region ?_
 refine seg 1 [] [0, 1] [(0, (.slice A_p0 p0.length c_p0)), (1, (iv p1))] [] (fun fb => by kernel_rfl) rfl trivial ?_
 refine WL.done rfl ?_
 refine WX.next ?_
 refine WC.seq ?_
 refine WC.seq ?_
 refine WC.region ?_
 refine seg 2 [] [0, 1, 5, 6] [(0, (.slice A_p0 p0.length c_p0)), (1, (iv p1)), (5, (.slice A_p0 p0.length c_p0)), (6, (iv p1))] [] (fun fb => by kernel_rfl) rfl trivial ?_
 obtain ⟨t658, ht659, hf⟩ := bind_some hf
 refine WL.call (some 7) 87 #[(.slice A_p0 p0.length c_p0), (iv p1)] (fun fb => by kernel_rfl) (ref02_at_calls _ p0 p1 A_p0 c_p0 t658 _ (hS.ow 0).ofO ht659) (fun v w660 hR661 => ?_)
 obtain ⟨rfl, hk_⟩ := hR661
 have hS662 := hS.keepN hk_
 refine ⟨trivial, ?_⟩
 refine seg 4 [] [0, 1, 8] [(0, (.slice A_p0 p0.length c_p0)), (1, (iv p1)), (8, (.bool (decide (t658 < 0))))] [] (fun fb => by kernel_rfl) rfl trivial ?_
 refine WL.done rfl ?_
 refine WX.next ?_
 obtain ⟨x677, hx678, hf⟩ := bind_some hf
 refine WC.cutN (T := (List Int) × (Option Addr) × Nat) (fun t => [(0, (.slice t.2.1 t.1.length t.2.2))]) (fun t w1 => St (fpL [rowO 3 encInt A_p0 c_p0 p0]) w w1 [] [rowO 3 encInt t.2.1 t.2.2 t.1] ∧ x677 = t.1) (fun Kx677 => ?_) ?_
 ·
  rcases br_some hx678 with ⟨h679, hx678⟩ | ⟨h679, hx678⟩
  ·refine WC.condT2 (fun fb => by kernel_rfl) h679 ?_
   refine WC.region ?_
   refine seg 2 [] [9, 10] [(9, (.slice A_p0 p0.length c_p0)), (10, (iv p1))] [] (fun fb => by kernel_rfl) rfl trivial ?_
   refine WL.new hS662 11 [] (fun g => (.slice (some ⟨g, 0, none⟩) 1 1)) (.cells #[(iv p1)] 3 (0, 0)) [] (fun fb g => by kernel_rfl) trivial (fun g680 w681 hS682 => ?_)
   refine ⟨trivial, ?_⟩
   have hS684 : St (fpL [rowO 3 encInt A_p0 c_p0 p0]) w w681 [] [rowO 3 encInt (some ⟨g680, 0, none⟩) 1 [p1], rowO 3 encInt A_p0 c_p0 p0] := hS682.map1 0 _ (fun h => rowO.ofBlk h rfl (Nat.le_of_ble_eq_true (by kernel_rfl))) (fun _ h => by obtain ⟨_, h1, h2⟩ := h; injection h1 with h1; subst h1; exact h2) [1] (by decide) (by decide)
   obtain ⟨h685, hx678⟩ := as_some hx678
   refine WL.append hS684 1 (d := 12) (tS := 25) (z := (iv 0)) (bytes := 8) (c2 := 1) rfl (fun fb => by kernel_rfl) (rowO.rd (hS684.own 0).1) (by kernel_rfl) (by kernel_rfl) rfl (by decide) h685 (by decide) [0] (by decide) (by decide) (fun A686 c687 w688 hS689 => ?_)
   refine ⟨trivial, ?_⟩
   refine seg 5 [] [0] [(0, (.slice A686 (p0 ++ [p1]).length c687))] [] (fun fb => by kernel_rfl) rfl trivial ?_
   refine WL.done rfl ?_
   injection hx678 with hx678
   exact WX.to Kx677 (p0 ++ [p1], A686, c687) [0] rfl ⟨(hS689.subR []).sub [0] (by decide), hx678.symm⟩
  refine WC.condF2 (fun fb => by kernel_rfl) h679 ?_
  refine WC.skip ?_
  injection hx678 with hx678
  exact WX.to Kx677 (p0, A_p0, c_p0) [0] rfl ⟨(hS662.subR []).sub [0] (by decide), hx678.symm⟩
 rintro ⟨y693, A674, c675⟩ w690 ⟨hS691, hq692⟩
 subst hq692
 refine WX.next ?_
 refine WC.seq ?_
 refine WC.region ?_
 refine seg 2 [] [4] [(4, (.slice A674 x677.length c675))] [] (fun fb => by kernel_rfl) rfl trivial ?_
 refine WL.done rfl ?_
 refine WX.next ?_
 refine WC.ret ?_
 injection hf with hf
 subst hf
 exact WX.ret_ [] (.slice A674 x677.length c675) [] (fun fb => by kernel_rfl) trivial ⟨_, rfl, A674, c675, rfl, (hS691.sub [0] (by decide)).noR⟩
theorem ref02_Colours_calls (k : Nat) (p0 : List Tile) (A_p0 : Option Addr) (c_p0 : Nat) (r : (List Int)) (w : World) (hR0 : RO NoS w (rowR enc_Tile A_p0 c_p0 p0)) (hf : ref02_Colours k p0 = some r) :
  CallsR Tryd.prog 38 #[(.slice A_p0 p0.length c_p0)] w (fun v w' => ∃ (A1_ : Option Addr), ∃ (c1_ : Nat), v = (.slice A1_ r.length c1_) ∧ St NoS w w' [] [rowO 3 encInt A1_ c1_ r]) := by
 have hS : St NoS w w [rowR enc_Tile A_p0 c_p0 p0] [] := St.init (ro_cons hR0 (ro_nil _ _))
 refine enter 25 Tryd.func38 rfl Tryd.ntmps38 rfl ?_
 unfold ref02_Colours at hf
 refine WC.seq ?_
 refine WC.region ?_
 refine seg 1 [] [0] [(0, (.slice A_p0 p0.length c_p0))] [] (fun fb => by kernel_rfl) rfl trivial ?_
 refine WL.done rfl ?_
 refine WX.next ?_
 refine WC.seq ?_
 refine WC.region ?_
 refine seg 1 [] [0, 3] [(0, (.slice A_p0 p0.length c_p0)), (3, (.slice none 0 0))] [] (fun fb => by kernel_rfl) rfl trivial ?_
 refine WL.done rfl ?_
 refine WX.next ?_
 refine WC.seq ?_
 refine WC.seq ?_
 refine WC.region ?_
 refine seg 1 [] [0, 3, 4] [(0, (.slice A_p0 p0.length c_p0)), (3, (.slice none 0 0)), (4, (iv 0))] [] (fun fb => by kernel_rfl) rfl trivial ?_
 refine WL.done rfl ?_
 refine WX.next ?_
 have hS767 := hS.nilrow 3 encInt
 obtain ⟨x775, hx776, hf⟩ := bind_some hf
 refine WC.cutN (T := (List Int) × (Option Addr) × Nat) (fun t => [(3, (.slice t.2.1 t.1.length t.2.2))]) (fun t w1 => St NoS w w1 [rowR enc_Tile A_p0 c_p0 p0] [rowO 3 encInt t.2.1 t.2.2 t.1] ∧ x775 = t.1) (fun Kx775 => ?_) ?_
 ·
  refine WC.block ?_
  refine WC.loop (T := ((List Int) × Int) × (Option Addr) × Nat) (fun t => [(0, (.slice A_p0 p0.length c_p0)), (3, (.slice t.2.1 t.1.1.length t.2.2)), (4, (iv t.1.2))]) (fun n t w1 => St NoS w w1 [rowR enc_Tile A_p0 c_p0 p0] [rowO 3 encInt t.2.1 t.2.2 t.1.1] ∧ ref02_Colours.l0 n t.1.1 t.1.2 p0 = some x775) k ((([] : List Int), 0), none, 0) [0, 3, 4] rfl ⟨(hS767.subR [0]).sub [0] (by decide), hx776⟩ ?_
  rintro k777 ⟨⟨l770, x771⟩, A768, c769⟩ w778 ⟨hS779, hl780⟩
  cases k777 with
  | zero => rw [ref02_Colours.l0] at hl780; cases hl780
  | succ k777 =>
   rw [ref02_Colours.l0] at hl780
   refine WC.seq ?_
   refine WC.seq ?_
   refine WC.region ?_
   refine seg 4 [] [0, 3, 4, 8] [(0, (.slice A_p0 p0.length c_p0)), (3, (.slice A768 l770.length c769)), (4, (iv x771)), (8, (.bool (decide (x771 < (p0.length : Int)))))] [] (fun fb => by kernel_rfl) rfl trivial ?_
   refine WL.done rfl ?_
   refine WX.next ?_
   rcases br_some hl780 with ⟨h781, hl780⟩ | ⟨h781, hl780⟩
   ·refine WC.condT2 (fun fb => by kernel_rfl) h781 ?_
    refine WC.skip ?_
    refine WX.next ?_
    refine WC.seq ?_
    refine WC.block ?_
    obtain ⟨h800, hl780⟩ := as_some hl780
    refine WC.regionD ([(5, ((adr A_p0).add ((x771).toNat * 4)), (iv ((rdD p0 x771 z_Tile).N))), (11, (((adr A_p0).add ((x771).toNat * 4)).add 2), (iv ((rdD p0 x771 z_Tile).S)))], [0, 1, 2, 3, 4, 5, 7, 8, 9, 10, 11, 13], [[], [], [], [1, 2], [1, 2, 3], [1, 2, 3, 4], [0, 1, 2, 3, 4, 5], [], [], [7, 8], [7, 8, 9], [7, 8, 9, 10], [0, 1, 2, 3, 4, 5, 6, 7, 8, 9, 10, 11], [0, 1, 2, 3, 4, 5, 6, 7, 8, 9, 10, 11, 12]]) [[0, 1, 2, 3, 4, 5, 7, 8, 9, 10, 11, 6, 12, 13]] (by kernel_rfl) (by kernel_rfl) (NoPanic.block (NoPanic.seq (NoPanic.seq (NoPanic.block (NoPanic.seq (NoPanic.body)))))) ?_
    have hS798 := hS779.drew
    revert hS798
    generalize World.drew w778 = w797
    intro hS798
    refine ⟨⟨rowR.cell (hS798.rd 0).1 z_Tile h800.1 h800.2 0 rfl, rowR.cell (hS798.rd 0).1 z_Tile h800.1 h800.2 2 rfl, trivial⟩, forallC ?_ (forallN)⟩
    refine segF 11 [.v (iv ((rdD p0 x771 z_Tile).N)), .v (iv ((rdD p0 x771 z_Tile).S))] [0, 4, 11, 16, 22] [(0, (.slice A_p0 p0.length c_p0)), (4, (iv x771)), (11, (.slice A768 l770.length c769)), (16, (iv ((rdD p0 x771 z_Tile).N))), (22, (iv ((rdD p0 x771 z_Tile).S)))] [.idx A_p0 x771 p0.length, .idx A_p0 x771 p0.length] [0, 1] [(5, ((adr A_p0).add ((x771).toNat * 4)), (iv ((rdD p0 x771 z_Tile).N))), (11, (((adr A_p0).add ((x771).toNat * 4)).add 2), (iv ((rdD p0 x771 z_Tile).S)))] (fun fb => by kernel_rfl) rfl ⟨rowR.adr (hS798.rd 0).1 h800.1 h800.2, rowR.adr (hS798.rd 0).1 h800.1 h800.2, trivial⟩ rfl ?_
    obtain ⟨t801, ht802, hl780⟩ := bind_some hl780
    refine WL.call (some 17) 67 #[(.slice A768 l770.length c769), (iv ((rdD p0 x771 z_Tile).N))] (fun fb => by kernel_rfl) (ref02_with_calls _ l770 ((rdD p0 x771 z_Tile).N) A768 c769 t801 _ (hS798.io [0] (by decide)) ht802) (fun v w803 hR804 => ?_)
    obtain ⟨A806, c807, rfl, hk_⟩ := hR804
    have hS805 : St NoS w w803 [rowR enc_Tile A_p0 c_p0 p0] [rowO 3 encInt A806 c807 t801] := hS798.call hk_ [0] [] (fun g hg => fpL_sel g hg) (by decide) (by decide)
    refine ⟨⟨rowR.cell (hS805.rd 0).1 z_Tile h800.1 h800.2 2 rfl, trivial⟩, ?_⟩
    obtain ⟨t808, ht809, hl780⟩ := bind_some hl780
    refine WL.call (some 23) 67 #[(.slice A806 t801.length c807), (iv ((rdD p0 x771 z_Tile).S))] (fun fb => by kernel_rfl) (ref02_with_calls _ t801 ((rdD p0 x771 z_Tile).S) A806 c807 t808 _ (hS805.io [0] (by decide)) ht809) (fun v w810 hR811 => ?_)
    obtain ⟨A813, c814, rfl, hk_⟩ := hR811
    have hS812 : St NoS w w810 [rowR enc_Tile A_p0 c_p0 p0] [rowO 3 encInt A813 c814 t808] := hS805.call hk_ [0] [] (fun g hg => fpL_sel g hg) (by decide) (by decide)
    refine ⟨trivial, ?_⟩
    refine seg 14 [] [0, 3, 4] [(0, (.slice A_p0 p0.length c_p0)), (3, (.slice A813 t808.length c814)), (4, (iv x771))] [] (fun fb => by kernel_rfl) rfl trivial ?_
    refine WL.done rfl ?_
    refine WX.blockN (WX.next ?_)
    refine WC.region ?_
    refine seg 3 [] [0, 3, 4] [(0, (.slice A_p0 p0.length c_p0)), (3, (.slice A813 t808.length c814)), (4, (iv (w64 (x771 + 1))))] [] (fun fb => by kernel_rfl) rfl trivial ?_
    refine WL.done rfl ?_
    exact WX.again k777 (Nat.lt_succ_self _) ((t808, w64 (x771 + 1)), A813, c814) [0, 3, 4] rfl ⟨(hS812.subR [0]).sub [0] (by decide), hl780⟩
   refine WC.condF2 (fun fb => by kernel_rfl) h781 ?_
   refine WC.exit ?_
   injection hl780 with hl780
   exact WX.thenX (WX.thenX (WX.blockHere (WX.to Kx775 (l770, A768, c769) [3] rfl ⟨(hS779.subR [0]).sub [0] (by decide), hl780.symm⟩)))
 rintro ⟨y818, A772, c773⟩ w815 ⟨hS816, hq817⟩
 subst hq817
 refine WX.next ?_
 refine WC.seq ?_
 refine WC.region ?_
 refine seg 2 [] [2] [(2, (.slice A772 x775.length c773))] [] (fun fb => by kernel_rfl) rfl trivial ?_
 refine WL.done rfl ?_
 refine WX.next ?_
 refine WC.ret ?_
 injection hf with hf
 subst hf
 exact WX.ret_ [] (.slice A772 x775.length c773) [] (fun fb => by kernel_rfl) trivial ⟨_, rfl, A772, c773, rfl, (hS816.sub [0] (by decide)).noR⟩
theorem ref02_Power_calls (k : Nat) (p0 : Int) (p1 : Int)  (r : Int) (w : World)  (hf : ref02_Power k p0 p1 = some r) :
  CallsR Tryd.prog 24 #[(iv p0), (iv p1)] w (fun v w' => v = (iv r) ∧ Keeps NoS w w') := by
 have hS : St NoS w w [] [] := St.init (ro_nil _ _)
 refine enter 17 Tryd.func24 rfl Tryd.ntmps24 rfl ?_
 unfold ref02_Power at hf
 refine WC.seq ?_
 refine WC.region ?_
 refine seg 1 [] [0, 1] [(0, (iv p0)), (1, (iv p1))] [] (fun fb => by kernel_rfl) rfl trivial ?_
 refine WL.done rfl ?_
 refine WX.next ?_
 refine WC.seq ?_
 refine WC.region ?_
 refine seg 1 [] [0, 1, 5] [(0, (iv p0)), (1, (iv p1)), (5, (iv 1))] [] (fun fb => by kernel_rfl) rfl trivial ?_
 refine WL.done rfl ?_
 refine WX.next ?_
 refine WC.seq ?_
 refine WC.seq ?_
 refine WC.region ?_
 refine seg 1 [] [0, 1, 5, 6] [(0, (iv p0)), (1, (iv p1)), (5, (iv 1)), (6, (iv 0))] [] (fun fb => by kernel_rfl) rfl trivial ?_
 refine WL.done rfl ?_
 refine WX.next ?_
 obtain ⟨x833, hx834, hf⟩ := bind_some hf
 refine WC.cutN (T := Int) (fun t => [(5, (iv t))]) (fun t w1 => St NoS w w1 [] [] ∧ x833 = t) (fun Kx833 => ?_) ?_
 ·
  refine WC.block ?_
  refine WC.loop (T := Int × Int) (fun t => [(0, (iv p0)), (1, (iv p1)), (5, (iv t.1)), (6, (iv t.2))]) (fun n t w1 => St NoS w w1 [] [] ∧ ref02_Power.l0 n t.1 t.2 p0 p1 = some x833) k (1, 0) [0, 1, 5, 6] rfl ⟨(hS.subR []).sub [] (by decide), hx834⟩ ?_
  rintro k835 ⟨x830, x831⟩ w836 ⟨hS837, hl838⟩
  cases k835 with
  | zero => rw [ref02_Power.l0] at hl838; cases hl838
  | succ k835 =>
   rw [ref02_Power.l0] at hl838
   refine WC.seq ?_
   refine WC.seq ?_
   refine WC.region ?_
   refine seg 3 [] [0, 1, 5, 6, 9] [(0, (iv p0)), (1, (iv p1)), (5, (iv x830)), (6, (iv x831)), (9, (.bool (decide (x831 < p1))))] [] (fun fb => by kernel_rfl) rfl trivial ?_
   refine WL.done rfl ?_
   refine WX.next ?_
   rcases br_some hl838 with ⟨h839, hl838⟩ | ⟨h839, hl838⟩
   ·refine WC.condT2 (fun fb => by kernel_rfl) h839 ?_
    refine WC.skip ?_
    refine WX.next ?_
    refine WC.seq ?_
    refine WC.block ?_
    refine WC.region ?_
    refine seg 5 [] [0, 1, 5, 6] [(0, (iv p0)), (1, (iv p1)), (5, (iv (minI (w64 (x830 * p0)) 1000000))), (6, (iv x831))] [] (fun fb => by kernel_rfl) rfl trivial ?_
    refine WL.done rfl ?_
    refine WX.blockN (WX.next ?_)
    refine WC.region ?_
    refine seg 3 [] [0, 1, 5, 6] [(0, (iv p0)), (1, (iv p1)), (5, (iv (minI (w64 (x830 * p0)) 1000000))), (6, (iv (w64 (x831 + 1))))] [] (fun fb => by kernel_rfl) rfl trivial ?_
    refine WL.done rfl ?_
    exact WX.again k835 (Nat.lt_succ_self _) (minI (w64 (x830 * p0)) 1000000, w64 (x831 + 1)) [0, 1, 5, 6] rfl ⟨(hS837.subR []).sub [] (by decide), hl838⟩
   refine WC.condF2 (fun fb => by kernel_rfl) h839 ?_
   refine WC.exit ?_
   injection hl838 with hl838
   exact WX.thenX (WX.thenX (WX.blockHere (WX.to Kx833 x830 [5] rfl ⟨(hS837.subR []).sub [] (by decide), hl838.symm⟩)))
 rintro y843 w840 ⟨hS841, hq842⟩
 subst hq842
 refine WX.next ?_
 refine WC.seq ?_
 refine WC.region ?_
 refine seg 2 [] [4] [(4, (iv x833))] [] (fun fb => by kernel_rfl) rfl trivial ?_
 refine WL.done rfl ?_
 refine WX.next ?_
 refine WC.ret ?_
 injection hf with hf
 subst hf
 exact WX.ret_ [] (iv x833) [] (fun fb => by kernel_rfl) trivial ⟨_, rfl, rfl, hS841.keep⟩
theorem ref02_Light_calls (k : Nat) (p0 : List Tile) (p1 : Int) (A_p0 : Option Addr) (c_p0 : Nat) (r : Bool) (w : World) (hR0 : RO NoS w (rowR enc_Tile A_p0 c_p0 p0)) (hf : ref02_Light k p0 p1 = some r) :
  CallsR Tryd.prog 61 #[(.slice A_p0 p0.length c_p0), (iv p1)] w (fun v w' => v = (.bool r) ∧ Keeps NoS w w') := by
 have hS : St NoS w w [rowR enc_Tile A_p0 c_p0 p0] [] := St.init (ro_cons hR0 (ro_nil _ _))
 refine enter 18 Tryd.func61 rfl Tryd.ntmps61 rfl ?_
 unfold ref02_Light at hf
 refine WC.seq ?_
 refine WC.region ?_
 refine seg 1 [] [0, 1] [(0, (.slice A_p0 p0.length c_p0)), (1, (iv p1))] [] (fun fb => by kernel_rfl) rfl trivial ?_
 refine WL.done rfl ?_
 refine WX.next ?_
 refine WC.seq ?_
 refine WC.region ?_
 refine seg 1 [] [0, 1, 5] [(0, (.slice A_p0 p0.length c_p0)), (1, (iv p1)), (5, (.slice A_p0 p0.length c_p0))] [] (fun fb => by kernel_rfl) rfl trivial ?_
 obtain ⟨t819, ht820, hf⟩ := bind_some hf
 refine WL.call (some 6) 38 #[(.slice A_p0 p0.length c_p0)] (fun fb => by kernel_rfl) (ref02_Colours_calls _ p0 A_p0 c_p0 t819 _ (hS.rd 0) ht820) (fun v w821 hR822 => ?_)
 obtain ⟨A824, c825, rfl, hk_⟩ := hR822
 have hS823 : St NoS w w821 [rowR enc_Tile A_p0 c_p0 p0] [rowO 3 encInt A824 c825 t819] := hS.call hk_ [] [] (fun g hg => hg.elim) (by simp) (by decide)
 refine ⟨trivial, ?_⟩
 refine seg 4 [] [0, 1, 7, 8] [(0, (.slice A_p0 p0.length c_p0)), (1, (iv p1)), (7, (iv (t819.length : Int))), (8, (iv p1))] [] (fun fb => by kernel_rfl) rfl trivial ?_
 obtain ⟨t844, ht845, hf⟩ := bind_some hf
 refine WL.call (some 9) 24 #[(iv (t819.length : Int)), (iv p1)] (fun fb => by kernel_rfl) (ref02_Power_calls _ (t819.length : Int) p1 t844 _ ht845) (fun v w846 hR847 => ?_)
 obtain ⟨rfl, hk_⟩ := hR847
 have hS848 := hS823.keepN hk_
 refine ⟨trivial, ?_⟩
 refine seg 7 [] [0, 1, 11] [(0, (.slice A_p0 p0.length c_p0)), (1, (iv p1)), (11, (.bool (decide (t844 ≤ 1500))))] [] (fun fb => by kernel_rfl) rfl trivial ?_
 obtain ⟨x855, hx856, hf⟩ := bind_some hf
 refine WL.cutW (T := Bool) 13 (fun t => [(17, (.bool t))]) (fun t w1 => (St NoS w w1 [rowR enc_Tile A_p0 c_p0 p0] [] ∧ x855 = t) ∧ CellsOK [] w1) (fun K => ?_) ?_
 ·
  rcases br_some hx856 with ⟨h857, hx856⟩ | ⟨h857, hx856⟩
  ·
   refine WL.setB 11 h857 rfl ?_
   refine seg 10 [] [11, 13, 14] [(11, (.bool true)), (13, (iv (p0.length : Int))), (14, (iv p1))] [] (fun fb => by kernel_rfl) rfl trivial ?_
   obtain ⟨t858, ht859, hx856⟩ := bind_some hx856
   refine WL.call (some 15) 24 #[(iv (p0.length : Int)), (iv p1)] (fun fb => by kernel_rfl) (ref02_Power_calls _ (p0.length : Int) p1 t858 _ ht859) (fun v w860 hR861 => ?_)
   obtain ⟨rfl, hk_⟩ := hR861
   have hS862 := hS848.keepN hk_
   refine ⟨trivial, ?_⟩
   refine seg 13 [] [17] [(17, (.bool (decide (t858 ≤ 40000))))] [] (fun fb => by kernel_rfl) rfl trivial ?_
   injection hx856 with hx856
   exact WL.to K (decide (t858 ≤ 40000)) [17] rfl ⟨⟨(hS862.subR [0]).sub [] (by decide), hx856.symm⟩, trivial⟩
  refine WL.setB 11 h857 rfl ?_
  refine seg 13 [] [17] [(17, (.bool false))] [] (fun fb => by kernel_rfl) rfl trivial ?_
  injection hx856 with hx856
  exact WL.to K false [17] rfl ⟨⟨(hS848.subR [0]).sub [] (by decide), hx856.symm⟩, trivial⟩
 rintro y863 w865 ⟨⟨hS866, hq864⟩, hF867⟩
 subst hq864
 refine seg 14 [] [4] [(4, (.bool x855))] [] (fun fb => by kernel_rfl) rfl trivial ?_
 refine WL.done rfl ?_
 refine WX.next ?_
 refine WC.ret ?_
 injection hf with hf
 subst hf
 exact WX.ret_ [] (.bool x855) [] (fun fb => by kernel_rfl) trivial ⟨_, rfl, rfl, hS866.keep⟩
theorem law05_heavy_calls (k : Nat) (p0 : List Tile) (p1 : Int) (A_p0 : Option Addr) (c_p0 : Nat) (r : Bool) (w : World) (hR0 : RO NoS w (rowR enc_Tile A_p0 c_p0 p0)) (hf : law05_heavy k p0 p1 = some r) :
  CallsR Tryd.prog 41 #[(.slice A_p0 p0.length c_p0), (iv p1)] w (fun v w' => v = (.bool r) ∧ Keeps NoS w w') := by
 have hS : St NoS w w [rowR enc_Tile A_p0 c_p0 p0] [] := St.init (ro_cons hR0 (ro_nil _ _))
 refine enter 14 Tryd.func41 rfl Tryd.ntmps41 rfl ?_
 unfold law05_heavy at hf
 refine WC.seq ?_
 refine WC.region ?_
 refine seg 1 [] [0, 1] [(0, (.slice A_p0 p0.length c_p0)), (1, (iv p1))] [] (fun fb => by kernel_rfl) rfl trivial ?_
 refine WL.done rfl ?_
 refine WX.next ?_
 refine WC.seq ?_
 refine WC.region ?_
 refine seg 4 [] [0, 1, 8] [(0, (.slice A_p0 p0.length c_p0)), (1, (iv p1)), (8, (.bool (decide ((p0.length : Int) > 60))))] [] (fun fb => by kernel_rfl) rfl trivial ?_
 obtain ⟨x874, hx875, hf⟩ := bind_some hf
 refine WL.cutW (T := Bool) 9 (fun t => [(13, (.bool t))]) (fun t w1 => (St NoS w w1 [rowR enc_Tile A_p0 c_p0 p0] [] ∧ x874 = t) ∧ CellsOK [] w1) (fun K => ?_) ?_
 ·
  rcases br_some hx875 with ⟨h876, hx875⟩ | ⟨h876, hx875⟩
  ·
   refine WL.setB 8 h876 rfl ?_
   refine seg 9 [] [13] [(13, (.bool true))] [] (fun fb => by kernel_rfl) rfl trivial ?_
   injection hx875 with hx875
   exact WL.to K true [13] rfl ⟨⟨(hS.subR [0]).sub [] (by decide), hx875.symm⟩, trivial⟩
  refine WL.setB 8 h876 rfl ?_
  refine seg 6 [] [8, 9, 10] [(8, (.bool false)), (9, (.slice A_p0 p0.length c_p0)), (10, (iv p1))] [] (fun fb => by kernel_rfl) rfl trivial ?_
  obtain ⟨t877, ht878, hx875⟩ := bind_some hx875
  refine WL.call (some 11) 61 #[(.slice A_p0 p0.length c_p0), (iv p1)] (fun fb => by kernel_rfl) (ref02_Light_calls _ p0 p1 A_p0 c_p0 t877 _ (hS.rd 0) ht878) (fun v w879 hR880 => ?_)
  obtain ⟨rfl, hk_⟩ := hR880
  have hS881 := hS.keepN hk_
  refine ⟨trivial, ?_⟩
  refine seg 9 [] [13] [(13, (.bool (!t877)))] [] (fun fb => by kernel_rfl) rfl trivial ?_
  injection hx875 with hx875
  exact WL.to K (!t877) [13] rfl ⟨⟨(hS881.subR [0]).sub [] (by decide), hx875.symm⟩, trivial⟩
 rintro y882 w884 ⟨⟨hS885, hq883⟩, hF886⟩
 subst hq883
 refine seg 10 [] [4] [(4, (.bool x874))] [] (fun fb => by kernel_rfl) rfl trivial ?_
 refine WL.done rfl ?_
 refine WX.next ?_
 refine WC.ret ?_
 injection hf with hf
 subst hf
 exact WX.ret_ [] (.bool x874) [] (fun fb => by kernel_rfl) trivial ⟨_, rfl, rfl, hS885.keep⟩
theorem ref02_Great_calls (k : Nat) (p0 : List Tile) (p1 : Int) (A_p0 : Option Addr) (c_p0 : Nat) (r : Bool) (w : World) (hR0 : RO NoS w (rowR enc_Tile A_p0 c_p0 p0)) (hf : ref02_Great k p0 p1 = some r) :
  CallsR Tryd.prog 19 #[(.slice A_p0 p0.length c_p0), (iv p1)] w (fun v w' => v = (.bool r) ∧ Keeps NoS w w') := by
 have hS : St NoS w w [rowR enc_Tile A_p0 c_p0 p0] [] := St.init (ro_cons hR0 (ro_nil _ _))
 refine enter 10 Tryd.func19 rfl Tryd.ntmps19 rfl ?_
 unfold ref02_Great at hf
 refine WC.seq ?_
 refine WC.region ?_
 refine seg 1 [] [0, 1] [(0, (.slice A_p0 p0.length c_p0)), (1, (iv p1))] [] (fun fb => by kernel_rfl) rfl trivial ?_
 refine WL.done rfl ?_
 refine WX.next ?_
 refine WC.seq ?_
 refine WC.region ?_
 refine seg 3 [] [6, 7] [(6, (iv (p0.length : Int))), (7, (iv p1))] [] (fun fb => by kernel_rfl) rfl trivial ?_
 obtain ⟨t906, ht907, hf⟩ := bind_some hf
 refine WL.call (some 8) 24 #[(iv (p0.length : Int)), (iv p1)] (fun fb => by kernel_rfl) (ref02_Power_calls _ (p0.length : Int) p1 t906 _ ht907) (fun v w908 hR909 => ?_)
 obtain ⟨rfl, hk_⟩ := hR909
 have hS910 := hS.keepN hk_
 refine ⟨trivial, ?_⟩
 refine seg 6 [] [4] [(4, (.bool (decide (t906 > 5000))))] [] (fun fb => by kernel_rfl) rfl trivial ?_
 refine WL.done rfl ?_
 refine WX.next ?_
 refine WC.ret ?_
 injection hf with hf
 subst hf
 exact WX.ret_ [] (.bool (decide (t906 > 5000))) [] (fun fb => by kernel_rfl) trivial ⟨_, rfl, rfl, hS910.keep⟩
theorem tile_colour_1_calls (p0 : Int)  (r : Bool) (w : World)  (hf : tile_colour_1 p0 = some r) :
  CallsR Tryd.prog 96 #[(iv p0)] w (fun v w' => v = (.bool r) ∧ Keeps NoS w w') := by
 have hS : St NoS w w [] [] := St.init (ro_nil _ _)
 refine enter 9 Tryd.func96 rfl Tryd.ntmps96 rfl ?_
 unfold tile_colour_1 at hf
 refine WC.seq ?_
 refine WC.region ?_
 refine seg 1 [] [0] [(0, (iv p0))] [] (fun fb => by kernel_rfl) rfl trivial ?_
 refine WL.done rfl ?_
 refine WX.next ?_
 refine WC.seq ?_
 refine WC.region ?_
 refine seg 3 [] [0, 5] [(0, (iv p0)), (5, (.bool (decide (p0 < 0))))] [] (fun fb => by kernel_rfl) rfl trivial ?_
 refine WL.cutV (T := Bool) 6 (fun t => [(8, (.bool t))]) (fun t => ((decide (p0 < 0)) || (decide (p0 ≥ 1000))) = t) (fun K => ?_) ?_
 ·
  rcases Bool.eq_false_or_eq_true (decide (p0 < 0)) with h1339 | h1339
  ·
   refine WL.setB 5 h1339 rfl ?_
   refine seg 6 [] [8] [(8, (.bool true))] [] (fun fb => by kernel_rfl) rfl trivial ?_
   exact WL.toV K true [8] rfl (by first | (rw [h1339]; done) | (rw [h1339]; rfl))
  refine WL.setB 5 h1339 rfl ?_
  refine seg 6 [] [8] [(8, (.bool (decide (p0 ≥ 1000))))] [] (fun fb => by kernel_rfl) rfl trivial ?_
  exact WL.toV K (decide (p0 ≥ 1000)) [8] rfl (by first | (rw [h1339]; done) | (rw [h1339]; rfl))
 rintro b1340 rfl
 refine seg 7 [] [2] [(2, (.bool ((decide (p0 < 0)) || (decide (p0 ≥ 1000)))))] [] (fun fb => by kernel_rfl) rfl trivial ?_
 refine WL.done rfl ?_
 refine WX.next ?_
 refine WC.ret ?_
 injection hf with hf
 subst hf
 exact WX.ret_ [] (.bool ((decide (p0 < 0)) || (decide (p0 ≥ 1000)))) [] (fun fb => by kernel_rfl) trivial ⟨_, rfl, rfl, hS.keep⟩
theorem slices_IndexFunc_int_int_with_tile_colour_1_calls (k : Nat) (p0 : List Int) (A_p0 : Option Addr) (c_p0 : Nat) (r : Int) (w : World) (hR0 : RO NoS w (rowR encInt A_p0 c_p0 p0)) (hf : slices_IndexFunc_int_int_with_tile_colour_1 k p0 = some r) :
  CallsR Tryd.prog 99 #[(.slice A_p0 p0.length c_p0), (.func (.func 96) #[] #[])] w (fun v w' => v = (iv r) ∧ Keeps NoS w w') := by
 have hS : St NoS w w [rowR encInt A_p0 c_p0 p0] [] := St.init (ro_cons hR0 (ro_nil _ _))
 refine enter 19 Tryd.func99 rfl Tryd.ntmps99 rfl ?_
 unfold slices_IndexFunc_int_int_with_tile_colour_1 at hf
 refine WC.seq ?_
 refine WC.region ?_
 refine seg 1 [] [0, 1] [(0, (.slice A_p0 p0.length c_p0)), (1, (.func (.func 96) #[] #[]))] [] (fun fb => by kernel_rfl) rfl trivial ?_
 refine WL.done rfl ?_
 refine WX.next ?_
 refine WC.seq ?_
 refine WC.seq ?_
 refine WC.region ?_
 refine seg 3 [] [0, 1, 7, 8] [(0, (.slice A_p0 p0.length c_p0)), (1, (.func (.func 96) #[] #[])), (7, (iv (p0.length : Int))), (8, (iv 0))] [] (fun fb => by kernel_rfl) rfl trivial ?_
 refine WL.done rfl ?_
 refine WX.next ?_
 obtain ⟨x1357, hx1358, hf⟩ := bind_some hf
 refine WC.cutN (T := Unit) (fun t => []) (fun t w1 => St NoS w w1 [rowR encInt A_p0 c_p0 p0] [] ∧ x1357 = .inr t) (fun Kx1357 => ?_) ?_
 ·
  refine WC.block ?_
  refine WC.loop (T := Int) (fun t => [(0, (.slice A_p0 p0.length c_p0)), (1, (.func (.func 96) #[] #[])), (7, (iv (p0.length : Int))), (8, (iv t))]) (fun n t w1 => St NoS w w1 [rowR encInt A_p0 c_p0 p0] [] ∧ slices_IndexFunc_int_int_with_tile_colour_1.l0 n t p0 = some x1357) k 0 [0, 1, 7, 8] rfl ⟨(hS.subR [0]).sub [] (by decide), hx1358⟩ ?_
  rintro k1359 x1356 w1360 ⟨hS1361, hl1362⟩
  cases k1359 with
  | zero => rw [slices_IndexFunc_int_int_with_tile_colour_1.l0] at hl1362; cases hl1362
  | succ k1359 =>
   rw [slices_IndexFunc_int_int_with_tile_colour_1.l0] at hl1362
   refine WC.seq ?_
   refine WC.region ?_
   refine seg 1 [] [0, 1, 7, 8, 9] [(0, (.slice A_p0 p0.length c_p0)), (1, (.func (.func 96) #[] #[])), (7, (iv (p0.length : Int))), (8, (iv x1356)), (9, (.bool (decide (x1356 < (p0.length : Int)))))] [] (fun fb => by kernel_rfl) rfl trivial ?_
   refine WL.done rfl ?_
   refine WX.next ?_
   refine WC.seq ?_
   rcases br_some hl1362 with ⟨h1363, hl1362⟩ | ⟨h1363, hl1362⟩
   ·refine WC.condT2 (fun fb => by kernel_rfl) h1363 ?_
    refine WC.skip ?_
    refine WX.next ?_
    refine WC.seq ?_
    refine WC.block ?_
    refine WC.seq ?_
    refine WC.region ?_
    refine seg 2 [] [0, 1, 5, 7, 8] [(0, (.slice A_p0 p0.length c_p0)), (1, (.func (.func 96) #[] #[])), (5, (iv x1356)), (7, (iv (p0.length : Int))), (8, (iv x1356))] [] (fun fb => by kernel_rfl) rfl trivial ?_
    refine WL.done rfl ?_
    refine WX.next ?_
    refine WC.seq ?_
    refine WC.region ?_
    refine seg 3 [] [0, 1, 5, 7, 8, 11, 12, 13] [(0, (.slice A_p0 p0.length c_p0)), (1, (.func (.func 96) #[] #[])), (5, (iv x1356)), (7, (iv (p0.length : Int))), (8, (iv x1356)), (11, (.func (.func 96) #[] #[])), (12, (.slice A_p0 p0.length c_p0)), (13, (iv x1356))] [] (fun fb => by kernel_rfl) rfl trivial ?_
    obtain ⟨h1364, hl1362⟩ := as_some hl1362
    refine seg 5 [.v (iv (rdD p0 x1356 0))] [0, 1, 5, 7, 8, 11, 15] [(0, (.slice A_p0 p0.length c_p0)), (1, (.func (.func 96) #[] #[])), (5, (iv x1356)), (7, (iv (p0.length : Int))), (8, (iv x1356)), (11, (.func (.func 96) #[] #[])), (15, (iv (rdD p0 x1356 0)))] [.idx A_p0 x1356 p0.length, .cell ((adr A_p0).add ((x1356).toNat * 1)) (iv (rdD p0 x1356 0))] (fun fb => by kernel_rfl) rfl ⟨rowR.adr (hS1361.rd 0).1 h1364.1 h1364.2, rowR.cell (hS1361.rd 0).1 0 h1364.1 h1364.2 0 rfl, trivial⟩ ?_
    obtain ⟨t1365, ht1366, hl1362⟩ := bind_some hl1362
    refine WL.call (some 16) 96 #[(iv (rdD p0 x1356 0))] (fun fb => by kernel_rfl) (tile_colour_1_calls (rdD p0 x1356 0) t1365 _ ht1366) (fun v w1367 hR1368 => ?_)
    obtain ⟨rfl, hk_⟩ := hR1368
    have hS1369 := hS1361.keepN hk_
    refine ⟨trivial, ?_⟩
    refine WL.done rfl ?_
    refine WX.next ?_
    rcases br_some hl1362 with ⟨h1370, hl1362⟩ | ⟨h1370, hl1362⟩
    ·refine WC.condT2 (fun fb => by kernel_rfl) h1370 ?_
     refine WC.seq ?_
     refine WC.region ?_
     refine seg 2 [] [4] [(4, (iv x1356))] [] (fun fb => by kernel_rfl) rfl trivial ?_
     refine WL.done rfl ?_
     refine WX.next ?_
     refine WC.ret ?_
     injection hl1362 with hl1362
     subst hl1362
     injection hf with hf
     subst hf
     exact WX.blockR (WX.thenR (WX.thenR (WX.blockR (WX.thenR (WX.ret_ [] (iv x1356) [] (fun fb => by kernel_rfl) trivial ⟨_, rfl, rfl, hS1369.keep⟩)))))
    refine WC.condF2 (fun fb => by kernel_rfl) h1370 ?_
    refine WC.skip ?_
    refine WX.blockN (WX.next ?_)
    refine WC.region ?_
    refine seg 2 [] [0, 1, 7, 8] [(0, (.slice A_p0 p0.length c_p0)), (1, (.func (.func 96) #[] #[])), (7, (iv (p0.length : Int))), (8, (iv (w64 (x1356 + 1))))] [] (fun fb => by kernel_rfl) rfl trivial ?_
    refine WL.done rfl ?_
    exact WX.again k1359 (Nat.lt_succ_self _) (w64 (x1356 + 1)) [0, 1, 7, 8] rfl ⟨(hS1369.subR [0]).sub [] (by decide), hl1362⟩
   refine WC.condF2 (fun fb => by kernel_rfl) h1363 ?_
   refine WC.exit ?_
   injection hl1362 with hl1362
   exact WX.thenX (WX.thenX (WX.blockHere (WX.to Kx1357 () [] rfl ⟨(hS1361.subR [0]).sub [] (by decide), hl1362.symm⟩)))
 rintro y1374 w1371 ⟨hS1372, hq1373⟩
 subst hq1373
 have hf := sum_inr hf
 refine WX.next ?_
 refine WC.seq ?_
 refine WC.region ?_
 refine seg 1 [] [4] [(4, (iv (-1)))] [] (fun fb => by kernel_rfl) rfl trivial ?_
 refine WL.done rfl ?_
 refine WX.next ?_
 refine WC.ret ?_
 injection hf with hf
 subst hf
 exact WX.ret_ [] (iv (-1)) [] (fun fb => by kernel_rfl) trivial ⟨_, rfl, rfl, hS1372.keep⟩
theorem slices_ContainsFunc_int_int_with_tile_colour_1_calls (k : Nat) (p0 : List Int) (A_p0 : Option Addr) (c_p0 : Nat) (r : Bool) (w : World) (hR0 : RO NoS w (rowR encInt A_p0 c_p0 p0)) (hf : slices_ContainsFunc_int_int_with_tile_colour_1 k p0 = some r) :
  CallsR Tryd.prog 89 #[(.slice A_p0 p0.length c_p0), (.func (.func 96) #[] #[])] w (fun v w' => v = (.bool r) ∧ Keeps NoS w w') := by
 have hS : St NoS w w [rowR encInt A_p0 c_p0 p0] [] := St.init (ro_cons hR0 (ro_nil _ _))
 refine enter 9 Tryd.func89 rfl Tryd.ntmps89 rfl ?_
 unfold slices_ContainsFunc_int_int_with_tile_colour_1 at hf
 refine WC.seq ?_
 refine WC.region ?_
 refine seg 1 [] [0, 1] [(0, (.slice A_p0 p0.length c_p0)), (1, (.func (.func 96) #[] #[]))] [] (fun fb => by kernel_rfl) rfl trivial ?_
 refine WL.done rfl ?_
 refine WX.next ?_
 refine WC.seq ?_
 refine WC.region ?_
 refine seg 2 [] [5, 6] [(5, (.slice A_p0 p0.length c_p0)), (6, (.func (.func 96) #[] #[]))] [] (fun fb => by kernel_rfl) rfl trivial ?_
 obtain ⟨t1376, ht1377, hf⟩ := bind_some hf
 refine WL.call (some 7) 99 #[(.slice A_p0 p0.length c_p0), (.func (.func 96) #[] #[])] (fun fb => by kernel_rfl) (slices_IndexFunc_int_int_with_tile_colour_1_calls _ p0 A_p0 c_p0 t1376 _ (hS.rd 0) ht1377) (fun v w1378 hR1379 => ?_)
 obtain ⟨rfl, hk_⟩ := hR1379
 have hS1380 := hS.keepN hk_
 refine ⟨trivial, ?_⟩
 refine seg 5 [] [4] [(4, (.bool (decide (t1376 ≥ 0))))] [] (fun fb => by kernel_rfl) rfl trivial ?_
 refine WL.done rfl ?_
 refine WX.next ?_
 refine WC.ret ?_
 injection hf with hf
 subst hf
 exact WX.ret_ [] (.bool (decide (t1376 ≥ 0))) [] (fun fb => by kernel_rfl) trivial ⟨_, rfl, rfl, hS1380.keep⟩
theorem tile_colour_calls (k : Nat) (p0 : List Int) (A_p0 : Option Addr) (c_p0 : Nat) (r : Bool) (w : World) (hR0 : RO NoS w (rowR encInt A_p0 c_p0 p0)) (hf : tile_colour k p0 = some r) :
  CallsR Tryd.prog 80 #[(.slice A_p0 p0.length c_p0)] w (fun v w' => v = (.bool r) ∧ Keeps NoS w w') := by
 have hS : St NoS w w [rowR encInt A_p0 c_p0 p0] [] := St.init (ro_cons hR0 (ro_nil _ _))
 refine enter 6 Tryd.func80 rfl Tryd.ntmps80 rfl ?_
 unfold tile_colour at hf
 refine WC.seq ?_
 refine WC.region ?_
 refine seg 1 [] [0] [(0, (.slice A_p0 p0.length c_p0))] [] (fun fb => by kernel_rfl) rfl trivial ?_
 refine WL.done rfl ?_
 refine WX.next ?_
 refine WC.seq ?_
 refine WC.region ?_
 refine seg 1 [] [3] [(3, (.slice A_p0 p0.length c_p0))] [] (fun fb => by kernel_rfl) rfl trivial ?_
 obtain ⟨t1381, ht1382, hf⟩ := bind_some hf
 refine WL.call (some 4) 89 #[(.slice A_p0 p0.length c_p0), (.func (.func 96) #[] #[])] (fun fb => by kernel_rfl) (slices_ContainsFunc_int_int_with_tile_colour_1_calls _ p0 A_p0 c_p0 t1381 _ (hS.rd 0) ht1382) (fun v w1383 hR1384 => ?_)
 obtain ⟨rfl, hk_⟩ := hR1384
 have hS1385 := hS.keepN hk_
 refine ⟨trivial, ?_⟩
 refine seg 4 [] [2] [(2, (.bool (!t1381)))] [] (fun fb => by kernel_rfl) rfl trivial ?_
 refine WL.done rfl ?_
 refine WX.next ?_
 refine WC.ret ?_
 injection hf with hf
 subst hf
 exact WX.ret_ [] (.bool (!t1381)) [] (fun fb => by kernel_rfl) trivial ⟨_, rfl, rfl, hS1385.keep⟩
theorem tile_Valid_key40 : KeyK Tryd.prog 40 (aggI ints_Tile) := KeyK.struct (n := 4) (by kernel_rfl) ints_Tile (fun _ => rfl) (fun x y h => by cases x; cases y; simp only [ints_Tile, List.cons.injEq, and_true] at h; obtain ⟨rfl, rfl, rfl, rfl⟩ := h; rfl)
theorem tile_Valid_calls (k : Nat) (p0 : List Tile) (A_p0 : Option Addr) (c_p0 : Nat) (r : Bool) (w : World) (hR0 : RO NoS w (rowR enc_Tile A_p0 c_p0 p0)) (hf : tile_Valid k p0 = some r) :
  CallsR Tryd.prog 52 #[(.slice A_p0 p0.length c_p0)] w (fun v w' => v = (.bool r) ∧ Keeps NoS w w') := by
 have hS : St NoS w w [rowR enc_Tile A_p0 c_p0 p0] [] := St.init (ro_cons hR0 (ro_nil _ _))
 refine enter 35 Tryd.func52 rfl Tryd.ntmps52 rfl ?_
 unfold tile_Valid at hf
 refine WC.seq ?_
 refine WC.region ?_
 refine seg 1 [] [0] [(0, (.slice A_p0 p0.length c_p0))] [] (fun fb => by kernel_rfl) rfl trivial ?_
 refine WL.done rfl ?_
 refine WX.next ?_
 refine WC.seq ?_
 refine WC.seq ?_
 refine WC.region ?_
 refine seg 3 [] [0, 8] [(0, (.slice A_p0 p0.length c_p0)), (8, (.bool (decide ((p0.length : Int) > 1000))))] [] (fun fb => by kernel_rfl) rfl trivial ?_
 refine WL.done rfl ?_
 refine WX.next ?_
 rcases br_some hf with ⟨h1320, hf⟩ | ⟨h1320, hf⟩
 ·refine WC.condT2 (fun fb => by kernel_rfl) h1320 ?_
  refine WC.seq ?_
  refine WC.region ?_
  refine seg 1 [] [2] [(2, (.bool false))] [] (fun fb => by kernel_rfl) rfl trivial ?_
  refine WL.done rfl ?_
  refine WX.next ?_
  refine WC.ret ?_
  injection hf with hf
  subst hf
  exact WX.thenR (WX.ret_ [] (.bool false) [] (fun fb => by kernel_rfl) trivial ⟨_, rfl, rfl, hS.keep⟩)
 refine WC.condF2 (fun fb => by kernel_rfl) h1320 ?_
 refine WC.skip ?_
 refine WX.next ?_
 refine WC.seq ?_
 refine WC.region ?_
 refine WL.new hS 9 [] (fun g => (.map (some g))) (mapObj (aggI ints_Tile) vB ([] : List (Tile × Bool))) [] (fun fb g => by kernel_rfl) trivial (fun g1321 w1322 hS1323 => ?_)
 refine ⟨trivial, ?_⟩
 refine seg 2 [] [0, 3] [(0, (.slice A_p0 p0.length c_p0)), (3, (.map (some g1321)))] [] (fun fb => by kernel_rfl) rfl trivial ?_
 refine WL.done rfl ?_
 refine WX.next ?_
 refine WC.seq ?_
 refine WC.seq ?_
 refine WC.region ?_
 refine seg 3 [] [3, 10, 11, 12] [(3, (.map (some g1321))), (10, (.slice A_p0 p0.length c_p0)), (11, (iv (p0.length : Int))), (12, (iv 0))] [] (fun fb => by kernel_rfl) rfl trivial ?_
 refine WL.done rfl ?_
 refine WX.next ?_
 obtain ⟨x1457, hx1458, hf⟩ := bind_some hf
 refine WC.cutN (T := Unit) (fun t => []) (fun t w1 => St NoS w w1 [rowR enc_Tile A_p0 c_p0 p0] [] ∧ x1457 = .inr t) (fun Kx1457 => ?_) ?_
 ·
  refine WC.block ?_
  refine WC.loop (T := (List (Tile × Bool)) × Int) (fun t => [(3, (.map (some g1321))), (10, (.slice A_p0 p0.length c_p0)), (11, (iv (p0.length : Int))), (12, (iv t.2))]) (fun n t w1 => St NoS w w1 [rowR enc_Tile A_p0 c_p0 p0] [blk g1321 (mapObj (aggI ints_Tile) vB t.1)] ∧ tile_Valid.l0 n t.1 t.2 p0 = some x1457) k (([] : List (Tile × Bool)), 0) [3, 10, 11, 12] rfl ⟨(hS1323.subR [0]).sub [0] (by decide), hx1458⟩ ?_
  rintro k1459 ⟨l1455, x1456⟩ w1460 ⟨hS1461, hl1462⟩
  cases k1459 with
  | zero => rw [tile_Valid.l0] at hl1462; cases hl1462
  | succ k1459 =>
   rw [tile_Valid.l0] at hl1462
   refine WC.seq ?_
   refine WC.region ?_
   refine seg 1 [] [3, 10, 11, 12, 13] [(3, (.map (some g1321))), (10, (.slice A_p0 p0.length c_p0)), (11, (iv (p0.length : Int))), (12, (iv x1456)), (13, (.bool (decide (x1456 < (p0.length : Int)))))] [] (fun fb => by kernel_rfl) rfl trivial ?_
   refine WL.done rfl ?_
   refine WX.next ?_
   refine WC.seq ?_
   rcases br_some hl1462 with ⟨h1463, hl1462⟩ | ⟨h1463, hl1462⟩
   ·refine WC.condT2 (fun fb => by kernel_rfl) h1463 ?_
    refine WC.skip ?_
    refine WX.next ?_
    refine WC.seq ?_
    refine WC.block ?_
    refine WC.seq ?_
    refine WC.region ?_
    obtain ⟨h1464, hl1462⟩ := as_some hl1462
    refine seg 2 [.v (iv ((rdD p0 x1456 z_Tile).N)), .v (iv ((rdD p0 x1456 z_Tile).E)), .v (iv ((rdD p0 x1456 z_Tile).S)), .v (iv ((rdD p0 x1456 z_Tile).W))] [3, 10, 11, 12, 15] [(3, (.map (some g1321))), (10, (.slice A_p0 p0.length c_p0)), (11, (iv (p0.length : Int))), (12, (iv x1456)), (15, (.agg #[(iv ((rdD p0 x1456 z_Tile).N)), (iv ((rdD p0 x1456 z_Tile).E)), (iv ((rdD p0 x1456 z_Tile).S)), (iv ((rdD p0 x1456 z_Tile).W))]))] [.idx A_p0 x1456 p0.length, .cell ((adr A_p0).add ((x1456).toNat * 4)) (iv ((rdD p0 x1456 z_Tile).N)), .cell (((adr A_p0).add ((x1456).toNat * 4)).add 1) (iv ((rdD p0 x1456 z_Tile).E)), .cell (((adr A_p0).add ((x1456).toNat * 4)).add 2) (iv ((rdD p0 x1456 z_Tile).S)), .cell (((adr A_p0).add ((x1456).toNat * 4)).add 3) (iv ((rdD p0 x1456 z_Tile).W))] (fun fb => by kernel_rfl) rfl ⟨rowR.adr (hS1461.rd 0).1 h1464.1 h1464.2, rowR.cell (hS1461.rd 0).1 z_Tile h1464.1 h1464.2 0 rfl, rowR.cell (hS1461.rd 0).1 z_Tile h1464.1 h1464.2 1 rfl, rowR.cell (hS1461.rd 0).1 z_Tile h1464.1 h1464.2 2 rfl, rowR.cell (hS1461.rd 0).1 z_Tile h1464.1 h1464.2 3 rfl, trivial⟩ ?_
    refine WL.new hS1461 5 [] (fun g => (.pointer (some ⟨g, 0, none⟩))) (.cells #[(iv 0), (iv 0), (iv 0), (iv 0)] 40 (0, 0)) [] (fun fb g => by kernel_rfl) trivial (fun g1465 w1466 hS1467 => ?_)
    refine ⟨trivial, ?_⟩
    refine WL.store hS1467 0 rfl [(0, (iv ((rdD p0 x1456 z_Tile).N))), (1, (iv ((rdD p0 x1456 z_Tile).E))), (2, (iv ((rdD p0 x1456 z_Tile).S))), (3, (iv ((rdD p0 x1456 z_Tile).W)))] #[(iv ((rdD p0 x1456 z_Tile).N)), (iv ((rdD p0 x1456 z_Tile).E)), (iv ((rdD p0 x1456 z_Tile).S)), (iv ((rdD p0 x1456 z_Tile).W))] (fun fb => by kernel_rfl) (by kernel_rfl) rfl [1] (by decide) (by decide) (fun w1469 hS1470 => ?_)
    refine ⟨trivial, ?_⟩
    refine WL.done rfl ?_
    refine WX.next ?_
    refine WC.seq ?_
    refine WC.seq ?_
    refine WC.region ?_
    refine seg 2 [.v (iv ((rdD p0 x1456 z_Tile).N)), .v (iv ((rdD p0 x1456 z_Tile).E)), .v (iv ((rdD p0 x1456 z_Tile).S)), .v (iv ((rdD p0 x1456 z_Tile).W))] [3, 5, 10, 11, 12, 16, 17] [(3, (.map (some g1321))), (5, (pt g1465)), (10, (.slice A_p0 p0.length c_p0)), (11, (iv (p0.length : Int))), (12, (iv x1456)), (16, (.map (some g1321))), (17, (.agg #[(iv ((rdD p0 x1456 z_Tile).N)), (iv ((rdD p0 x1456 z_Tile).E)), (iv ((rdD p0 x1456 z_Tile).S)), (iv ((rdD p0 x1456 z_Tile).W))]))] [.cell ⟨g1465, 0, none⟩ (iv ((rdD p0 x1456 z_Tile).N)), .cell ⟨g1465, 1, none⟩ (iv ((rdD p0 x1456 z_Tile).E)), .cell ⟨g1465, 2, none⟩ (iv ((rdD p0 x1456 z_Tile).S)), .cell ⟨g1465, 3, none⟩ (iv ((rdD p0 x1456 z_Tile).W))] (fun fb => by kernel_rfl) rfl ⟨hS1470.cell 0 rfl 0 rfl, hS1470.cell 0 rfl 1 rfl, hS1470.cell 0 rfl 2 rfl, hS1470.cell 0 rfl 3 rfl, trivial⟩ ?_
    refine WL.lookup (hS1470.own 1).1 (rdD p0 x1456 z_Tile) (d := 18) (c := false) (t := 114) (kT := 40) (eT := 4) (z := false) (kE := (aggI ints_Tile)) (vE := vB) (l := l1455) (.bool (mget (rdD p0 x1456 z_Tile) false l1455)) (fun fb => by kernel_rfl) tile_Valid_key40 (by kernel_rfl) (fun _ => by kernel_rfl) rfl ?_
    refine ⟨trivial, ?_⟩
    refine seg 4 [] [3, 5, 10, 11, 12, 19] [(3, (.map (some g1321))), (5, (pt g1465)), (10, (.slice A_p0 p0.length c_p0)), (11, (iv (p0.length : Int))), (12, (iv x1456)), (19, (.bool (mget (rdD p0 x1456 z_Tile) false l1455)))] [] (fun fb => by kernel_rfl) rfl trivial ?_
    obtain ⟨x1482, hx1483, hl1462⟩ := bind_some hl1462
    refine WL.cutW (T := Bool) 16 (fun t => [(3, (.map (some g1321))), (5, (pt g1465)), (10, (.slice A_p0 p0.length c_p0)), (11, (iv (p0.length : Int))), (12, (iv x1456)), (31, (.bool t))]) (fun t w1 => (St NoS w w1 [rowR enc_Tile A_p0 c_p0 p0] [blk g1321 (mapObj (aggI ints_Tile) vB l1455), blk g1465 (.cells #[(iv ((rdD p0 x1456 z_Tile).N)), (iv ((rdD p0 x1456 z_Tile).E)), (iv ((rdD p0 x1456 z_Tile).S)), (iv ((rdD p0 x1456 z_Tile).W))] 40 (0, 0))] ∧ x1482 = t) ∧ CellsOK [] w1) (fun K => ?_) ?_
    ·
     rcases br_some hx1483 with ⟨h1484, hx1483⟩ | ⟨h1484, hx1483⟩
     ·
      refine WL.setB 19 h1484 rfl ?_
      refine seg 16 [] [3, 5, 10, 11, 12, 31] [(3, (.map (some g1321))), (5, (pt g1465)), (10, (.slice A_p0 p0.length c_p0)), (11, (iv (p0.length : Int))), (12, (iv x1456)), (31, (.bool true))] [] (fun fb => by kernel_rfl) rfl trivial ?_
      injection hx1483 with hx1483
      exact WL.to K true [3, 5, 10, 11, 12, 31] rfl ⟨⟨(hS1470.subR [0]).sub [1, 0] (by decide), hx1483.symm⟩, trivial⟩
     refine WL.setB 19 h1484 rfl ?_
     refine seg 12 [.v (iv ((rdD p0 x1456 z_Tile).N)), .v (iv ((rdD p0 x1456 z_Tile).E)), .v (iv ((rdD p0 x1456 z_Tile).S)), .v (iv ((rdD p0 x1456 z_Tile).W))] [3, 5, 10, 11, 12, 19, 21, 23, 25, 27] [(3, (.map (some g1321))), (5, (pt g1465)), (10, (.slice A_p0 p0.length c_p0)), (11, (iv (p0.length : Int))), (12, (iv x1456)), (19, (.bool false)), (21, (iv ((rdD p0 x1456 z_Tile).N))), (23, (iv ((rdD p0 x1456 z_Tile).E))), (25, (iv ((rdD p0 x1456 z_Tile).S))), (27, (iv ((rdD p0 x1456 z_Tile).W)))] [.cell ⟨g1465, 0, none⟩ (iv ((rdD p0 x1456 z_Tile).N)), .cell ⟨g1465, 1, none⟩ (iv ((rdD p0 x1456 z_Tile).E)), .cell ⟨g1465, 2, none⟩ (iv ((rdD p0 x1456 z_Tile).S)), .cell ⟨g1465, 3, none⟩ (iv ((rdD p0 x1456 z_Tile).W))] (fun fb => by kernel_rfl) rfl ⟨hS1470.cell 0 rfl 0 rfl, hS1470.cell 0 rfl 1 rfl, hS1470.cell 0 rfl 2 rfl, hS1470.cell 0 rfl 3 rfl, trivial⟩ ?_
     refine WL.new hS1470 28 [] (fun g => (.slice (some ⟨g, 0, none⟩) 4 4)) (.cells #[(iv ((rdD p0 x1456 z_Tile).N)), (iv ((rdD p0 x1456 z_Tile).E)), (iv ((rdD p0 x1456 z_Tile).S)), (iv ((rdD p0 x1456 z_Tile).W))] 3 (0, 0)) [] (fun fb g => by kernel_rfl) trivial (fun g1485 w1486 hS1487 => ?_)
     refine ⟨trivial, ?_⟩
     have hS1489 : St NoS w w1486 [rowR enc_Tile A_p0 c_p0 p0] [rowO 3 encInt (some ⟨g1485, 0, none⟩) 4 [(rdD p0 x1456 z_Tile).N, (rdD p0 x1456 z_Tile).E, (rdD p0 x1456 z_Tile).S, (rdD p0 x1456 z_Tile).W], blk g1465 (.cells #[(iv ((rdD p0 x1456 z_Tile).N)), (iv ((rdD p0 x1456 z_Tile).E)), (iv ((rdD p0 x1456 z_Tile).S)), (iv ((rdD p0 x1456 z_Tile).W))] 40 (0, 0)), blk g1321 (mapObj (aggI ints_Tile) vB l1455)] := hS1487.map1 0 _ (fun h => rowO.ofBlk h rfl (Nat.le_of_ble_eq_true (by kernel_rfl))) (fun _ h => by obtain ⟨_, h1, h2⟩ := h; injection h1 with h1; subst h1; exact h2) [1, 2] (by decide) (by decide)
     obtain ⟨t1490, ht1491, hx1483⟩ := bind_some hx1483
     refine WL.call (some 29) 80 #[(.slice (some ⟨g1485, 0, none⟩) [(rdD p0 x1456 z_Tile).N, (rdD p0 x1456 z_Tile).E, (rdD p0 x1456 z_Tile).S, (rdD p0 x1456 z_Tile).W].length 4)] (fun fb => by kernel_rfl) (tile_colour_calls _ [(rdD p0 x1456 z_Tile).N, (rdD p0 x1456 z_Tile).E, (rdD p0 x1456 z_Tile).S, (rdD p0 x1456 z_Tile).W] (some ⟨g1485, 0, none⟩) 4 t1490 _ (hS1489.ow 0).ofO ht1491) (fun v w1492 hR1493 => ?_)
     obtain ⟨rfl, hk_⟩ := hR1493
     have hS1494 := hS1489.keepN hk_
     refine ⟨trivial, ?_⟩
     refine seg 16 [] [3, 5, 10, 11, 12, 31] [(3, (.map (some g1321))), (5, (pt g1465)), (10, (.slice A_p0 p0.length c_p0)), (11, (iv (p0.length : Int))), (12, (iv x1456)), (31, (.bool (!t1490)))] [] (fun fb => by kernel_rfl) rfl trivial ?_
     injection hx1483 with hx1483
     exact WL.to K (!t1490) [3, 5, 10, 11, 12, 31] rfl ⟨⟨(hS1494.subR [0]).sub [2, 1] (by decide), hx1483.symm⟩, trivial⟩
    rintro y1495 w1497 ⟨⟨hS1498, hq1496⟩, hF1499⟩
    subst hq1496
    refine WL.done rfl ?_
    refine WX.next ?_
    rcases br_some hl1462 with ⟨h1500, hl1462⟩ | ⟨h1500, hl1462⟩
    ·refine WC.condT2 (fun fb => by kernel_rfl) h1500 ?_
     refine WC.seq ?_
     refine WC.region ?_
     refine seg 1 [] [2] [(2, (.bool false))] [] (fun fb => by kernel_rfl) rfl trivial ?_
     refine WL.done rfl ?_
     refine WX.next ?_
     refine WC.ret ?_
     injection hl1462 with hl1462
     subst hl1462
     injection hf with hf
     subst hf
     exact WX.thenR (WX.blockR (WX.thenR (WX.thenR (WX.blockR (WX.thenR (WX.ret_ [] (.bool false) [] (fun fb => by kernel_rfl) trivial ⟨_, rfl, rfl, hS1498.keep⟩))))))
    refine WC.condF2 (fun fb => by kernel_rfl) h1500 ?_
    refine WC.skip ?_
    refine WX.next ?_
    refine WC.region ?_
    refine seg 2 [.v (iv ((rdD p0 x1456 z_Tile).N)), .v (iv ((rdD p0 x1456 z_Tile).E)), .v (iv ((rdD p0 x1456 z_Tile).S)), .v (iv ((rdD p0 x1456 z_Tile).W))] [3, 10, 11, 12, 32, 33] [(3, (.map (some g1321))), (10, (.slice A_p0 p0.length c_p0)), (11, (iv (p0.length : Int))), (12, (iv x1456)), (32, (.map (some g1321))), (33, (.agg #[(iv ((rdD p0 x1456 z_Tile).N)), (iv ((rdD p0 x1456 z_Tile).E)), (iv ((rdD p0 x1456 z_Tile).S)), (iv ((rdD p0 x1456 z_Tile).W))]))] [.cell ⟨g1465, 0, none⟩ (iv ((rdD p0 x1456 z_Tile).N)), .cell ⟨g1465, 1, none⟩ (iv ((rdD p0 x1456 z_Tile).E)), .cell ⟨g1465, 2, none⟩ (iv ((rdD p0 x1456 z_Tile).S)), .cell ⟨g1465, 3, none⟩ (iv ((rdD p0 x1456 z_Tile).W))] (fun fb => by kernel_rfl) rfl ⟨hS1498.cell 1 rfl 0 rfl, hS1498.cell 1 rfl 1 rfl, hS1498.cell 1 rfl 2 rfl, hS1498.cell 1 rfl 3 rfl, trivial⟩ ?_
    refine WL.mapput hS1498 0 (t := 114) (kT := 40) (eT := 4) (kE := (aggI ints_Tile)) (vE := vB) (l := l1455) rfl (rdD p0 x1456 z_Tile) true (fun fb => by kernel_rfl) tile_Valid_key40 (by kernel_rfl) [1] (by decide) (by decide) (fun w1501 hS1502 => ?_)
    refine ⟨trivial, ?_⟩
    refine WL.done rfl ?_
    refine WX.blockN (WX.next ?_)
    refine WC.region ?_
    refine seg 2 [] [3, 10, 11, 12] [(3, (.map (some g1321))), (10, (.slice A_p0 p0.length c_p0)), (11, (iv (p0.length : Int))), (12, (iv (w64 (x1456 + 1))))] [] (fun fb => by kernel_rfl) rfl trivial ?_
    refine WL.done rfl ?_
    exact WX.again k1459 (Nat.lt_succ_self _) (mput (rdD p0 x1456 z_Tile) true l1455, w64 (x1456 + 1)) [3, 10, 11, 12] rfl ⟨(hS1502.subR [0]).sub [0] (by decide), hl1462⟩
   refine WC.condF2 (fun fb => by kernel_rfl) h1463 ?_
   refine WC.exit ?_
   injection hl1462 with hl1462
   exact WX.thenX (WX.thenX (WX.blockHere (WX.to Kx1457 () [] rfl ⟨(hS1461.subR [0]).sub [] (by decide), hl1462.symm⟩)))
 rintro y1506 w1503 ⟨hS1504, hq1505⟩
 subst hq1505
 have hf := sum_inr hf
 refine WX.next ?_
 refine WC.seq ?_
 refine WC.region ?_
 refine seg 1 [] [2] [(2, (.bool true))] [] (fun fb => by kernel_rfl) rfl trivial ?_
 refine WL.done rfl ?_
 refine WX.next ?_
 refine WC.ret ?_
 injection hf with hf
 subst hf
 exact WX.ret_ [] (.bool true) [] (fun fb => by kernel_rfl) trivial ⟨_, rfl, rfl, hS1504.keep⟩
theorem tile_write_calls (k : Nat) (p0 : List Tile) (A_p0 : Option Addr) (c_p0 : Nat) (r : ByteArray) (w : World) (hR0 : RO NoS w (rowR enc_Tile A_p0 c_p0 p0)) (hf : tile_write k p0 = some r) :
  CallsR Tryd.prog 79 #[(.slice A_p0 p0.length c_p0)] w (fun v w' => v = (.string r) ∧ Keeps NoS w w') := by
 have hS : St NoS w w [rowR enc_Tile A_p0 c_p0 p0] [] := St.init (ro_cons hR0 (ro_nil _ _))
 refine enter 41 Tryd.func79 rfl Tryd.ntmps79 rfl ?_
 unfold tile_write at hf
 refine WC.seq ?_
 refine WC.region ?_
 refine seg 1 [] [0] [(0, (.slice A_p0 p0.length c_p0))] [] (fun fb => by kernel_rfl) rfl trivial ?_
 refine WL.done rfl ?_
 refine WX.next ?_
 refine WC.seq ?_
 refine WC.region ?_
 refine seg 1 [] [0, 3] [(0, (.slice A_p0 p0.length c_p0)), (3, (.slice none 0 0))] [] (fun fb => by kernel_rfl) rfl trivial ?_
 refine WL.done rfl ?_
 refine WX.next ?_
 refine WC.seq ?_
 refine WC.seq ?_
 refine WC.region ?_
 refine seg 3 [] [3, 9, 10, 11] [(3, (.slice none 0 0)), (9, (.slice A_p0 p0.length c_p0)), (10, (iv (p0.length : Int))), (11, (iv 0))] [] (fun fb => by kernel_rfl) rfl trivial ?_
 refine WL.done rfl ?_
 refine WX.next ?_
 have hS1905 := hS.nilrow 9 encStr
 obtain ⟨x1913, hx1914, hf⟩ := bind_some hf
 refine WC.cutN (T := (List ByteArray) × (Option Addr) × Nat) (fun t => [(3, (.slice t.2.1 t.1.length t.2.2))]) (fun t w1 => St NoS w w1 [rowR enc_Tile A_p0 c_p0 p0] [rowO 9 encStr t.2.1 t.2.2 t.1] ∧ x1913 = t.1) (fun Kx1913 => ?_) ?_
 ·
  refine WC.block ?_
  refine WC.loop (T := ((List ByteArray) × Int) × (Option Addr) × Nat) (fun t => [(3, (.slice t.2.1 t.1.1.length t.2.2)), (9, (.slice A_p0 p0.length c_p0)), (10, (iv (p0.length : Int))), (11, (iv t.1.2))]) (fun n t w1 => St NoS w w1 [rowR enc_Tile A_p0 c_p0 p0] [rowO 9 encStr t.2.1 t.2.2 t.1.1] ∧ tile_write.l0 n t.1.1 t.1.2 p0 = some x1913) k ((([] : List ByteArray), 0), none, 0) [3, 9, 10, 11] rfl ⟨(hS1905.subR [0]).sub [0] (by decide), hx1914⟩ ?_
  rintro k1915 ⟨⟨l1908, x1909⟩, A1906, c1907⟩ w1916 ⟨hS1917, hl1918⟩
  cases k1915 with
  | zero => rw [tile_write.l0] at hl1918; cases hl1918
  | succ k1915 =>
   rw [tile_write.l0] at hl1918
   refine WC.seq ?_
   refine WC.region ?_
   refine seg 1 [] [3, 9, 10, 11, 12] [(3, (.slice A1906 l1908.length c1907)), (9, (.slice A_p0 p0.length c_p0)), (10, (iv (p0.length : Int))), (11, (iv x1909)), (12, (.bool (decide (x1909 < (p0.length : Int)))))] [] (fun fb => by kernel_rfl) rfl trivial ?_
   refine WL.done rfl ?_
   refine WX.next ?_
   refine WC.seq ?_
   rcases br_some hl1918 with ⟨h1919, hl1918⟩ | ⟨h1919, hl1918⟩
   ·refine WC.condT2 (fun fb => by kernel_rfl) h1919 ?_
    refine WC.skip ?_
    refine WX.next ?_
    refine WC.seq ?_
    refine WC.block ?_
    refine WC.seq ?_
    refine WC.region ?_
    obtain ⟨h1920, hl1918⟩ := as_some hl1918
    refine seg 2 [.v (iv ((rdD p0 x1909 z_Tile).N)), .v (iv ((rdD p0 x1909 z_Tile).E)), .v (iv ((rdD p0 x1909 z_Tile).S)), .v (iv ((rdD p0 x1909 z_Tile).W))] [3, 9, 10, 11, 14] [(3, (.slice A1906 l1908.length c1907)), (9, (.slice A_p0 p0.length c_p0)), (10, (iv (p0.length : Int))), (11, (iv x1909)), (14, (.agg #[(iv ((rdD p0 x1909 z_Tile).N)), (iv ((rdD p0 x1909 z_Tile).E)), (iv ((rdD p0 x1909 z_Tile).S)), (iv ((rdD p0 x1909 z_Tile).W))]))] [.idx A_p0 x1909 p0.length, .cell ((adr A_p0).add ((x1909).toNat * 4)) (iv ((rdD p0 x1909 z_Tile).N)), .cell (((adr A_p0).add ((x1909).toNat * 4)).add 1) (iv ((rdD p0 x1909 z_Tile).E)), .cell (((adr A_p0).add ((x1909).toNat * 4)).add 2) (iv ((rdD p0 x1909 z_Tile).S)), .cell (((adr A_p0).add ((x1909).toNat * 4)).add 3) (iv ((rdD p0 x1909 z_Tile).W))] (fun fb => by kernel_rfl) rfl ⟨rowR.adr (hS1917.rd 0).1 h1920.1 h1920.2, rowR.cell (hS1917.rd 0).1 z_Tile h1920.1 h1920.2 0 rfl, rowR.cell (hS1917.rd 0).1 z_Tile h1920.1 h1920.2 1 rfl, rowR.cell (hS1917.rd 0).1 z_Tile h1920.1 h1920.2 2 rfl, rowR.cell (hS1917.rd 0).1 z_Tile h1920.1 h1920.2 3 rfl, trivial⟩ ?_
    refine WL.new hS1917 5 [] (fun g => (.pointer (some ⟨g, 0, none⟩))) (.cells #[(iv 0), (iv 0), (iv 0), (iv 0)] 40 (0, 0)) [] (fun fb g => by kernel_rfl) trivial (fun g1921 w1922 hS1923 => ?_)
    refine ⟨trivial, ?_⟩
    refine WL.store hS1923 0 rfl [(0, (iv ((rdD p0 x1909 z_Tile).N))), (1, (iv ((rdD p0 x1909 z_Tile).E))), (2, (iv ((rdD p0 x1909 z_Tile).S))), (3, (iv ((rdD p0 x1909 z_Tile).W)))] #[(iv ((rdD p0 x1909 z_Tile).N)), (iv ((rdD p0 x1909 z_Tile).E)), (iv ((rdD p0 x1909 z_Tile).S)), (iv ((rdD p0 x1909 z_Tile).W))] (fun fb => by kernel_rfl) (by kernel_rfl) rfl [1] (by decide) (by decide) (fun w1925 hS1926 => ?_)
    refine ⟨trivial, ?_⟩
    refine WL.done rfl ?_
    refine WX.next ?_
    refine WC.seq ?_
    refine WC.region ?_
    refine seg 1 [] [3, 5, 6, 9, 10, 11] [(3, (.slice A1906 l1908.length c1907)), (5, (pt g1921)), (6, (.slice none 0 0)), (9, (.slice A_p0 p0.length c_p0)), (10, (iv (p0.length : Int))), (11, (iv x1909))] [] (fun fb => by kernel_rfl) rfl trivial ?_
    refine WL.done rfl ?_
    refine WX.next ?_
    refine WC.seq ?_
    refine WC.seq ?_
    refine WC.region ?_
    refine seg 10 [.v (iv ((rdD p0 x1909 z_Tile).N)), .v (iv ((rdD p0 x1909 z_Tile).E)), .v (iv ((rdD p0 x1909 z_Tile).S)), .v (iv ((rdD p0 x1909 z_Tile).W))] [3, 6, 9, 10, 11, 23, 24] [(3, (.slice A1906 l1908.length c1907)), (6, (.slice none 0 0)), (9, (.slice A_p0 p0.length c_p0)), (10, (iv (p0.length : Int))), (11, (iv x1909)), (23, (.agg #[(iv ((rdD p0 x1909 z_Tile).N)), (iv ((rdD p0 x1909 z_Tile).E)), (iv ((rdD p0 x1909 z_Tile).S)), (iv ((rdD p0 x1909 z_Tile).W))])), (24, (iv 0))] [.cell ⟨g1921, 0, none⟩ (iv ((rdD p0 x1909 z_Tile).N)), .cell ⟨g1921, 1, none⟩ (iv ((rdD p0 x1909 z_Tile).E)), .cell ⟨g1921, 2, none⟩ (iv ((rdD p0 x1909 z_Tile).S)), .cell ⟨g1921, 3, none⟩ (iv ((rdD p0 x1909 z_Tile).W))] (fun fb => by kernel_rfl) rfl ⟨hS1926.cell 0 rfl 0 rfl, hS1926.cell 0 rfl 1 rfl, hS1926.cell 0 rfl 2 rfl, hS1926.cell 0 rfl 3 rfl, trivial⟩ ?_
    refine WL.done rfl ?_
    refine WX.next ?_
    have hS2014 := hS1926.nilrow 9 encStr
    obtain ⟨x2022, hx2023, hl1918⟩ := bind_some hl1918
    refine WC.cutN (T := (List ByteArray) × (Option Addr) × Nat) (fun t => [(3, (.slice A1906 l1908.length c1907)), (6, (.slice t.2.1 t.1.length t.2.2)), (9, (.slice A_p0 p0.length c_p0)), (10, (iv (p0.length : Int))), (11, (iv x1909))]) (fun t w1 => St NoS w w1 [rowR enc_Tile A_p0 c_p0 p0] [rowO 9 encStr A1906 c1907 l1908, rowO 9 encStr t.2.1 t.2.2 t.1] ∧ x2022 = t.1) (fun Kx2022 => ?_) ?_
    ·
     refine WC.block ?_
     refine WC.loop (T := ((List ByteArray) × Int) × (Option Addr) × Nat) (fun t => [(3, (.slice A1906 l1908.length c1907)), (6, (.slice t.2.1 t.1.1.length t.2.2)), (9, (.slice A_p0 p0.length c_p0)), (10, (iv (p0.length : Int))), (11, (iv x1909)), (23, (.agg #[(iv ((rdD p0 x1909 z_Tile).N)), (iv ((rdD p0 x1909 z_Tile).E)), (iv ((rdD p0 x1909 z_Tile).S)), (iv ((rdD p0 x1909 z_Tile).W))])), (24, (iv t.1.2))]) (fun n t w1 => St NoS w w1 [rowR enc_Tile A_p0 c_p0 p0] [rowO 9 encStr A1906 c1907 l1908, rowO 9 encStr t.2.1 t.2.2 t.1.1] ∧ tile_write.l1 n t.1.1 t.1.2 p0 x1909 = some x2022) k1915 ((([] : List ByteArray), 0), none, 0) [3, 6, 9, 10, 11, 23, 24] rfl ⟨(hS2014.subR [0]).sub [2, 0] (by decide), hx2023⟩ ?_
     rintro k2024 ⟨⟨l2017, x2018⟩, A2015, c2016⟩ w2025 ⟨hS2026, hl2027⟩
     cases k2024 with
     | zero => rw [tile_write.l1] at hl2027; cases hl2027
     | succ k2024 =>
      rw [tile_write.l1] at hl2027
      refine WC.seq ?_
      refine WC.region ?_
      refine seg 1 [] [3, 6, 9, 10, 11, 23, 24, 25] [(3, (.slice A1906 l1908.length c1907)), (6, (.slice A2015 l2017.length c2016)), (9, (.slice A_p0 p0.length c_p0)), (10, (iv (p0.length : Int))), (11, (iv x1909)), (23, (.agg #[(iv ((rdD p0 x1909 z_Tile).N)), (iv ((rdD p0 x1909 z_Tile).E)), (iv ((rdD p0 x1909 z_Tile).S)), (iv ((rdD p0 x1909 z_Tile).W))])), (24, (iv x2018)), (25, (.bool (decide (x2018 < 4))))] [] (fun fb => by kernel_rfl) rfl trivial ?_
      refine WL.done rfl ?_
      refine WX.next ?_
      refine WC.seq ?_
      rcases br_some hl2027 with ⟨h2028, hl2027⟩ | ⟨h2028, hl2027⟩
      ·refine WC.condT2 (fun fb => by kernel_rfl) h2028 ?_
       refine WC.skip ?_
       refine WX.next ?_
       refine WC.seq ?_
       refine WC.block ?_
       refine WC.seq ?_
       refine WC.region ?_
       rcases br_some hl2027 with ⟨h2029, hl2027⟩ | ⟨h2029, hl2027⟩
       ·
        refine WL.setI 24 (eq_of_beq h2029) rfl ?_
        refine seg 1 [] [3, 6, 9, 10, 11, 23, 24, 26] [(3, (.slice A1906 l1908.length c1907)), (6, (.slice A2015 l2017.length c2016)), (9, (.slice A_p0 p0.length c_p0)), (10, (iv (p0.length : Int))), (11, (iv x1909)), (23, (.agg #[(iv ((rdD p0 x1909 z_Tile).N)), (iv ((rdD p0 x1909 z_Tile).E)), (iv ((rdD p0 x1909 z_Tile).S)), (iv ((rdD p0 x1909 z_Tile).W))])), (24, (iv 0)), (26, (iv ((rdD p0 x1909 z_Tile).N)))] [] (fun fb => by kernel_rfl) rfl trivial ?_
        refine WL.setI 24 (eq_of_beq h2029).symm rfl ?_
        refine seg 2 [] [3, 6, 8, 9, 10, 11, 23, 24] [(3, (.slice A1906 l1908.length c1907)), (6, (.slice A2015 l2017.length c2016)), (8, (iv ((rdD p0 x1909 z_Tile).N))), (9, (.slice A_p0 p0.length c_p0)), (10, (iv (p0.length : Int))), (11, (iv x1909)), (23, (.agg #[(iv ((rdD p0 x1909 z_Tile).N)), (iv ((rdD p0 x1909 z_Tile).E)), (iv ((rdD p0 x1909 z_Tile).S)), (iv ((rdD p0 x1909 z_Tile).W))])), (24, (iv x2018))] [] (fun fb => by kernel_rfl) rfl trivial ?_
        refine WL.done rfl ?_
        refine WX.next ?_
        refine WC.region ?_
        refine seg 2 [] [3, 9, 10, 11, 23, 24, 27, 28] [(3, (.slice A1906 l1908.length c1907)), (9, (.slice A_p0 p0.length c_p0)), (10, (iv (p0.length : Int))), (11, (iv x1909)), (23, (.agg #[(iv ((rdD p0 x1909 z_Tile).N)), (iv ((rdD p0 x1909 z_Tile).E)), (iv ((rdD p0 x1909 z_Tile).S)), (iv ((rdD p0 x1909 z_Tile).W))])), (24, (iv x2018)), (27, (.slice A2015 l2017.length c2016)), (28, (iv ((rdD p0 x1909 z_Tile).N)))] [] (fun fb => by kernel_rfl) rfl trivial ?_
        obtain ⟨t2033, ht2034, hl2027⟩ := bind_some hl2027
        refine WL.call (some 29) 94 #[(iv ((rdD p0 x1909 z_Tile).N))] (fun fb => by kernel_rfl) (itoa_calls Tryd.strconv_Itoa_small ((rdD p0 x1909 z_Tile).N) t2033 _ ht2034) (fun v w2031 hR2030 => ?_)
        obtain ⟨rfl, hk_⟩ := hR2030
        have hS2032 := hS2026.keepN hk_
        refine ⟨trivial, ?_⟩
        refine WL.new hS2032 30 [] (fun g => (.slice (some ⟨g, 0, none⟩) 1 1)) (.cells #[(.string t2033)] 9 (0, 0)) [] (fun fb g => by kernel_rfl) trivial (fun g2035 w2036 hS2037 => ?_)
        refine ⟨trivial, ?_⟩
        have hS2039 : St NoS w w2036 [rowR enc_Tile A_p0 c_p0 p0] [rowO 9 encStr (some ⟨g2035, 0, none⟩) 1 [t2033], rowO 9 encStr A1906 c1907 l1908, rowO 9 encStr A2015 c2016 l2017] := hS2037.map1 0 _ (fun h => rowO.ofBlk h rfl (Nat.le_of_ble_eq_true (by kernel_rfl))) (fun _ h => by obtain ⟨_, h1, h2⟩ := h; injection h1 with h1; subst h1; exact h2) [1, 2] (by decide) (by decide)
        obtain ⟨h2040, hl2027⟩ := as_some hl2027
        refine WL.append hS2039 2 (d := 31) (tS := 106) (z := (.string ByteArray.empty)) (bytes := 16) (c2 := 1) rfl (fun fb => by kernel_rfl) (rowO.rd (hS2039.own 0).1) (by kernel_rfl) (by kernel_rfl) rfl (by decide) h2040 (by decide) [0, 1] (by decide) (by decide) (fun A2041 c2042 w2043 hS2044 => ?_)
        refine ⟨trivial, ?_⟩
        refine seg 6 [] [3, 6, 9, 10, 11, 23, 24] [(3, (.slice A1906 l1908.length c1907)), (6, (.slice A2041 (l2017 ++ [t2033]).length c2042)), (9, (.slice A_p0 p0.length c_p0)), (10, (iv (p0.length : Int))), (11, (iv x1909)), (23, (.agg #[(iv ((rdD p0 x1909 z_Tile).N)), (iv ((rdD p0 x1909 z_Tile).E)), (iv ((rdD p0 x1909 z_Tile).S)), (iv ((rdD p0 x1909 z_Tile).W))])), (24, (iv x2018))] [] (fun fb => by kernel_rfl) rfl trivial ?_
        refine WL.done rfl ?_
        refine WX.blockN (WX.next ?_)
        refine WC.region ?_
        refine seg 2 [] [3, 6, 9, 10, 11, 23, 24] [(3, (.slice A1906 l1908.length c1907)), (6, (.slice A2041 (l2017 ++ [t2033]).length c2042)), (9, (.slice A_p0 p0.length c_p0)), (10, (iv (p0.length : Int))), (11, (iv x1909)), (23, (.agg #[(iv ((rdD p0 x1909 z_Tile).N)), (iv ((rdD p0 x1909 z_Tile).E)), (iv ((rdD p0 x1909 z_Tile).S)), (iv ((rdD p0 x1909 z_Tile).W))])), (24, (iv (w64 (x2018 + 1))))] [] (fun fb => by kernel_rfl) rfl trivial ?_
        refine WL.done rfl ?_
        exact WX.again k2024 (Nat.lt_succ_self _) ((l2017 ++ [t2033], w64 (x2018 + 1)), A2041, c2042) [3, 6, 9, 10, 11, 23, 24] rfl ⟨(hS2044.subR [0]).sub [2, 0] (by decide), hl2027⟩
       rcases br_some hl2027 with ⟨h2045, hl2027⟩ | ⟨h2045, hl2027⟩
       ·
        refine WL.setI 24 (eq_of_beq h2045) rfl ?_
        refine seg 1 [] [3, 6, 9, 10, 11, 23, 24, 26] [(3, (.slice A1906 l1908.length c1907)), (6, (.slice A2015 l2017.length c2016)), (9, (.slice A_p0 p0.length c_p0)), (10, (iv (p0.length : Int))), (11, (iv x1909)), (23, (.agg #[(iv ((rdD p0 x1909 z_Tile).N)), (iv ((rdD p0 x1909 z_Tile).E)), (iv ((rdD p0 x1909 z_Tile).S)), (iv ((rdD p0 x1909 z_Tile).W))])), (24, (iv 1)), (26, (iv ((rdD p0 x1909 z_Tile).E)))] [] (fun fb => by kernel_rfl) rfl trivial ?_
        refine WL.setI 24 (eq_of_beq h2045).symm rfl ?_
        refine seg 2 [] [3, 6, 8, 9, 10, 11, 23, 24] [(3, (.slice A1906 l1908.length c1907)), (6, (.slice A2015 l2017.length c2016)), (8, (iv ((rdD p0 x1909 z_Tile).E))), (9, (.slice A_p0 p0.length c_p0)), (10, (iv (p0.length : Int))), (11, (iv x1909)), (23, (.agg #[(iv ((rdD p0 x1909 z_Tile).N)), (iv ((rdD p0 x1909 z_Tile).E)), (iv ((rdD p0 x1909 z_Tile).S)), (iv ((rdD p0 x1909 z_Tile).W))])), (24, (iv x2018))] [] (fun fb => by kernel_rfl) rfl trivial ?_
        refine WL.done rfl ?_
        refine WX.next ?_
        refine WC.region ?_
        refine seg 2 [] [3, 9, 10, 11, 23, 24, 27, 28] [(3, (.slice A1906 l1908.length c1907)), (9, (.slice A_p0 p0.length c_p0)), (10, (iv (p0.length : Int))), (11, (iv x1909)), (23, (.agg #[(iv ((rdD p0 x1909 z_Tile).N)), (iv ((rdD p0 x1909 z_Tile).E)), (iv ((rdD p0 x1909 z_Tile).S)), (iv ((rdD p0 x1909 z_Tile).W))])), (24, (iv x2018)), (27, (.slice A2015 l2017.length c2016)), (28, (iv ((rdD p0 x1909 z_Tile).E)))] [] (fun fb => by kernel_rfl) rfl trivial ?_
        obtain ⟨t2049, ht2050, hl2027⟩ := bind_some hl2027
        refine WL.call (some 29) 94 #[(iv ((rdD p0 x1909 z_Tile).E))] (fun fb => by kernel_rfl) (itoa_calls Tryd.strconv_Itoa_small ((rdD p0 x1909 z_Tile).E) t2049 _ ht2050) (fun v w2047 hR2046 => ?_)
        obtain ⟨rfl, hk_⟩ := hR2046
        have hS2048 := hS2026.keepN hk_
        refine ⟨trivial, ?_⟩
        refine WL.new hS2048 30 [] (fun g => (.slice (some ⟨g, 0, none⟩) 1 1)) (.cells #[(.string t2049)] 9 (0, 0)) [] (fun fb g => by kernel_rfl) trivial (fun g2051 w2052 hS2053 => ?_)
        refine ⟨trivial, ?_⟩
        have hS2055 : St NoS w w2052 [rowR enc_Tile A_p0 c_p0 p0] [rowO 9 encStr (some ⟨g2051, 0, none⟩) 1 [t2049], rowO 9 encStr A1906 c1907 l1908, rowO 9 encStr A2015 c2016 l2017] := hS2053.map1 0 _ (fun h => rowO.ofBlk h rfl (Nat.le_of_ble_eq_true (by kernel_rfl))) (fun _ h => by obtain ⟨_, h1, h2⟩ := h; injection h1 with h1; subst h1; exact h2) [1, 2] (by decide) (by decide)
        obtain ⟨h2056, hl2027⟩ := as_some hl2027
        refine WL.append hS2055 2 (d := 31) (tS := 106) (z := (.string ByteArray.empty)) (bytes := 16) (c2 := 1) rfl (fun fb => by kernel_rfl) (rowO.rd (hS2055.own 0).1) (by kernel_rfl) (by kernel_rfl) rfl (by decide) h2056 (by decide) [0, 1] (by decide) (by decide) (fun A2057 c2058 w2059 hS2060 => ?_)
        refine ⟨trivial, ?_⟩
        refine seg 6 [] [3, 6, 9, 10, 11, 23, 24] [(3, (.slice A1906 l1908.length c1907)), (6, (.slice A2057 (l2017 ++ [t2049]).length c2058)), (9, (.slice A_p0 p0.length c_p0)), (10, (iv (p0.length : Int))), (11, (iv x1909)), (23, (.agg #[(iv ((rdD p0 x1909 z_Tile).N)), (iv ((rdD p0 x1909 z_Tile).E)), (iv ((rdD p0 x1909 z_Tile).S)), (iv ((rdD p0 x1909 z_Tile).W))])), (24, (iv x2018))] [] (fun fb => by kernel_rfl) rfl trivial ?_
        refine WL.done rfl ?_
        refine WX.blockN (WX.next ?_)
        refine WC.region ?_
        refine seg 2 [] [3, 6, 9, 10, 11, 23, 24] [(3, (.slice A1906 l1908.length c1907)), (6, (.slice A2057 (l2017 ++ [t2049]).length c2058)), (9, (.slice A_p0 p0.length c_p0)), (10, (iv (p0.length : Int))), (11, (iv x1909)), (23, (.agg #[(iv ((rdD p0 x1909 z_Tile).N)), (iv ((rdD p0 x1909 z_Tile).E)), (iv ((rdD p0 x1909 z_Tile).S)), (iv ((rdD p0 x1909 z_Tile).W))])), (24, (iv (w64 (x2018 + 1))))] [] (fun fb => by kernel_rfl) rfl trivial ?_
        refine WL.done rfl ?_
        exact WX.again k2024 (Nat.lt_succ_self _) ((l2017 ++ [t2049], w64 (x2018 + 1)), A2057, c2058) [3, 6, 9, 10, 11, 23, 24] rfl ⟨(hS2060.subR [0]).sub [2, 0] (by decide), hl2027⟩
       rcases br_some hl2027 with ⟨h2061, hl2027⟩ | ⟨h2061, hl2027⟩
       ·
        refine WL.setI 24 (eq_of_beq h2061) rfl ?_
        refine seg 1 [] [3, 6, 9, 10, 11, 23, 24, 26] [(3, (.slice A1906 l1908.length c1907)), (6, (.slice A2015 l2017.length c2016)), (9, (.slice A_p0 p0.length c_p0)), (10, (iv (p0.length : Int))), (11, (iv x1909)), (23, (.agg #[(iv ((rdD p0 x1909 z_Tile).N)), (iv ((rdD p0 x1909 z_Tile).E)), (iv ((rdD p0 x1909 z_Tile).S)), (iv ((rdD p0 x1909 z_Tile).W))])), (24, (iv 2)), (26, (iv ((rdD p0 x1909 z_Tile).S)))] [] (fun fb => by kernel_rfl) rfl trivial ?_
        refine WL.setI 24 (eq_of_beq h2061).symm rfl ?_
        refine seg 2 [] [3, 6, 8, 9, 10, 11, 23, 24] [(3, (.slice A1906 l1908.length c1907)), (6, (.slice A2015 l2017.length c2016)), (8, (iv ((rdD p0 x1909 z_Tile).S))), (9, (.slice A_p0 p0.length c_p0)), (10, (iv (p0.length : Int))), (11, (iv x1909)), (23, (.agg #[(iv ((rdD p0 x1909 z_Tile).N)), (iv ((rdD p0 x1909 z_Tile).E)), (iv ((rdD p0 x1909 z_Tile).S)), (iv ((rdD p0 x1909 z_Tile).W))])), (24, (iv x2018))] [] (fun fb => by kernel_rfl) rfl trivial ?_
        refine WL.done rfl ?_
        refine WX.next ?_
        refine WC.region ?_
        refine seg 2 [] [3, 9, 10, 11, 23, 24, 27, 28] [(3, (.slice A1906 l1908.length c1907)), (9, (.slice A_p0 p0.length c_p0)), (10, (iv (p0.length : Int))), (11, (iv x1909)), (23, (.agg #[(iv ((rdD p0 x1909 z_Tile).N)), (iv ((rdD p0 x1909 z_Tile).E)), (iv ((rdD p0 x1909 z_Tile).S)), (iv ((rdD p0 x1909 z_Tile).W))])), (24, (iv x2018)), (27, (.slice A2015 l2017.length c2016)), (28, (iv ((rdD p0 x1909 z_Tile).S)))] [] (fun fb => by kernel_rfl) rfl trivial ?_
        obtain ⟨t2065, ht2066, hl2027⟩ := bind_some hl2027
        refine WL.call (some 29) 94 #[(iv ((rdD p0 x1909 z_Tile).S))] (fun fb => by kernel_rfl) (itoa_calls Tryd.strconv_Itoa_small ((rdD p0 x1909 z_Tile).S) t2065 _ ht2066) (fun v w2063 hR2062 => ?_)
        obtain ⟨rfl, hk_⟩ := hR2062
        have hS2064 := hS2026.keepN hk_
        refine ⟨trivial, ?_⟩
        refine WL.new hS2064 30 [] (fun g => (.slice (some ⟨g, 0, none⟩) 1 1)) (.cells #[(.string t2065)] 9 (0, 0)) [] (fun fb g => by kernel_rfl) trivial (fun g2067 w2068 hS2069 => ?_)
        refine ⟨trivial, ?_⟩
        have hS2071 : St NoS w w2068 [rowR enc_Tile A_p0 c_p0 p0] [rowO 9 encStr (some ⟨g2067, 0, none⟩) 1 [t2065], rowO 9 encStr A1906 c1907 l1908, rowO 9 encStr A2015 c2016 l2017] := hS2069.map1 0 _ (fun h => rowO.ofBlk h rfl (Nat.le_of_ble_eq_true (by kernel_rfl))) (fun _ h => by obtain ⟨_, h1, h2⟩ := h; injection h1 with h1; subst h1; exact h2) [1, 2] (by decide) (by decide)
        obtain ⟨h2072, hl2027⟩ := as_some hl2027
        refine WL.append hS2071 2 (d := 31) (tS := 106) (z := (.string ByteArray.empty)) (bytes := 16) (c2 := 1) rfl (fun fb => by kernel_rfl) (rowO.rd (hS2071.own 0).1) (by kernel_rfl) (by kernel_rfl) rfl (by decide) h2072 (by decide) [0, 1] (by decide) (by decide) (fun A2073 c2074 w2075 hS2076 => ?_)
        refine ⟨trivial, ?_⟩
        refine seg 6 [] [3, 6, 9, 10, 11, 23, 24] [(3, (.slice A1906 l1908.length c1907)), (6, (.slice A2073 (l2017 ++ [t2065]).length c2074)), (9, (.slice A_p0 p0.length c_p0)), (10, (iv (p0.length : Int))), (11, (iv x1909)), (23, (.agg #[(iv ((rdD p0 x1909 z_Tile).N)), (iv ((rdD p0 x1909 z_Tile).E)), (iv ((rdD p0 x1909 z_Tile).S)), (iv ((rdD p0 x1909 z_Tile).W))])), (24, (iv x2018))] [] (fun fb => by kernel_rfl) rfl trivial ?_
        refine WL.done rfl ?_
        refine WX.blockN (WX.next ?_)
        refine WC.region ?_
        refine seg 2 [] [3, 6, 9, 10, 11, 23, 24] [(3, (.slice A1906 l1908.length c1907)), (6, (.slice A2073 (l2017 ++ [t2065]).length c2074)), (9, (.slice A_p0 p0.length c_p0)), (10, (iv (p0.length : Int))), (11, (iv x1909)), (23, (.agg #[(iv ((rdD p0 x1909 z_Tile).N)), (iv ((rdD p0 x1909 z_Tile).E)), (iv ((rdD p0 x1909 z_Tile).S)), (iv ((rdD p0 x1909 z_Tile).W))])), (24, (iv (w64 (x2018 + 1))))] [] (fun fb => by kernel_rfl) rfl trivial ?_
        refine WL.done rfl ?_
        exact WX.again k2024 (Nat.lt_succ_self _) ((l2017 ++ [t2065], w64 (x2018 + 1)), A2073, c2074) [3, 6, 9, 10, 11, 23, 24] rfl ⟨(hS2076.subR [0]).sub [2, 0] (by decide), hl2027⟩
       rcases br_some hl2027 with ⟨h2077, hl2027⟩ | ⟨h2077, hl2027⟩
       ·
        refine WL.setI 24 (eq_of_beq h2077) rfl ?_
        refine seg 1 [] [3, 6, 9, 10, 11, 23, 24, 26] [(3, (.slice A1906 l1908.length c1907)), (6, (.slice A2015 l2017.length c2016)), (9, (.slice A_p0 p0.length c_p0)), (10, (iv (p0.length : Int))), (11, (iv x1909)), (23, (.agg #[(iv ((rdD p0 x1909 z_Tile).N)), (iv ((rdD p0 x1909 z_Tile).E)), (iv ((rdD p0 x1909 z_Tile).S)), (iv ((rdD p0 x1909 z_Tile).W))])), (24, (iv 3)), (26, (iv ((rdD p0 x1909 z_Tile).W)))] [] (fun fb => by kernel_rfl) rfl trivial ?_
        refine WL.setI 24 (eq_of_beq h2077).symm rfl ?_
        refine seg 2 [] [3, 6, 8, 9, 10, 11, 23, 24] [(3, (.slice A1906 l1908.length c1907)), (6, (.slice A2015 l2017.length c2016)), (8, (iv ((rdD p0 x1909 z_Tile).W))), (9, (.slice A_p0 p0.length c_p0)), (10, (iv (p0.length : Int))), (11, (iv x1909)), (23, (.agg #[(iv ((rdD p0 x1909 z_Tile).N)), (iv ((rdD p0 x1909 z_Tile).E)), (iv ((rdD p0 x1909 z_Tile).S)), (iv ((rdD p0 x1909 z_Tile).W))])), (24, (iv x2018))] [] (fun fb => by kernel_rfl) rfl trivial ?_
        refine WL.done rfl ?_
        refine WX.next ?_
        refine WC.region ?_
        refine seg 2 [] [3, 9, 10, 11, 23, 24, 27, 28] [(3, (.slice A1906 l1908.length c1907)), (9, (.slice A_p0 p0.length c_p0)), (10, (iv (p0.length : Int))), (11, (iv x1909)), (23, (.agg #[(iv ((rdD p0 x1909 z_Tile).N)), (iv ((rdD p0 x1909 z_Tile).E)), (iv ((rdD p0 x1909 z_Tile).S)), (iv ((rdD p0 x1909 z_Tile).W))])), (24, (iv x2018)), (27, (.slice A2015 l2017.length c2016)), (28, (iv ((rdD p0 x1909 z_Tile).W)))] [] (fun fb => by kernel_rfl) rfl trivial ?_
        obtain ⟨t2081, ht2082, hl2027⟩ := bind_some hl2027
        refine WL.call (some 29) 94 #[(iv ((rdD p0 x1909 z_Tile).W))] (fun fb => by kernel_rfl) (itoa_calls Tryd.strconv_Itoa_small ((rdD p0 x1909 z_Tile).W) t2081 _ ht2082) (fun v w2079 hR2078 => ?_)
        obtain ⟨rfl, hk_⟩ := hR2078
        have hS2080 := hS2026.keepN hk_
        refine ⟨trivial, ?_⟩
        refine WL.new hS2080 30 [] (fun g => (.slice (some ⟨g, 0, none⟩) 1 1)) (.cells #[(.string t2081)] 9 (0, 0)) [] (fun fb g => by kernel_rfl) trivial (fun g2083 w2084 hS2085 => ?_)
        refine ⟨trivial, ?_⟩
        have hS2087 : St NoS w w2084 [rowR enc_Tile A_p0 c_p0 p0] [rowO 9 encStr (some ⟨g2083, 0, none⟩) 1 [t2081], rowO 9 encStr A1906 c1907 l1908, rowO 9 encStr A2015 c2016 l2017] := hS2085.map1 0 _ (fun h => rowO.ofBlk h rfl (Nat.le_of_ble_eq_true (by kernel_rfl))) (fun _ h => by obtain ⟨_, h1, h2⟩ := h; injection h1 with h1; subst h1; exact h2) [1, 2] (by decide) (by decide)
        obtain ⟨h2088, hl2027⟩ := as_some hl2027
        refine WL.append hS2087 2 (d := 31) (tS := 106) (z := (.string ByteArray.empty)) (bytes := 16) (c2 := 1) rfl (fun fb => by kernel_rfl) (rowO.rd (hS2087.own 0).1) (by kernel_rfl) (by kernel_rfl) rfl (by decide) h2088 (by decide) [0, 1] (by decide) (by decide) (fun A2089 c2090 w2091 hS2092 => ?_)
        refine ⟨trivial, ?_⟩
        refine seg 6 [] [3, 6, 9, 10, 11, 23, 24] [(3, (.slice A1906 l1908.length c1907)), (6, (.slice A2089 (l2017 ++ [t2081]).length c2090)), (9, (.slice A_p0 p0.length c_p0)), (10, (iv (p0.length : Int))), (11, (iv x1909)), (23, (.agg #[(iv ((rdD p0 x1909 z_Tile).N)), (iv ((rdD p0 x1909 z_Tile).E)), (iv ((rdD p0 x1909 z_Tile).S)), (iv ((rdD p0 x1909 z_Tile).W))])), (24, (iv x2018))] [] (fun fb => by kernel_rfl) rfl trivial ?_
        refine WL.done rfl ?_
        refine WX.blockN (WX.next ?_)
        refine WC.region ?_
        refine seg 2 [] [3, 6, 9, 10, 11, 23, 24] [(3, (.slice A1906 l1908.length c1907)), (6, (.slice A2089 (l2017 ++ [t2081]).length c2090)), (9, (.slice A_p0 p0.length c_p0)), (10, (iv (p0.length : Int))), (11, (iv x1909)), (23, (.agg #[(iv ((rdD p0 x1909 z_Tile).N)), (iv ((rdD p0 x1909 z_Tile).E)), (iv ((rdD p0 x1909 z_Tile).S)), (iv ((rdD p0 x1909 z_Tile).W))])), (24, (iv (w64 (x2018 + 1))))] [] (fun fb => by kernel_rfl) rfl trivial ?_
        refine WL.done rfl ?_
        exact WX.again k2024 (Nat.lt_succ_self _) ((l2017 ++ [t2081], w64 (x2018 + 1)), A2089, c2090) [3, 6, 9, 10, 11, 23, 24] rfl ⟨(hS2092.subR [0]).sub [2, 0] (by decide), hl2027⟩
       cases hl2027
      refine WC.condF2 (fun fb => by kernel_rfl) h2028 ?_
      refine WC.exit ?_
      injection hl2027 with hl2027
      exact WX.thenX (WX.thenX (WX.blockHere (WX.to Kx2022 (l2017, A2015, c2016) [3, 6, 9, 10, 11] rfl ⟨(hS2026.subR [0]).sub [0, 1] (by decide), hl2027.symm⟩)))
    rintro ⟨y2096, A2019, c2020⟩ w2093 ⟨hS2094, hq2095⟩
    subst hq2095
    refine WX.next ?_
    refine WC.region ?_
    refine seg 2 [] [9, 10, 11, 33, 34] [(9, (.slice A_p0 p0.length c_p0)), (10, (iv (p0.length : Int))), (11, (iv x1909)), (33, (.slice A1906 l1908.length c1907)), (34, (.slice A2019 x2022.length c2020))] [] (fun fb => by kernel_rfl) rfl trivial ?_
    obtain ⟨t2100, ht2101, hl1918⟩ := bind_some hl1918
    refine WL.call (some 35) 95 #[(.slice A2019 x2022.length c2020), (.string (⟨#[46]⟩ : ByteArray))] (fun fb => by kernel_rfl) (join_calls Tryd.strings_Join Tryd.strings_Join_none x2022 (⟨#[46]⟩ : ByteArray) A2019 c2020 t2100 _ (hS2094.ow 1) ht2101) (fun v w2098 hR2097 => ?_)
    obtain ⟨rfl, hk_⟩ := hR2097
    have hS2099 := hS2094.keepN hk_
    refine ⟨trivial, ?_⟩
    refine WL.new hS2099 36 [] (fun g => (.slice (some ⟨g, 0, none⟩) 1 1)) (.cells #[(.string t2100)] 9 (0, 0)) [] (fun fb g => by kernel_rfl) trivial (fun g2102 w2103 hS2104 => ?_)
    refine ⟨trivial, ?_⟩
    have hS2106 : St NoS w w2103 [rowR enc_Tile A_p0 c_p0 p0] [rowO 9 encStr (some ⟨g2102, 0, none⟩) 1 [t2100], rowO 9 encStr A1906 c1907 l1908, rowO 9 encStr A2019 c2020 x2022] := hS2104.map1 0 _ (fun h => rowO.ofBlk h rfl (Nat.le_of_ble_eq_true (by kernel_rfl))) (fun _ h => by obtain ⟨_, h1, h2⟩ := h; injection h1 with h1; subst h1; exact h2) [1, 2] (by decide) (by decide)
    obtain ⟨h2107, hl1918⟩ := as_some hl1918
    refine WL.append hS2106 1 (d := 37) (tS := 106) (z := (.string ByteArray.empty)) (bytes := 16) (c2 := 1) rfl (fun fb => by kernel_rfl) (rowO.rd (hS2106.own 0).1) (by kernel_rfl) (by kernel_rfl) rfl (by decide) h2107 (by decide) [0, 2] (by decide) (by decide) (fun A2108 c2109 w2110 hS2111 => ?_)
    refine ⟨trivial, ?_⟩
    refine seg 6 [] [3, 9, 10, 11] [(3, (.slice A2108 (l1908 ++ [t2100]).length c2109)), (9, (.slice A_p0 p0.length c_p0)), (10, (iv (p0.length : Int))), (11, (iv x1909))] [] (fun fb => by kernel_rfl) rfl trivial ?_
    refine WL.done rfl ?_
    refine WX.blockN (WX.next ?_)
    refine WC.region ?_
    refine seg 2 [] [3, 9, 10, 11] [(3, (.slice A2108 (l1908 ++ [t2100]).length c2109)), (9, (.slice A_p0 p0.length c_p0)), (10, (iv (p0.length : Int))), (11, (iv (w64 (x1909 + 1))))] [] (fun fb => by kernel_rfl) rfl trivial ?_
    refine WL.done rfl ?_
    exact WX.again k1915 (Nat.lt_succ_self _) ((l1908 ++ [t2100], w64 (x1909 + 1)), A2108, c2109) [3, 9, 10, 11] rfl ⟨(hS2111.subR [0]).sub [0] (by decide), hl1918⟩
   refine WC.condF2 (fun fb => by kernel_rfl) h1919 ?_
   refine WC.exit ?_
   injection hl1918 with hl1918
   exact WX.thenX (WX.thenX (WX.blockHere (WX.to Kx1913 (l1908, A1906, c1907) [3] rfl ⟨(hS1917.subR [0]).sub [0] (by decide), hl1918.symm⟩)))
 rintro ⟨y2115, A1910, c1911⟩ w2112 ⟨hS2113, hq2114⟩
 subst hq2114
 refine WX.next ?_
 refine WC.seq ?_
 refine WC.region ?_
 refine seg 1 [] [39] [(39, (.slice A1910 x1913.length c1911))] [] (fun fb => by kernel_rfl) rfl trivial ?_
 obtain ⟨t2119, ht2120, hf⟩ := bind_some hf
 refine WL.call (some 40) 95 #[(.slice A1910 x1913.length c1911), (.string (⟨#[32]⟩ : ByteArray))] (fun fb => by kernel_rfl) (join_calls Tryd.strings_Join Tryd.strings_Join_none x1913 (⟨#[32]⟩ : ByteArray) A1910 c1911 t2119 _ (hS2113.ow 0) ht2120) (fun v w2117 hR2116 => ?_)
 obtain ⟨rfl, hk_⟩ := hR2116
 have hS2118 := hS2113.keepN hk_
 refine ⟨trivial, ?_⟩
 refine seg 3 [] [2] [(2, (.string t2119))] [] (fun fb => by kernel_rfl) rfl trivial ?_
 refine WL.done rfl ?_
 refine WX.next ?_
 refine WC.ret ?_
 injection hf with hf
 subst hf
 exact WX.ret_ [] (.string t2119) [] (fun fb => by kernel_rfl) trivial ⟨_, rfl, rfl, hS2118.keep⟩
theorem tile_Parse_calls (k : Nat) (p0 : ByteArray) (mG : Int) (r : (List Tile) × Int) (w : World) (hR0 : RO NoS w (cel ⟨2, 0, none⟩ (iv mG))) (hf : tile_Parse k p0 = some r) :
  CallsR Tryd.prog 49 #[(.string p0)] w (fun v w' => ∃ (A1_ : Option Addr), ∃ (c1_ : Nat), v = (.tuple #[(.slice A1_ r.1.length c1_), (iv r.2)]) ∧ St NoS w w' [] [rowO 40 enc_Tile A1_ c1_ r.1]) := by
 have hS : St NoS w w [cel ⟨2, 0, none⟩ (iv mG)] [] := St.init (ro_cons hR0 (ro_nil _ _))
 refine enter 76 Tryd.func49 rfl Tryd.ntmps49 rfl ?_
 unfold tile_Parse at hf
 refine WC.seq ?_
 refine WC.region ?_
 refine seg 2 [] [0] [(0, (.string p0))] [] (fun fb => by kernel_rfl) rfl trivial ?_
 refine WL.done rfl ?_
 refine WX.next ?_
 refine WC.seq ?_
 refine WC.region ?_
 refine seg 1 [] [0, 4] [(0, (.string p0)), (4, (.slice none 0 0))] [] (fun fb => by kernel_rfl) rfl trivial ?_
 refine WL.done rfl ?_
 refine WX.next ?_
 refine WC.seq ?_
 refine WC.seq ?_
 refine WC.region ?_
 refine seg 1 [] [0, 4, 13] [(0, (.string p0)), (4, (.slice none 0 0)), (13, (.string p0))] [] (fun fb => by kernel_rfl) rfl trivial ?_
 refine seg 2 [] [0, 4, 14] [(0, (.string p0)), (4, (.slice none 0 0)), (14, (.bool (p0.toList == (⟨#[]⟩ : ByteArray).toList)))] [] (fun fb => by kernel_rfl) rfl trivial ?_
 refine WL.setB 14 (strEq_raw p0 (⟨#[]⟩ : ByteArray)) rfl ?_
 refine WL.done rfl ?_
 refine WX.next ?_
 rcases br_some hf with ⟨h931, hf⟩ | ⟨h931, hf⟩
 ·refine WC.condT2 (fun fb => by kernel_rfl) h931 ?_
  refine WC.seq ?_
  refine WC.region ?_
  refine seg 2 [] [2, 3] [(2, (.slice none 0 0)), (3, (iv 0))] [] (fun fb => by kernel_rfl) rfl trivial ?_
  refine WL.done rfl ?_
  refine WX.next ?_
  refine WC.ret ?_
  have hS932 := hS.nilrow 40 enc_Tile
  injection hf with hf
  subst hf
  exact WX.thenR (WX.ret_ [] (.tuple #[(.slice none ([] : List Tile).length 0), (iv 0)]) [] (fun fb => by kernel_rfl) trivial ⟨_, rfl, none, 0, rfl, (hS932.sub [0] (by decide)).noR⟩)
 refine WC.condF2 (fun fb => by kernel_rfl) h931 ?_
 refine WC.skip ?_
 refine WX.next ?_
 refine WC.seq ?_
 refine WC.seq ?_
 refine WC.region ?_
 refine seg 3 [] [0, 4, 17] [(0, (.string p0)), (4, (.slice none 0 0)), (17, (.bool (decide ((p0.size : Int) > 16000))))] [] (fun fb => by kernel_rfl) rfl trivial ?_
 refine WL.done rfl ?_
 refine WX.next ?_
 rcases br_some hf with ⟨h933, hf⟩ | ⟨h933, hf⟩
 ·refine WC.condT2 (fun fb => by kernel_rfl) h933 ?_
  refine WC.seq ?_
  refine WC.region ?_
  refine seg 2 [] [2, 3] [(2, (.slice none 0 0)), (3, (iv 3))] [] (fun fb => by kernel_rfl) rfl trivial ?_
  refine WL.done rfl ?_
  refine WX.next ?_
  refine WC.ret ?_
  have hS934 := hS.nilrow 40 enc_Tile
  injection hf with hf
  subst hf
  exact WX.thenR (WX.ret_ [] (.tuple #[(.slice none ([] : List Tile).length 0), (iv 3)]) [] (fun fb => by kernel_rfl) trivial ⟨_, rfl, none, 0, rfl, (hS934.sub [0] (by decide)).noR⟩)
 refine WC.condF2 (fun fb => by kernel_rfl) h933 ?_
 refine WC.skip ?_
 refine WX.next ?_
 refine WC.seq ?_
 refine WC.seq ?_
 refine WC.region ?_
 refine seg 1 [] [0, 4, 18] [(0, (.string p0)), (4, (.slice none 0 0)), (18, (.string p0))] [] (fun fb => by kernel_rfl) rfl trivial ?_
 obtain ⟨h938, hf⟩ := as_some hf
 refine WL.call (some 19) 77 #[(.string p0), (.string (⟨#[32]⟩ : ByteArray))] (fun fb => by kernel_rfl) (split_calls Tryd.strings_Split p0 (⟨#[32]⟩ : ByteArray) mG _ (hS.rd 0) h938) (fun v w936 hR935 => ?_)
 obtain ⟨A939, c940, rfl, hk_⟩ := hR935
 have hS937 : St NoS w w936 [cel ⟨2, 0, none⟩ (iv mG)] [rowO 9 encStr A939 c940 (splitP p0 (⟨#[32]⟩ : ByteArray))] := hS.call hk_ [] [] (fun g hg => hg.elim) (by simp) (by decide)
 refine ⟨trivial, ?_⟩
 refine seg 4 [] [0, 4, 19, 20, 21] [(0, (.string p0)), (4, (.slice none 0 0)), (19, (.slice A939 (splitP p0 (⟨#[32]⟩ : ByteArray)).length c940)), (20, (iv ((splitP p0 (⟨#[32]⟩ : ByteArray)).length : Int))), (21, (iv 0))] [] (fun fb => by kernel_rfl) rfl trivial ?_
 refine WL.done rfl ?_
 refine WX.next ?_
 have hS1183 := hS937.nilrow 40 enc_Tile
 obtain ⟨x1191, hx1192, hf⟩ := bind_some hf
 refine WC.cutN (T := (List Tile) × (Option Addr) × Nat) (fun t => [(0, (.string p0)), (4, (.slice t.2.1 t.1.length t.2.2))]) (fun t w1 => St NoS w w1 [cel ⟨2, 0, none⟩ (iv mG)] [rowO 40 enc_Tile t.2.1 t.2.2 t.1] ∧ x1191 = .inr t.1) (fun Kx1191 => ?_) ?_
 ·
  refine WC.block ?_
  refine WC.loop (T := ((List Tile) × Int) × (Option Addr) × Nat) (fun t => [(0, (.string p0)), (4, (.slice t.2.1 t.1.1.length t.2.2)), (19, (.slice A939 (splitP p0 (⟨#[32]⟩ : ByteArray)).length c940)), (20, (iv ((splitP p0 (⟨#[32]⟩ : ByteArray)).length : Int))), (21, (iv t.1.2))]) (fun n t w1 => St NoS w w1 [cel ⟨2, 0, none⟩ (iv mG)] [rowO 40 enc_Tile t.2.1 t.2.2 t.1.1, rowO 9 encStr A939 c940 (splitP p0 (⟨#[32]⟩ : ByteArray))] ∧ tile_Parse.l0 n t.1.1 t.1.2 p0 = some x1191) k ((([] : List Tile), 0), none, 0) [0, 4, 19, 20, 21] rfl ⟨(hS1183.subR [0]).sub [0, 1] (by decide), hx1192⟩ ?_
  rintro k1193 ⟨⟨l1186, x1187⟩, A1184, c1185⟩ w1194 ⟨hS1195, hl1196⟩
  cases k1193 with
  | zero => rw [tile_Parse.l0] at hl1196; cases hl1196
  | succ k1193 =>
   rw [tile_Parse.l0] at hl1196
   refine WC.seq ?_
   refine WC.region ?_
   refine seg 1 [] [0, 4, 19, 20, 21, 22] [(0, (.string p0)), (4, (.slice A1184 l1186.length c1185)), (19, (.slice A939 (splitP p0 (⟨#[32]⟩ : ByteArray)).length c940)), (20, (iv ((splitP p0 (⟨#[32]⟩ : ByteArray)).length : Int))), (21, (iv x1187)), (22, (.bool (decide (x1187 < ((splitP p0 (⟨#[32]⟩ : ByteArray)).length : Int)))))] [] (fun fb => by kernel_rfl) rfl trivial ?_
   refine WL.done rfl ?_
   refine WX.next ?_
   refine WC.seq ?_
   rcases br_some hl1196 with ⟨h1197, hl1196⟩ | ⟨h1197, hl1196⟩
   ·refine WC.condT2 (fun fb => by kernel_rfl) h1197 ?_
    refine WC.skip ?_
    refine WX.next ?_
    refine WC.seq ?_
    refine WC.block ?_
    refine WC.seq ?_
    refine WC.region ?_
    obtain ⟨h1198, hl1196⟩ := as_some hl1196
    refine seg 3 [.v (.string (rdD (splitP p0 (⟨#[32]⟩ : ByteArray)) x1187 ByteArray.empty))] [0, 4, 6, 19, 20, 21] [(0, (.string p0)), (4, (.slice A1184 l1186.length c1185)), (6, (.string (rdD (splitP p0 (⟨#[32]⟩ : ByteArray)) x1187 ByteArray.empty))), (19, (.slice A939 (splitP p0 (⟨#[32]⟩ : ByteArray)).length c940)), (20, (iv ((splitP p0 (⟨#[32]⟩ : ByteArray)).length : Int))), (21, (iv x1187))] [.idx A939 x1187 (splitP p0 (⟨#[32]⟩ : ByteArray)).length, .cell ((adr A939).add ((x1187).toNat * 1)) (.string (rdD (splitP p0 (⟨#[32]⟩ : ByteArray)) x1187 ByteArray.empty))] (fun fb => by kernel_rfl) rfl ⟨rowR.adr (rowO.rd (hS1195.own 1).1) h1198.1 h1198.2, rowR.cell (rowO.rd (hS1195.own 1).1) ByteArray.empty h1198.1 h1198.2 0 rfl, trivial⟩ ?_
    refine WL.done rfl ?_
    refine WX.next ?_
    refine WC.seq ?_
    refine WC.region ?_
    refine seg 1 [] [0, 4, 19, 20, 21, 25] [(0, (.string p0)), (4, (.slice A1184 l1186.length c1185)), (19, (.slice A939 (splitP p0 (⟨#[32]⟩ : ByteArray)).length c940)), (20, (iv ((splitP p0 (⟨#[32]⟩ : ByteArray)).length : Int))), (21, (iv x1187)), (25, (.string (rdD (splitP p0 (⟨#[32]⟩ : ByteArray)) x1187 ByteArray.empty)))] [] (fun fb => by kernel_rfl) rfl trivial ?_
    obtain ⟨h1202, hl1196⟩ := as_some hl1196
    refine WL.call (some 26) 77 #[(.string (rdD (splitP p0 (⟨#[32]⟩ : ByteArray)) x1187 ByteArray.empty)), (.string (⟨#[46]⟩ : ByteArray))] (fun fb => by kernel_rfl) (split_calls Tryd.strings_Split (rdD (splitP p0 (⟨#[32]⟩ : ByteArray)) x1187 ByteArray.empty) (⟨#[46]⟩ : ByteArray) mG _ (hS1195.rd 0) h1202) (fun v w1200 hR1199 => ?_)
    obtain ⟨A1203, c1204, rfl, hk_⟩ := hR1199
    have hS1201 : St NoS w w1200 [cel ⟨2, 0, none⟩ (iv mG)] [rowO 9 encStr A1203 c1204 (splitP (rdD (splitP p0 (⟨#[32]⟩ : ByteArray)) x1187 ByteArray.empty) (⟨#[46]⟩ : ByteArray)), rowO 40 enc_Tile A1184 c1185 l1186, rowO 9 encStr A939 c940 (splitP p0 (⟨#[32]⟩ : ByteArray))] := hS1195.call hk_ [] [0, 1] (fun g hg => hg.elim) (by simp) (by decide)
    refine ⟨trivial, ?_⟩
    refine seg 3 [] [0, 4, 7, 19, 20, 21] [(0, (.string p0)), (4, (.slice A1184 l1186.length c1185)), (7, (.slice A1203 (splitP (rdD (splitP p0 (⟨#[32]⟩ : ByteArray)) x1187 ByteArray.empty) (⟨#[46]⟩ : ByteArray)).length c1204)), (19, (.slice A939 (splitP p0 (⟨#[32]⟩ : ByteArray)).length c940)), (20, (iv ((splitP p0 (⟨#[32]⟩ : ByteArray)).length : Int))), (21, (iv x1187))] [] (fun fb => by kernel_rfl) rfl trivial ?_
    refine WL.done rfl ?_
    refine WX.next ?_
    refine WC.seq ?_
    refine WC.seq ?_
    refine WC.region ?_
    refine seg 4 [] [0, 4, 7, 19, 20, 21, 30] [(0, (.string p0)), (4, (.slice A1184 l1186.length c1185)), (7, (.slice A1203 (splitP (rdD (splitP p0 (⟨#[32]⟩ : ByteArray)) x1187 ByteArray.empty) (⟨#[46]⟩ : ByteArray)).length c1204)), (19, (.slice A939 (splitP p0 (⟨#[32]⟩ : ByteArray)).length c940)), (20, (iv ((splitP p0 (⟨#[32]⟩ : ByteArray)).length : Int))), (21, (iv x1187)), (30, (.bool (((splitP (rdD (splitP p0 (⟨#[32]⟩ : ByteArray)) x1187 ByteArray.empty) (⟨#[46]⟩ : ByteArray)).length : Int) != 4)))] [] (fun fb => by kernel_rfl) rfl trivial ?_
    refine WL.cutV (T := Bool) 8 (fun t => [(34, (.bool t)), (0, (.string p0)), (4, (.slice A1184 l1186.length c1185)), (7, (.slice A1203 (splitP (rdD (splitP p0 (⟨#[32]⟩ : ByteArray)) x1187 ByteArray.empty) (⟨#[46]⟩ : ByteArray)).length c1204)), (19, (.slice A939 (splitP p0 (⟨#[32]⟩ : ByteArray)).length c940)), (20, (iv ((splitP p0 (⟨#[32]⟩ : ByteArray)).length : Int))), (21, (iv x1187))]) (fun t => ((((splitP (rdD (splitP p0 (⟨#[32]⟩ : ByteArray)) x1187 ByteArray.empty) (⟨#[46]⟩ : ByteArray)).length : Int) != 4) || (decide ((l1186.length : Int) > 1000))) = t) (fun K => ?_) ?_
    ·
     rcases Bool.eq_false_or_eq_true (((splitP (rdD (splitP p0 (⟨#[32]⟩ : ByteArray)) x1187 ByteArray.empty) (⟨#[46]⟩ : ByteArray)).length : Int) != 4) with h1205 | h1205
     ·
      refine WL.setB 30 h1205 rfl ?_
      refine seg 8 [] [0, 4, 7, 19, 20, 21, 34] [(0, (.string p0)), (4, (.slice A1184 l1186.length c1185)), (7, (.slice A1203 (splitP (rdD (splitP p0 (⟨#[32]⟩ : ByteArray)) x1187 ByteArray.empty) (⟨#[46]⟩ : ByteArray)).length c1204)), (19, (.slice A939 (splitP p0 (⟨#[32]⟩ : ByteArray)).length c940)), (20, (iv ((splitP p0 (⟨#[32]⟩ : ByteArray)).length : Int))), (21, (iv x1187)), (34, (.bool true))] [] (fun fb => by kernel_rfl) rfl trivial ?_
      exact WL.toV K true [34, 0, 4, 7, 19, 20, 21] rfl (by first | (rw [h1205]; done) | (rw [h1205]; rfl))
     refine WL.setB 30 h1205 rfl ?_
     refine seg 8 [] [0, 4, 7, 19, 20, 21, 34] [(0, (.string p0)), (4, (.slice A1184 l1186.length c1185)), (7, (.slice A1203 (splitP (rdD (splitP p0 (⟨#[32]⟩ : ByteArray)) x1187 ByteArray.empty) (⟨#[46]⟩ : ByteArray)).length c1204)), (19, (.slice A939 (splitP p0 (⟨#[32]⟩ : ByteArray)).length c940)), (20, (iv ((splitP p0 (⟨#[32]⟩ : ByteArray)).length : Int))), (21, (iv x1187)), (34, (.bool (decide ((l1186.length : Int) > 1000))))] [] (fun fb => by kernel_rfl) rfl trivial ?_
     exact WL.toV K (decide ((l1186.length : Int) > 1000)) [34, 0, 4, 7, 19, 20, 21] rfl (by first | (rw [h1205]; done) | (rw [h1205]; rfl))
    rintro b1206 rfl
    refine WL.done rfl ?_
    refine WX.next ?_
    rcases br_some hl1196 with ⟨h1207, hl1196⟩ | ⟨h1207, hl1196⟩
    ·refine WC.condT2 (fun fb => by kernel_rfl) h1207 ?_
     refine WC.seq ?_
     refine WC.region ?_
     refine seg 2 [] [2, 3] [(2, (.slice none 0 0)), (3, (iv 3))] [] (fun fb => by kernel_rfl) rfl trivial ?_
     refine WL.done rfl ?_
     refine WX.next ?_
     refine WC.ret ?_
     have hS1208 := hS1201.nilrow 40 enc_Tile
     injection hl1196 with hl1196
     subst hl1196
     injection hf with hf
     subst hf
     exact WX.thenR (WX.blockR (WX.thenR (WX.thenR (WX.blockR (WX.thenR (WX.ret_ [] (.tuple #[(.slice none ([] : List Tile).length 0), (iv 3)]) [] (fun fb => by kernel_rfl) trivial ⟨_, rfl, none, 0, rfl, (hS1208.sub [0] (by decide)).noR⟩))))))
    refine WC.condF2 (fun fb => by kernel_rfl) h1207 ?_
    refine WC.skip ?_
    refine WX.next ?_
    refine WC.seq ?_
    refine WC.region ?_
    refine WL.new hS1201 8 [] (fun g => (.pointer (some ⟨g, 0, none⟩))) (.cells #[(iv 0), (iv 0), (iv 0), (iv 0)] 108 (0, 0)) [] (fun fb g => by kernel_rfl) trivial (fun g1209 w1210 hS1211 => ?_)
    refine ⟨trivial, ?_⟩
    refine WL.done rfl ?_
    refine WX.next ?_
    refine WC.seq ?_
    refine WC.seq ?_
    refine WC.region ?_
    refine seg 3 [] [0, 4, 8, 19, 20, 21, 35, 36, 37] [(0, (.string p0)), (4, (.slice A1184 l1186.length c1185)), (8, (pt g1209)), (19, (.slice A939 (splitP p0 (⟨#[32]⟩ : ByteArray)).length c940)), (20, (iv ((splitP p0 (⟨#[32]⟩ : ByteArray)).length : Int))), (21, (iv x1187)), (35, (.slice A1203 (splitP (rdD (splitP p0 (⟨#[32]⟩ : ByteArray)) x1187 ByteArray.empty) (⟨#[46]⟩ : ByteArray)).length c1204)), (36, (iv ((splitP (rdD (splitP p0 (⟨#[32]⟩ : ByteArray)) x1187 ByteArray.empty) (⟨#[46]⟩ : ByteArray)).length : Int))), (37, (iv 0))] [] (fun fb => by kernel_rfl) rfl trivial ?_
    refine WL.done rfl ?_
    refine WX.next ?_
    obtain ⟨x1276, hx1277, hl1196⟩ := bind_some hl1196
    refine WC.cutN (T := Int × Int × Int × Int) (fun t => [(0, (.string p0)), (4, (.slice A1184 l1186.length c1185)), (8, (pt g1209)), (19, (.slice A939 (splitP p0 (⟨#[32]⟩ : ByteArray)).length c940)), (20, (iv ((splitP p0 (⟨#[32]⟩ : ByteArray)).length : Int))), (21, (iv x1187))]) (fun t w1 => St NoS w w1 [cel ⟨2, 0, none⟩ (iv mG)] [rowO 40 enc_Tile A1184 c1185 l1186, blk g1209 (.cells #[(iv t.1), (iv t.2.1), (iv t.2.2.1), (iv t.2.2.2)] 108 (0, 0)), rowO 9 encStr A939 c940 (splitP p0 (⟨#[32]⟩ : ByteArray))] ∧ x1276 = t) (fun Kx1276 => ?_) ?_
    ·
     refine WC.block ?_
     refine WC.loop (T := Int × Int × Int × Int × Int) (fun t => [(0, (.string p0)), (4, (.slice A1184 l1186.length c1185)), (8, (pt g1209)), (19, (.slice A939 (splitP p0 (⟨#[32]⟩ : ByteArray)).length c940)), (20, (iv ((splitP p0 (⟨#[32]⟩ : ByteArray)).length : Int))), (21, (iv x1187)), (35, (.slice A1203 (splitP (rdD (splitP p0 (⟨#[32]⟩ : ByteArray)) x1187 ByteArray.empty) (⟨#[46]⟩ : ByteArray)).length c1204)), (36, (iv ((splitP (rdD (splitP p0 (⟨#[32]⟩ : ByteArray)) x1187 ByteArray.empty) (⟨#[46]⟩ : ByteArray)).length : Int))), (37, (iv t.2.2.2.2))]) (fun n t w1 => St NoS w w1 [cel ⟨2, 0, none⟩ (iv mG)] [rowO 40 enc_Tile A1184 c1185 l1186, blk g1209 (.cells #[(iv t.1), (iv t.2.1), (iv t.2.2.1), (iv t.2.2.2.1)] 108 (0, 0)), rowO 9 encStr A939 c940 (splitP p0 (⟨#[32]⟩ : ByteArray)), rowO 9 encStr A1203 c1204 (splitP (rdD (splitP p0 (⟨#[32]⟩ : ByteArray)) x1187 ByteArray.empty) (⟨#[46]⟩ : ByteArray))] ∧ tile_Parse.l1 n t.1 t.2.1 t.2.2.1 t.2.2.2.1 t.2.2.2.2 p0 x1187 = some x1276) k1193 (0, 0, 0, 0, 0) [0, 4, 8, 19, 20, 21, 35, 36, 37] rfl ⟨(hS1211.subR [0]).sub [2, 0, 3, 1] (by decide), hx1277⟩ ?_
     rintro k1278 ⟨x1267, x1268, x1269, x1270, x1271⟩ w1279 ⟨hS1280, hl1281⟩
     cases k1278 with
     | zero => rw [tile_Parse.l1] at hl1281; cases hl1281
     | succ k1278 =>
      rw [tile_Parse.l1] at hl1281
      refine WC.seq ?_
      refine WC.region ?_
      refine seg 1 [] [0, 4, 8, 19, 20, 21, 35, 36, 37, 38] [(0, (.string p0)), (4, (.slice A1184 l1186.length c1185)), (8, (pt g1209)), (19, (.slice A939 (splitP p0 (⟨#[32]⟩ : ByteArray)).length c940)), (20, (iv ((splitP p0 (⟨#[32]⟩ : ByteArray)).length : Int))), (21, (iv x1187)), (35, (.slice A1203 (splitP (rdD (splitP p0 (⟨#[32]⟩ : ByteArray)) x1187 ByteArray.empty) (⟨#[46]⟩ : ByteArray)).length c1204)), (36, (iv ((splitP (rdD (splitP p0 (⟨#[32]⟩ : ByteArray)) x1187 ByteArray.empty) (⟨#[46]⟩ : ByteArray)).length : Int))), (37, (iv x1271)), (38, (.bool (decide (x1271 < ((splitP (rdD (splitP p0 (⟨#[32]⟩ : ByteArray)) x1187 ByteArray.empty) (⟨#[46]⟩ : ByteArray)).length : Int)))))] [] (fun fb => by kernel_rfl) rfl trivial ?_
      refine WL.done rfl ?_
      refine WX.next ?_
      refine WC.seq ?_
      rcases br_some hl1281 with ⟨h1282, hl1281⟩ | ⟨h1282, hl1281⟩
      ·refine WC.condT2 (fun fb => by kernel_rfl) h1282 ?_
       refine WC.skip ?_
       refine WX.next ?_
       refine WC.seq ?_
       refine WC.block ?_
       refine WC.seq ?_
       refine WC.region ?_
       refine seg 1 [] [0, 4, 8, 19, 20, 21, 35, 36, 37, 39] [(0, (.string p0)), (4, (.slice A1184 l1186.length c1185)), (8, (pt g1209)), (19, (.slice A939 (splitP p0 (⟨#[32]⟩ : ByteArray)).length c940)), (20, (iv ((splitP p0 (⟨#[32]⟩ : ByteArray)).length : Int))), (21, (iv x1187)), (35, (.slice A1203 (splitP (rdD (splitP p0 (⟨#[32]⟩ : ByteArray)) x1187 ByteArray.empty) (⟨#[46]⟩ : ByteArray)).length c1204)), (36, (iv ((splitP (rdD (splitP p0 (⟨#[32]⟩ : ByteArray)) x1187 ByteArray.empty) (⟨#[46]⟩ : ByteArray)).length : Int))), (37, (iv x1271)), (39, (iv x1271))] [] (fun fb => by kernel_rfl) rfl trivial ?_
       obtain ⟨h1283, hl1281⟩ := as_some hl1281
       refine seg 5 [.v (.string (rdD (splitP (rdD (splitP p0 (⟨#[32]⟩ : ByteArray)) x1187 ByteArray.empty) (⟨#[46]⟩ : ByteArray)) x1271 ByteArray.empty))] [0, 4, 8, 9, 10, 19, 20, 21, 35, 36, 37] [(0, (.string p0)), (4, (.slice A1184 l1186.length c1185)), (8, (pt g1209)), (9, (iv x1271)), (10, (.string (rdD (splitP (rdD (splitP p0 (⟨#[32]⟩ : ByteArray)) x1187 ByteArray.empty) (⟨#[46]⟩ : ByteArray)) x1271 ByteArray.empty))), (19, (.slice A939 (splitP p0 (⟨#[32]⟩ : ByteArray)).length c940)), (20, (iv ((splitP p0 (⟨#[32]⟩ : ByteArray)).length : Int))), (21, (iv x1187)), (35, (.slice A1203 (splitP (rdD (splitP p0 (⟨#[32]⟩ : ByteArray)) x1187 ByteArray.empty) (⟨#[46]⟩ : ByteArray)).length c1204)), (36, (iv ((splitP (rdD (splitP p0 (⟨#[32]⟩ : ByteArray)) x1187 ByteArray.empty) (⟨#[46]⟩ : ByteArray)).length : Int))), (37, (iv x1271))] [.idx A1203 x1271 (splitP (rdD (splitP p0 (⟨#[32]⟩ : ByteArray)) x1187 ByteArray.empty) (⟨#[46]⟩ : ByteArray)).length, .cell ((adr A1203).add ((x1271).toNat * 1)) (.string (rdD (splitP (rdD (splitP p0 (⟨#[32]⟩ : ByteArray)) x1187 ByteArray.empty) (⟨#[46]⟩ : ByteArray)) x1271 ByteArray.empty))] (fun fb => by kernel_rfl) rfl ⟨rowR.adr (rowO.rd (hS1280.own 3).1) h1283.1 h1283.2, rowR.cell (rowO.rd (hS1280.own 3).1) ByteArray.empty h1283.1 h1283.2 0 rfl, trivial⟩ ?_
       refine WL.done rfl ?_
       refine WX.next ?_
       refine WC.seq ?_
       refine WC.region ?_
       refine seg 1 [] [0, 4, 8, 9, 19, 20, 21, 35, 36, 37, 43] [(0, (.string p0)), (4, (.slice A1184 l1186.length c1185)), (8, (pt g1209)), (9, (iv x1271)), (19, (.slice A939 (splitP p0 (⟨#[32]⟩ : ByteArray)).length c940)), (20, (iv ((splitP p0 (⟨#[32]⟩ : ByteArray)).length : Int))), (21, (iv x1187)), (35, (.slice A1203 (splitP (rdD (splitP p0 (⟨#[32]⟩ : ByteArray)) x1187 ByteArray.empty) (⟨#[46]⟩ : ByteArray)).length c1204)), (36, (iv ((splitP (rdD (splitP p0 (⟨#[32]⟩ : ByteArray)) x1187 ByteArray.empty) (⟨#[46]⟩ : ByteArray)).length : Int))), (37, (iv x1271)), (43, (.string (rdD (splitP (rdD (splitP p0 (⟨#[32]⟩ : ByteArray)) x1187 ByteArray.empty) (⟨#[46]⟩ : ByteArray)) x1271 ByteArray.empty)))] [] (fun fb => by kernel_rfl) rfl trivial ?_
       obtain ⟨t1287, ht1288, hl1281⟩ := bind_some hl1281
       refine WL.call (some 44) 78 #[(.string (rdD (splitP (rdD (splitP p0 (⟨#[32]⟩ : ByteArray)) x1187 ByteArray.empty) (⟨#[46]⟩ : ByteArray)) x1271 ByteArray.empty))] (fun fb => by kernel_rfl) (atoi_calls Tryd.strconv_Atoi_ok (rdD (splitP (rdD (splitP p0 (⟨#[32]⟩ : ByteArray)) x1187 ByteArray.empty) (⟨#[46]⟩ : ByteArray)) x1271 ByteArray.empty) t1287 _ ht1288) (fun v w1285 hR1284 => ?_)
       obtain ⟨rfl, hk_⟩ := hR1284
       have hS1286 := hS1280.keepN hk_
       refine ⟨trivial, ?_⟩
       refine seg 7 [] [0, 4, 8, 9, 11, 12, 19, 20, 21, 35, 36, 37] [(0, (.string p0)), (4, (.slice A1184 l1186.length c1185)), (8, (pt g1209)), (9, (iv x1271)), (11, (iv t1287)), (12, .nilIface), (19, (.slice A939 (splitP p0 (⟨#[32]⟩ : ByteArray)).length c940)), (20, (iv ((splitP p0 (⟨#[32]⟩ : ByteArray)).length : Int))), (21, (iv x1187)), (35, (.slice A1203 (splitP (rdD (splitP p0 (⟨#[32]⟩ : ByteArray)) x1187 ByteArray.empty) (⟨#[46]⟩ : ByteArray)).length c1204)), (36, (iv ((splitP (rdD (splitP p0 (⟨#[32]⟩ : ByteArray)) x1187 ByteArray.empty) (⟨#[46]⟩ : ByteArray)).length : Int))), (37, (iv x1271))] [] (fun fb => by kernel_rfl) rfl trivial ?_
       refine WL.done rfl ?_
       refine WX.next ?_
       refine WC.seq ?_
       refine WC.seq ?_
       refine WC.region ?_
       refine seg 2 [] [0, 4, 8, 9, 11, 19, 20, 21, 35, 36, 37, 48] [(0, (.string p0)), (4, (.slice A1184 l1186.length c1185)), (8, (pt g1209)), (9, (iv x1271)), (11, (iv t1287)), (19, (.slice A939 (splitP p0 (⟨#[32]⟩ : ByteArray)).length c940)), (20, (iv ((splitP p0 (⟨#[32]⟩ : ByteArray)).length : Int))), (21, (iv x1187)), (35, (.slice A1203 (splitP (rdD (splitP p0 (⟨#[32]⟩ : ByteArray)) x1187 ByteArray.empty) (⟨#[46]⟩ : ByteArray)).length c1204)), (36, (iv ((splitP (rdD (splitP p0 (⟨#[32]⟩ : ByteArray)) x1187 ByteArray.empty) (⟨#[46]⟩ : ByteArray)).length : Int))), (37, (iv x1271)), (48, (.bool false))] [] (fun fb => by kernel_rfl) rfl trivial ?_
       refine WL.done rfl ?_
       refine WX.next ?_
       refine WC.condF (fun fb => by kernel_rfl) ?_
       refine WC.skip ?_
       refine WX.next ?_
       refine WC.region ?_
       refine seg 2 [] [0, 4, 8, 19, 20, 21, 35, 36, 37, 49, 50] [(0, (.string p0)), (4, (.slice A1184 l1186.length c1185)), (8, (pt g1209)), (19, (.slice A939 (splitP p0 (⟨#[32]⟩ : ByteArray)).length c940)), (20, (iv ((splitP p0 (⟨#[32]⟩ : ByteArray)).length : Int))), (21, (iv x1187)), (35, (.slice A1203 (splitP (rdD (splitP p0 (⟨#[32]⟩ : ByteArray)) x1187 ByteArray.empty) (⟨#[46]⟩ : ByteArray)).length c1204)), (36, (iv ((splitP (rdD (splitP p0 (⟨#[32]⟩ : ByteArray)) x1187 ByteArray.empty) (⟨#[46]⟩ : ByteArray)).length : Int))), (37, (iv x1271)), (49, (iv x1271)), (50, (iv t1287))] [] (fun fb => by kernel_rfl) rfl trivial ?_
       rcases br_some hl1281 with ⟨h1289, hl1281⟩ | ⟨h1289, hl1281⟩
       ·
        refine WL.setI 49 (eq_of_beq h1289) rfl ?_
        refine seg 3 [] [0, 4, 8, 19, 20, 21, 35, 36, 37, 50, 51] [(0, (.string p0)), (4, (.slice A1184 l1186.length c1185)), (8, (pt g1209)), (19, (.slice A939 (splitP p0 (⟨#[32]⟩ : ByteArray)).length c940)), (20, (iv ((splitP p0 (⟨#[32]⟩ : ByteArray)).length : Int))), (21, (iv x1187)), (35, (.slice A1203 (splitP (rdD (splitP p0 (⟨#[32]⟩ : ByteArray)) x1187 ByteArray.empty) (⟨#[46]⟩ : ByteArray)).length c1204)), (36, (iv ((splitP (rdD (splitP p0 (⟨#[32]⟩ : ByteArray)) x1187 ByteArray.empty) (⟨#[46]⟩ : ByteArray)).length : Int))), (37, (iv x1271)), (50, (iv t1287)), (51, (pt g1209))] [] (fun fb => by kernel_rfl) rfl trivial ?_
        refine WL.store hS1286 1 rfl [(0, (iv t1287))] #[(iv t1287), (iv x1268), (iv x1269), (iv x1270)] (fun fb => by kernel_rfl) (by kernel_rfl) rfl [0, 2, 3] (by decide) (by decide) (fun w1290 hS1291 => ?_)
        refine ⟨trivial, ?_⟩
        refine WL.done rfl ?_
        refine WX.blockN (WX.next ?_)
        refine WC.region ?_
        refine seg 2 [] [0, 4, 8, 19, 20, 21, 35, 36, 37] [(0, (.string p0)), (4, (.slice A1184 l1186.length c1185)), (8, (pt g1209)), (19, (.slice A939 (splitP p0 (⟨#[32]⟩ : ByteArray)).length c940)), (20, (iv ((splitP p0 (⟨#[32]⟩ : ByteArray)).length : Int))), (21, (iv x1187)), (35, (.slice A1203 (splitP (rdD (splitP p0 (⟨#[32]⟩ : ByteArray)) x1187 ByteArray.empty) (⟨#[46]⟩ : ByteArray)).length c1204)), (36, (iv ((splitP (rdD (splitP p0 (⟨#[32]⟩ : ByteArray)) x1187 ByteArray.empty) (⟨#[46]⟩ : ByteArray)).length : Int))), (37, (iv (w64 (x1271 + 1))))] [] (fun fb => by kernel_rfl) rfl trivial ?_
        refine WL.done rfl ?_
        exact WX.again k1278 (Nat.lt_succ_self _) (t1287, x1268, x1269, x1270, w64 (x1271 + 1)) [0, 4, 8, 19, 20, 21, 35, 36, 37] rfl ⟨(hS1291.subR [0]).sub [1, 0, 2, 3] (by decide), hl1281⟩
       rcases br_some hl1281 with ⟨h1292, hl1281⟩ | ⟨h1292, hl1281⟩
       ·
        refine WL.setI 49 (eq_of_beq h1292) rfl ?_
        refine seg 3 [] [0, 4, 8, 19, 20, 21, 35, 36, 37, 50, 51] [(0, (.string p0)), (4, (.slice A1184 l1186.length c1185)), (8, (pt g1209)), (19, (.slice A939 (splitP p0 (⟨#[32]⟩ : ByteArray)).length c940)), (20, (iv ((splitP p0 (⟨#[32]⟩ : ByteArray)).length : Int))), (21, (iv x1187)), (35, (.slice A1203 (splitP (rdD (splitP p0 (⟨#[32]⟩ : ByteArray)) x1187 ByteArray.empty) (⟨#[46]⟩ : ByteArray)).length c1204)), (36, (iv ((splitP (rdD (splitP p0 (⟨#[32]⟩ : ByteArray)) x1187 ByteArray.empty) (⟨#[46]⟩ : ByteArray)).length : Int))), (37, (iv x1271)), (50, (iv t1287)), (51, (.pointer (some ⟨g1209, 1, none⟩)))] [] (fun fb => by kernel_rfl) rfl trivial ?_
        refine WL.store hS1286 1 rfl [(1, (iv t1287))] #[(iv x1267), (iv t1287), (iv x1269), (iv x1270)] (fun fb => by kernel_rfl) (by kernel_rfl) rfl [0, 2, 3] (by decide) (by decide) (fun w1293 hS1294 => ?_)
        refine ⟨trivial, ?_⟩
        refine WL.done rfl ?_
        refine WX.blockN (WX.next ?_)
        refine WC.region ?_
        refine seg 2 [] [0, 4, 8, 19, 20, 21, 35, 36, 37] [(0, (.string p0)), (4, (.slice A1184 l1186.length c1185)), (8, (pt g1209)), (19, (.slice A939 (splitP p0 (⟨#[32]⟩ : ByteArray)).length c940)), (20, (iv ((splitP p0 (⟨#[32]⟩ : ByteArray)).length : Int))), (21, (iv x1187)), (35, (.slice A1203 (splitP (rdD (splitP p0 (⟨#[32]⟩ : ByteArray)) x1187 ByteArray.empty) (⟨#[46]⟩ : ByteArray)).length c1204)), (36, (iv ((splitP (rdD (splitP p0 (⟨#[32]⟩ : ByteArray)) x1187 ByteArray.empty) (⟨#[46]⟩ : ByteArray)).length : Int))), (37, (iv (w64 (x1271 + 1))))] [] (fun fb => by kernel_rfl) rfl trivial ?_
        refine WL.done rfl ?_
        exact WX.again k1278 (Nat.lt_succ_self _) (x1267, t1287, x1269, x1270, w64 (x1271 + 1)) [0, 4, 8, 19, 20, 21, 35, 36, 37] rfl ⟨(hS1294.subR [0]).sub [1, 0, 2, 3] (by decide), hl1281⟩
       rcases br_some hl1281 with ⟨h1295, hl1281⟩ | ⟨h1295, hl1281⟩
       ·
        refine WL.setI 49 (eq_of_beq h1295) rfl ?_
        refine seg 3 [] [0, 4, 8, 19, 20, 21, 35, 36, 37, 50, 51] [(0, (.string p0)), (4, (.slice A1184 l1186.length c1185)), (8, (pt g1209)), (19, (.slice A939 (splitP p0 (⟨#[32]⟩ : ByteArray)).length c940)), (20, (iv ((splitP p0 (⟨#[32]⟩ : ByteArray)).length : Int))), (21, (iv x1187)), (35, (.slice A1203 (splitP (rdD (splitP p0 (⟨#[32]⟩ : ByteArray)) x1187 ByteArray.empty) (⟨#[46]⟩ : ByteArray)).length c1204)), (36, (iv ((splitP (rdD (splitP p0 (⟨#[32]⟩ : ByteArray)) x1187 ByteArray.empty) (⟨#[46]⟩ : ByteArray)).length : Int))), (37, (iv x1271)), (50, (iv t1287)), (51, (.pointer (some ⟨g1209, 2, none⟩)))] [] (fun fb => by kernel_rfl) rfl trivial ?_
        refine WL.store hS1286 1 rfl [(2, (iv t1287))] #[(iv x1267), (iv x1268), (iv t1287), (iv x1270)] (fun fb => by kernel_rfl) (by kernel_rfl) rfl [0, 2, 3] (by decide) (by decide) (fun w1296 hS1297 => ?_)
        refine ⟨trivial, ?_⟩
        refine WL.done rfl ?_
        refine WX.blockN (WX.next ?_)
        refine WC.region ?_
        refine seg 2 [] [0, 4, 8, 19, 20, 21, 35, 36, 37] [(0, (.string p0)), (4, (.slice A1184 l1186.length c1185)), (8, (pt g1209)), (19, (.slice A939 (splitP p0 (⟨#[32]⟩ : ByteArray)).length c940)), (20, (iv ((splitP p0 (⟨#[32]⟩ : ByteArray)).length : Int))), (21, (iv x1187)), (35, (.slice A1203 (splitP (rdD (splitP p0 (⟨#[32]⟩ : ByteArray)) x1187 ByteArray.empty) (⟨#[46]⟩ : ByteArray)).length c1204)), (36, (iv ((splitP (rdD (splitP p0 (⟨#[32]⟩ : ByteArray)) x1187 ByteArray.empty) (⟨#[46]⟩ : ByteArray)).length : Int))), (37, (iv (w64 (x1271 + 1))))] [] (fun fb => by kernel_rfl) rfl trivial ?_
        refine WL.done rfl ?_
        exact WX.again k1278 (Nat.lt_succ_self _) (x1267, x1268, t1287, x1270, w64 (x1271 + 1)) [0, 4, 8, 19, 20, 21, 35, 36, 37] rfl ⟨(hS1297.subR [0]).sub [1, 0, 2, 3] (by decide), hl1281⟩
       rcases br_some hl1281 with ⟨h1298, hl1281⟩ | ⟨h1298, hl1281⟩
       ·
        refine WL.setI 49 (eq_of_beq h1298) rfl ?_
        refine seg 3 [] [0, 4, 8, 19, 20, 21, 35, 36, 37, 50, 51] [(0, (.string p0)), (4, (.slice A1184 l1186.length c1185)), (8, (pt g1209)), (19, (.slice A939 (splitP p0 (⟨#[32]⟩ : ByteArray)).length c940)), (20, (iv ((splitP p0 (⟨#[32]⟩ : ByteArray)).length : Int))), (21, (iv x1187)), (35, (.slice A1203 (splitP (rdD (splitP p0 (⟨#[32]⟩ : ByteArray)) x1187 ByteArray.empty) (⟨#[46]⟩ : ByteArray)).length c1204)), (36, (iv ((splitP (rdD (splitP p0 (⟨#[32]⟩ : ByteArray)) x1187 ByteArray.empty) (⟨#[46]⟩ : ByteArray)).length : Int))), (37, (iv x1271)), (50, (iv t1287)), (51, (.pointer (some ⟨g1209, 3, none⟩)))] [] (fun fb => by kernel_rfl) rfl trivial ?_
        refine WL.store hS1286 1 rfl [(3, (iv t1287))] #[(iv x1267), (iv x1268), (iv x1269), (iv t1287)] (fun fb => by kernel_rfl) (by kernel_rfl) rfl [0, 2, 3] (by decide) (by decide) (fun w1299 hS1300 => ?_)
        refine ⟨trivial, ?_⟩
        refine WL.done rfl ?_
        refine WX.blockN (WX.next ?_)
        refine WC.region ?_
        refine seg 2 [] [0, 4, 8, 19, 20, 21, 35, 36, 37] [(0, (.string p0)), (4, (.slice A1184 l1186.length c1185)), (8, (pt g1209)), (19, (.slice A939 (splitP p0 (⟨#[32]⟩ : ByteArray)).length c940)), (20, (iv ((splitP p0 (⟨#[32]⟩ : ByteArray)).length : Int))), (21, (iv x1187)), (35, (.slice A1203 (splitP (rdD (splitP p0 (⟨#[32]⟩ : ByteArray)) x1187 ByteArray.empty) (⟨#[46]⟩ : ByteArray)).length c1204)), (36, (iv ((splitP (rdD (splitP p0 (⟨#[32]⟩ : ByteArray)) x1187 ByteArray.empty) (⟨#[46]⟩ : ByteArray)).length : Int))), (37, (iv (w64 (x1271 + 1))))] [] (fun fb => by kernel_rfl) rfl trivial ?_
        refine WL.done rfl ?_
        exact WX.again k1278 (Nat.lt_succ_self _) (x1267, x1268, x1269, t1287, w64 (x1271 + 1)) [0, 4, 8, 19, 20, 21, 35, 36, 37] rfl ⟨(hS1300.subR [0]).sub [1, 0, 2, 3] (by decide), hl1281⟩
       cases hl1281
      refine WC.condF2 (fun fb => by kernel_rfl) h1282 ?_
      refine WC.exit ?_
      injection hl1281 with hl1281
      exact WX.thenX (WX.thenX (WX.blockHere (WX.to Kx1276 (x1267, x1268, x1269, x1270) [0, 4, 8, 19, 20, 21] rfl ⟨(hS1280.subR [0]).sub [0, 1, 2] (by decide), hl1281.symm⟩)))
    rintro y1304 w1301 ⟨hS1302, hq1303⟩
    subst hq1303
    refine WX.next ?_
    refine WC.region ?_
    refine seg 10 [.v (iv x1276.1), .v (iv x1276.2.1), .v (iv x1276.2.2.1), .v (iv x1276.2.2.2)] [0, 19, 20, 21, 53, 62] [(0, (.string p0)), (19, (.slice A939 (splitP p0 (⟨#[32]⟩ : ByteArray)).length c940)), (20, (iv ((splitP p0 (⟨#[32]⟩ : ByteArray)).length : Int))), (21, (iv x1187)), (53, (.slice A1184 l1186.length c1185)), (62, (.agg #[(iv x1276.1), (iv x1276.2.1), (iv x1276.2.2.1), (iv x1276.2.2.2)]))] [.cell ⟨g1209, 0, none⟩ (iv x1276.1), .cell ⟨g1209, 1, none⟩ (iv x1276.2.1), .cell ⟨g1209, 2, none⟩ (iv x1276.2.2.1), .cell ⟨g1209, 3, none⟩ (iv x1276.2.2.2)] (fun fb => by kernel_rfl) rfl ⟨hS1302.cell 1 rfl 0 rfl, hS1302.cell 1 rfl 1 rfl, hS1302.cell 1 rfl 2 rfl, hS1302.cell 1 rfl 3 rfl, trivial⟩ ?_
    refine WL.new hS1302 63 [] (fun g => (.slice (some ⟨g, 0, none⟩) 1 1)) (.cells #[(iv x1276.1), (iv x1276.2.1), (iv x1276.2.2.1), (iv x1276.2.2.2)] 40 (0, 0)) [] (fun fb g => by kernel_rfl) trivial (fun g1305 w1306 hS1307 => ?_)
    refine ⟨trivial, ?_⟩
    have hS1309 : St NoS w w1306 [cel ⟨2, 0, none⟩ (iv mG)] [rowO 40 enc_Tile (some ⟨g1305, 0, none⟩) 1 [(Tile.mk x1276.1 x1276.2.1 x1276.2.2.1 x1276.2.2.2)], rowO 40 enc_Tile A1184 c1185 l1186, blk g1209 (.cells #[(iv x1276.1), (iv x1276.2.1), (iv x1276.2.2.1), (iv x1276.2.2.2)] 108 (0, 0)), rowO 9 encStr A939 c940 (splitP p0 (⟨#[32]⟩ : ByteArray))] := hS1307.map1 0 _ (fun h => rowO.ofBlk h rfl (Nat.le_of_ble_eq_true (by kernel_rfl))) (fun _ h => by obtain ⟨_, h1, h2⟩ := h; injection h1 with h1; subst h1; exact h2) [1, 2, 3] (by decide) (by decide)
    obtain ⟨h1310, hl1196⟩ := as_some hl1196
    refine WL.append hS1309 1 (d := 64) (tS := 22) (z := (.agg #[(iv 0), (iv 0), (iv 0), (iv 0)])) (bytes := 32) (c2 := 1) rfl (fun fb => by kernel_rfl) (rowO.rd (hS1309.own 0).1) (by kernel_rfl) (by kernel_rfl) rfl (by decide) h1310 (by decide) [0, 2, 3] (by decide) (by decide) (fun A1311 c1312 w1313 hS1314 => ?_)
    refine ⟨trivial, ?_⟩
    refine seg 13 [] [0, 4, 19, 20, 21] [(0, (.string p0)), (4, (.slice A1311 (l1186 ++ [(Tile.mk x1276.1 x1276.2.1 x1276.2.2.1 x1276.2.2.2)]).length c1312)), (19, (.slice A939 (splitP p0 (⟨#[32]⟩ : ByteArray)).length c940)), (20, (iv ((splitP p0 (⟨#[32]⟩ : ByteArray)).length : Int))), (21, (iv x1187))] [] (fun fb => by kernel_rfl) rfl trivial ?_
    refine WL.done rfl ?_
    refine WX.blockN (WX.next ?_)
    refine WC.region ?_
    refine seg 2 [] [0, 4, 19, 20, 21] [(0, (.string p0)), (4, (.slice A1311 (l1186 ++ [(Tile.mk x1276.1 x1276.2.1 x1276.2.2.1 x1276.2.2.2)]).length c1312)), (19, (.slice A939 (splitP p0 (⟨#[32]⟩ : ByteArray)).length c940)), (20, (iv ((splitP p0 (⟨#[32]⟩ : ByteArray)).length : Int))), (21, (iv (w64 (x1187 + 1))))] [] (fun fb => by kernel_rfl) rfl trivial ?_
    refine WL.done rfl ?_
    exact WX.again k1193 (Nat.lt_succ_self _) ((l1186 ++ [(Tile.mk x1276.1 x1276.2.1 x1276.2.2.1 x1276.2.2.2)], w64 (x1187 + 1)), A1311, c1312) [0, 4, 19, 20, 21] rfl ⟨(hS1314.subR [0]).sub [0, 3] (by decide), hl1196⟩
   refine WC.condF2 (fun fb => by kernel_rfl) h1197 ?_
   refine WC.exit ?_
   injection hl1196 with hl1196
   exact WX.thenX (WX.thenX (WX.blockHere (WX.to Kx1191 (l1186, A1184, c1185) [0, 4] rfl ⟨(hS1195.subR [0]).sub [0] (by decide), hl1196.symm⟩)))
 rintro ⟨y1318, A1188, c1189⟩ w1315 ⟨hS1316, hq1317⟩
 subst hq1317
 have hf := sum_inr hf
 refine WX.next ?_
 refine WC.seq ?_
 refine WC.seq ?_
 refine WC.region ?_
 refine seg 1 [] [0, 4, 66] [(0, (.string p0)), (4, (.slice A1188 y1318.length c1189)), (66, (.slice A1188 y1318.length c1189))] [] (fun fb => by kernel_rfl) rfl trivial ?_
 obtain ⟨t1508, ht1509, hf⟩ := bind_some hf
 refine WL.call (some 67) 52 #[(.slice A1188 y1318.length c1189)] (fun fb => by kernel_rfl) (tile_Valid_calls _ y1318 A1188 c1189 t1508 _ (hS1316.ow 0).ofO ht1509) (fun v w1510 hR1511 => ?_)
 obtain ⟨rfl, hk_⟩ := hR1511
 have hS1512 := hS1316.keepN hk_
 refine ⟨trivial, ?_⟩
 refine seg 4 [] [0, 4, 69] [(0, (.string p0)), (4, (.slice A1188 y1318.length c1189)), (69, (.bool (!t1508)))] [] (fun fb => by kernel_rfl) rfl trivial ?_
 obtain ⟨x2127, hx2128, hf⟩ := bind_some hf
 refine WL.cutW (T := Bool) 9 (fun t => [(4, (.slice A1188 y1318.length c1189)), (74, (.bool t))]) (fun t w1 => (St NoS w w1 [cel ⟨2, 0, none⟩ (iv mG)] [rowO 40 enc_Tile A1188 c1189 y1318] ∧ x2127 = t) ∧ CellsOK [] w1) (fun K => ?_) ?_
 ·
  rcases br_some hx2128 with ⟨h2129, hx2128⟩ | ⟨h2129, hx2128⟩
  ·
   refine WL.setB 69 h2129 rfl ?_
   refine seg 9 [] [4, 74] [(4, (.slice A1188 y1318.length c1189)), (74, (.bool true))] [] (fun fb => by kernel_rfl) rfl trivial ?_
   injection hx2128 with hx2128
   exact WL.to K true [4, 74] rfl ⟨⟨(hS1512.subR [0]).sub [0] (by decide), hx2128.symm⟩, trivial⟩
  refine WL.setB 69 h2129 rfl ?_
  refine seg 5 [] [0, 4, 69, 70] [(0, (.string p0)), (4, (.slice A1188 y1318.length c1189)), (69, (.bool false)), (70, (.slice A1188 y1318.length c1189))] [] (fun fb => by kernel_rfl) rfl trivial ?_
  obtain ⟨t2130, ht2131, hx2128⟩ := bind_some hx2128
  refine WL.call (some 71) 79 #[(.slice A1188 y1318.length c1189)] (fun fb => by kernel_rfl) (tile_write_calls _ y1318 A1188 c1189 t2130 _ (hS1512.ow 0).ofO ht2131) (fun v w2132 hR2133 => ?_)
  obtain ⟨rfl, hk_⟩ := hR2133
  have hS2134 := hS1512.keepN hk_
  refine ⟨trivial, ?_⟩
  refine seg 7 [] [4, 69, 71, 72] [(4, (.slice A1188 y1318.length c1189)), (69, (.bool false)), (71, (.string t2130)), (72, (.string p0))] [] (fun fb => by kernel_rfl) rfl trivial ?_
  refine seg 8 [] [4, 69, 73] [(4, (.slice A1188 y1318.length c1189)), (69, (.bool false)), (73, (.bool (!(t2130.toList == p0.toList))))] [] (fun fb => by kernel_rfl) rfl trivial ?_
  refine WL.setB 73 (congrArg not (strEq_raw t2130 p0)) rfl ?_
  refine seg 9 [] [4, 74] [(4, (.slice A1188 y1318.length c1189)), (74, (.bool (!(strEq t2130 p0))))] [] (fun fb => by kernel_rfl) rfl trivial ?_
  injection hx2128 with hx2128
  exact WL.to K (!(strEq t2130 p0)) [4, 74] rfl ⟨⟨(hS2134.subR [0]).sub [0] (by decide), hx2128.symm⟩, trivial⟩
 rintro y2135 w2137 ⟨⟨hS2138, hq2136⟩, hF2139⟩
 subst hq2136
 refine WL.done rfl ?_
 refine WX.next ?_
 rcases br_some hf with ⟨h2140, hf⟩ | ⟨h2140, hf⟩
 ·refine WC.condT2 (fun fb => by kernel_rfl) h2140 ?_
  refine WC.seq ?_
  refine WC.region ?_
  refine seg 2 [] [2, 3] [(2, (.slice none 0 0)), (3, (iv 3))] [] (fun fb => by kernel_rfl) rfl trivial ?_
  refine WL.done rfl ?_
  refine WX.next ?_
  refine WC.ret ?_
  have hS2141 := hS2138.nilrow 40 enc_Tile
  injection hf with hf
  subst hf
  exact WX.thenR (WX.ret_ [] (.tuple #[(.slice none ([] : List Tile).length 0), (iv 3)]) [] (fun fb => by kernel_rfl) trivial ⟨_, rfl, none, 0, rfl, (hS2141.sub [0] (by decide)).noR⟩)
 refine WC.condF2 (fun fb => by kernel_rfl) h2140 ?_
 refine WC.skip ?_
 refine WX.next ?_
 refine WC.seq ?_
 refine WC.region ?_
 refine seg 3 [] [2, 3] [(2, (.slice A1188 y1318.length c1189)), (3, (iv 0))] [] (fun fb => by kernel_rfl) rfl trivial ?_
 refine WL.done rfl ?_
 refine WX.next ?_
 refine WC.ret ?_
 injection hf with hf
 subst hf
 exact WX.ret_ [] (.tuple #[(.slice A1188 y1318.length c1189), (iv 0)]) [] (fun fb => by kernel_rfl) trivial ⟨_, rfl, A1188, c1189, rfl, (hS2138.sub [0] (by decide)).noR⟩
theorem rows_Few_calls (k : Nat) (p0 : List Tile) (p1 : Int) (A_p0 : Option Addr) (c_p0 : Nat) (r : Bool) (w : World) (hR0 : RO NoS w (rowR enc_Tile A_p0 c_p0 p0)) (hf : rows_Few k p0 p1 = some r) :
  CallsR Tryd.prog 53 #[(.slice A_p0 p0.length c_p0), (iv p1)] w (fun v w' => v = (.bool r) ∧ Keeps NoS w w') := by
 have hS : St NoS w w [rowR enc_Tile A_p0 c_p0 p0] [] := St.init (ro_cons hR0 (ro_nil _ _))
 refine enter 17 Tryd.func53 rfl Tryd.ntmps53 rfl ?_
 unfold rows_Few at hf
 refine WC.seq ?_
 refine WC.region ?_
 refine seg 1 [] [0, 1] [(0, (.slice A_p0 p0.length c_p0)), (1, (iv p1))] [] (fun fb => by kernel_rfl) rfl trivial ?_
 refine WL.done rfl ?_
 refine WX.next ?_
 refine WC.seq ?_
 refine WC.region ?_
 refine seg 1 [] [0, 1, 5] [(0, (.slice A_p0 p0.length c_p0)), (1, (iv p1)), (5, (iv 1))] [] (fun fb => by kernel_rfl) rfl trivial ?_
 refine WL.done rfl ?_
 refine WX.next ?_
 refine WC.seq ?_
 refine WC.seq ?_
 refine WC.region ?_
 refine seg 2 [] [0, 5, 6, 7] [(0, (.slice A_p0 p0.length c_p0)), (5, (iv 1)), (6, (iv p1)), (7, (iv 0))] [] (fun fb => by kernel_rfl) rfl trivial ?_
 refine WL.done rfl ?_
 refine WX.next ?_
 obtain ⟨x2180, hx2181, hf⟩ := bind_some hf
 refine WC.cutN (T := Unit) (fun t => []) (fun t w1 => St NoS w w1 [rowR enc_Tile A_p0 c_p0 p0] [] ∧ x2180 = .inr t) (fun Kx2180 => ?_) ?_
 ·
  refine WC.block ?_
  refine WC.loop (T := Int × Int) (fun t => [(0, (.slice A_p0 p0.length c_p0)), (5, (iv t.1)), (6, (iv p1)), (7, (iv t.2))]) (fun n t w1 => St NoS w w1 [rowR enc_Tile A_p0 c_p0 p0] [] ∧ rows_Few.l0 n t.1 t.2 p0 p1 = some x2180) k (1, 0) [0, 5, 6, 7] rfl ⟨(hS.subR [0]).sub [] (by decide), hx2181⟩ ?_
  rintro k2182 ⟨x2178, x2179⟩ w2183 ⟨hS2184, hl2185⟩
  cases k2182 with
  | zero => rw [rows_Few.l0] at hl2185; cases hl2185
  | succ k2182 =>
   rw [rows_Few.l0] at hl2185
   refine WC.seq ?_
   refine WC.region ?_
   refine seg 1 [] [0, 5, 6, 7, 8] [(0, (.slice A_p0 p0.length c_p0)), (5, (iv x2178)), (6, (iv p1)), (7, (iv x2179)), (8, (.bool (decide (x2179 < p1))))] [] (fun fb => by kernel_rfl) rfl trivial ?_
   refine WL.done rfl ?_
   refine WX.next ?_
   refine WC.seq ?_
   rcases br_some hl2185 with ⟨h2186, hl2185⟩ | ⟨h2186, hl2185⟩
   ·refine WC.condT2 (fun fb => by kernel_rfl) h2186 ?_
    refine WC.skip ?_
    refine WX.next ?_
    refine WC.seq ?_
    refine WC.block ?_
    refine WC.seq ?_
    refine WC.region ?_
    refine seg 6 [] [0, 5, 6, 7] [(0, (.slice A_p0 p0.length c_p0)), (5, (iv (w64 (x2178 * (maxI (p0.length : Int) 1))))), (6, (iv p1)), (7, (iv x2179))] [] (fun fb => by kernel_rfl) rfl trivial ?_
    refine WL.done rfl ?_
    refine WX.next ?_
    refine WC.seq ?_
    refine WC.region ?_
    refine seg 2 [] [0, 5, 6, 7, 15] [(0, (.slice A_p0 p0.length c_p0)), (5, (iv (w64 (x2178 * (maxI (p0.length : Int) 1))))), (6, (iv p1)), (7, (iv x2179)), (15, (.bool (decide (w64 (x2178 * (maxI (p0.length : Int) 1)) > 5000))))] [] (fun fb => by kernel_rfl) rfl trivial ?_
    refine WL.done rfl ?_
    refine WX.next ?_
    rcases br_some hl2185 with ⟨h2187, hl2185⟩ | ⟨h2187, hl2185⟩
    ·refine WC.condT2 (fun fb => by kernel_rfl) h2187 ?_
     refine WC.seq ?_
     refine WC.region ?_
     refine seg 1 [] [4] [(4, (.bool false))] [] (fun fb => by kernel_rfl) rfl trivial ?_
     refine WL.done rfl ?_
     refine WX.next ?_
     refine WC.ret ?_
     injection hl2185 with hl2185
     subst hl2185
     injection hf with hf
     subst hf
     exact WX.blockR (WX.thenR (WX.thenR (WX.blockR (WX.thenR (WX.ret_ [] (.bool false) [] (fun fb => by kernel_rfl) trivial ⟨_, rfl, rfl, hS2184.keep⟩)))))
    refine WC.condF2 (fun fb => by kernel_rfl) h2187 ?_
    refine WC.skip ?_
    refine WX.blockN (WX.next ?_)
    refine WC.region ?_
    refine seg 2 [] [0, 5, 6, 7] [(0, (.slice A_p0 p0.length c_p0)), (5, (iv (w64 (x2178 * (maxI (p0.length : Int) 1))))), (6, (iv p1)), (7, (iv (w64 (x2179 + 1))))] [] (fun fb => by kernel_rfl) rfl trivial ?_
    refine WL.done rfl ?_
    exact WX.again k2182 (Nat.lt_succ_self _) (w64 (x2178 * (maxI (p0.length : Int) 1)), w64 (x2179 + 1)) [0, 5, 6, 7] rfl ⟨(hS2184.subR [0]).sub [] (by decide), hl2185⟩
   refine WC.condF2 (fun fb => by kernel_rfl) h2186 ?_
   refine WC.exit ?_
   injection hl2185 with hl2185
   exact WX.thenX (WX.thenX (WX.blockHere (WX.to Kx2180 () [] rfl ⟨(hS2184.subR [0]).sub [] (by decide), hl2185.symm⟩)))
 rintro y2191 w2188 ⟨hS2189, hq2190⟩
 subst hq2190
 have hf := sum_inr hf
 refine WX.next ?_
 refine WC.seq ?_
 refine WC.region ?_
 refine seg 1 [] [4] [(4, (.bool true))] [] (fun fb => by kernel_rfl) rfl trivial ?_
 refine WL.done rfl ?_
 refine WX.next ?_
 refine WC.ret ?_
 injection hf with hf
 subst hf
 exact WX.ret_ [] (.bool true) [] (fun fb => by kernel_rfl) trivial ⟨_, rfl, rfl, hS2189.keep⟩
theorem square_check_calls (k : Nat) (p0 : List Tile) (p1 : Int) (A_p0 : Option Addr) (c_p0 : Nat) (r : Int) (w : World) (hR0 : RO NoS w (rowR enc_Tile A_p0 c_p0 p0)) (hf : square_check k p0 p1 = some r) :
  CallsR Tryd.prog 70 #[(.slice A_p0 p0.length c_p0), (iv p1)] w (fun v w' => v = (iv r) ∧ Keeps NoS w w') := by
 have hS : St NoS w w [rowR enc_Tile A_p0 c_p0 p0] [] := St.init (ro_cons hR0 (ro_nil _ _))
 refine enter 21 Tryd.func70 rfl Tryd.ntmps70 rfl ?_
 unfold square_check at hf
 refine WC.seq ?_
 refine WC.region ?_
 refine seg 1 [] [0, 1] [(0, (.slice A_p0 p0.length c_p0)), (1, (iv p1))] [] (fun fb => by kernel_rfl) rfl trivial ?_
 refine WL.done rfl ?_
 refine WX.next ?_
 refine WC.seq ?_
 refine WC.block ?_
 refine WC.seq ?_
 refine WC.region ?_
 refine seg 1 [] [0, 1, 6] [(0, (.slice A_p0 p0.length c_p0)), (1, (iv p1)), (6, (.slice A_p0 p0.length c_p0))] [] (fun fb => by kernel_rfl) rfl trivial ?_
 obtain ⟨t2163, ht2164, hf⟩ := bind_some hf
 refine WL.call (some 7) 52 #[(.slice A_p0 p0.length c_p0)] (fun fb => by kernel_rfl) (tile_Valid_calls _ p0 A_p0 c_p0 t2163 _ (hS.rd 0) ht2164) (fun v w2165 hR2166 => ?_)
 obtain ⟨rfl, hk_⟩ := hR2166
 have hS2167 := hS.keepN hk_
 refine ⟨trivial, ?_⟩
 refine seg 4 [] [0, 1, 5] [(0, (.slice A_p0 p0.length c_p0)), (1, (iv p1)), (5, (.bool (!t2163)))] [] (fun fb => by kernel_rfl) rfl trivial ?_
 refine WL.done rfl ?_
 refine WX.next ?_
 rcases br_some hf with ⟨h2168, hf⟩ | ⟨h2168, hf⟩
 ·refine WC.condT2 (fun fb => by kernel_rfl) h2168 ?_
  refine WC.seq ?_
  refine WC.region ?_
  refine seg 1 [] [4] [(4, (iv 1))] [] (fun fb => by kernel_rfl) rfl trivial ?_
  refine WL.done rfl ?_
  refine WX.next ?_
  refine WC.ret ?_
  injection hf with hf
  subst hf
  exact WX.blockR (WX.thenR (WX.ret_ [] (iv 1) [] (fun fb => by kernel_rfl) trivial ⟨_, rfl, rfl, hS2167.keep⟩))
 refine WC.condF2 (fun fb => by kernel_rfl) h2168 ?_
 refine WC.seq ?_
 refine WC.region ?_
 refine seg 3 [] [0, 1, 12] [(0, (.slice A_p0 p0.length c_p0)), (1, (iv p1)), (12, (.bool (decide (p1 < 1))))] [] (fun fb => by kernel_rfl) rfl trivial ?_
 refine WL.cutV (T := Bool) 6 (fun t => [(15, (.bool t)), (0, (.slice A_p0 p0.length c_p0)), (1, (iv p1))]) (fun t => ((decide (p1 < 1)) || (decide (p1 > 8))) = t) (fun K => ?_) ?_
 ·
  rcases Bool.eq_false_or_eq_true (decide (p1 < 1)) with h2169 | h2169
  ·
   refine WL.setB 12 h2169 rfl ?_
   refine seg 6 [] [0, 1, 15] [(0, (.slice A_p0 p0.length c_p0)), (1, (iv p1)), (15, (.bool true))] [] (fun fb => by kernel_rfl) rfl trivial ?_
   exact WL.toV K true [15, 0, 1] rfl (by first | (rw [h2169]; done) | (rw [h2169]; rfl))
  refine WL.setB 12 h2169 rfl ?_
  refine seg 6 [] [0, 1, 15] [(0, (.slice A_p0 p0.length c_p0)), (1, (iv p1)), (15, (.bool (decide (p1 > 8))))] [] (fun fb => by kernel_rfl) rfl trivial ?_
  exact WL.toV K (decide (p1 > 8)) [15, 0, 1] rfl (by first | (rw [h2169]; done) | (rw [h2169]; rfl))
 rintro b2170 rfl
 refine seg 7 [] [0, 1, 9] [(0, (.slice A_p0 p0.length c_p0)), (1, (iv p1)), (9, (.bool ((decide (p1 < 1)) || (decide (p1 > 8)))))] [] (fun fb => by kernel_rfl) rfl trivial ?_
 refine WL.done rfl ?_
 refine WX.next ?_
 rcases br_some hf with ⟨h2171, hf⟩ | ⟨h2171, hf⟩
 ·refine WC.condT2 (fun fb => by kernel_rfl) h2171 ?_
  refine WC.seq ?_
  refine WC.region ?_
  refine seg 1 [] [4] [(4, (iv 2))] [] (fun fb => by kernel_rfl) rfl trivial ?_
  refine WL.done rfl ?_
  refine WX.next ?_
  refine WC.ret ?_
  injection hf with hf
  subst hf
  exact WX.blockR (WX.thenR (WX.ret_ [] (iv 2) [] (fun fb => by kernel_rfl) trivial ⟨_, rfl, rfl, hS2167.keep⟩))
 refine WC.condF2 (fun fb => by kernel_rfl) h2171 ?_
 refine WC.seq ?_
 refine WC.region ?_
 refine seg 2 [] [17, 18] [(17, (.slice A_p0 p0.length c_p0)), (18, (iv p1))] [] (fun fb => by kernel_rfl) rfl trivial ?_
 obtain ⟨t2193, ht2194, hf⟩ := bind_some hf
 refine WL.call (some 19) 53 #[(.slice A_p0 p0.length c_p0), (iv p1)] (fun fb => by kernel_rfl) (rows_Few_calls _ p0 p1 A_p0 c_p0 t2193 _ (hS2167.rd 0) ht2194) (fun v w2195 hR2196 => ?_)
 obtain ⟨rfl, hk_⟩ := hR2196
 have hS2197 := hS2167.keepN hk_
 refine ⟨trivial, ?_⟩
 refine seg 5 [] [16] [(16, (.bool (!t2193)))] [] (fun fb => by kernel_rfl) rfl trivial ?_
 refine WL.done rfl ?_
 refine WX.next ?_
 rcases br_some hf with ⟨h2198, hf⟩ | ⟨h2198, hf⟩
 ·refine WC.condT2 (fun fb => by kernel_rfl) h2198 ?_
  refine WC.seq ?_
  refine WC.region ?_
  refine seg 1 [] [4] [(4, (iv 4))] [] (fun fb => by kernel_rfl) rfl trivial ?_
  refine WL.done rfl ?_
  refine WX.next ?_
  refine WC.ret ?_
  injection hf with hf
  subst hf
  exact WX.blockR (WX.thenR (WX.ret_ [] (iv 4) [] (fun fb => by kernel_rfl) trivial ⟨_, rfl, rfl, hS2197.keep⟩))
 refine WC.condF2 (fun fb => by kernel_rfl) h2198 ?_
 refine WC.skip ?_
 refine WX.blockN (WX.next ?_)
 refine WC.seq ?_
 refine WC.region ?_
 refine seg 1 [] [4] [(4, (iv 0))] [] (fun fb => by kernel_rfl) rfl trivial ?_
 refine WL.done rfl ?_
 refine WX.next ?_
 refine WC.ret ?_
 injection hf with hf
 subst hf
 exact WX.ret_ [] (iv 0) [] (fun fb => by kernel_rfl) trivial ⟨_, rfl, rfl, hS2197.keep⟩
theorem square_filled_calls (p0 : List Tile) (p1 : Int) (A_p0 : Option Addr) (c_p0 : Nat) (r : Unit) (w : World) (hR0 : RO NoS w (rowR enc_Tile A_p0 c_p0 p0)) (hf : square_filled p0 p1 = some r) :
  CallsR Tryd.prog 72 #[(.slice A_p0 p0.length c_p0), (iv p1)] w (fun v w' => ∃ (g1_ : Nat), ∃ (g2_ : Nat), v = (.func (.func 88) #[] #[(.pointer (some ⟨g1_, 0, none⟩)), (.pointer (some ⟨g2_, 0, none⟩))]) ∧ St NoS w w' [] [blk g1_ (.cells #[(iv p1)] 3 (0, 0)), blk g2_ (.cells #[(.slice A_p0 p0.length c_p0)] 22 (0, 0))]) := by
 have hS : St NoS w w [rowR enc_Tile A_p0 c_p0 p0] [] := St.init (ro_cons hR0 (ro_nil _ _))
 refine enter 6 Tryd.func72 rfl Tryd.ntmps72 rfl ?_
 unfold square_filled at hf
 refine WC.seq ?_
 refine WC.region ?_
 refine WL.new hS 2 [] (fun g => (.pointer (some ⟨g, 0, none⟩))) (.cells #[(.slice A_p0 p0.length c_p0)] 22 (0, 0)) [] (fun fb g => by kernel_rfl) trivial (fun g2211 w2212 hS2213 => ?_)
 refine ⟨trivial, ?_⟩
 refine WL.new hS2213 3 [] (fun g => (.pointer (some ⟨g, 0, none⟩))) (.cells #[(iv p1)] 3 (0, 0)) [] (fun fb g => by kernel_rfl) trivial (fun g2215 w2216 hS2217 => ?_)
 refine ⟨trivial, ?_⟩
 refine seg 3 [] [2, 3] [(2, (pt g2211)), (3, (pt g2215))] [] (fun fb => by kernel_rfl) rfl trivial ?_
 refine WL.done rfl ?_
 refine WX.next ?_
 refine WC.seq ?_
 refine WC.region ?_
 refine seg 2 [] [4] [(4, (.func (.func 88) #[] #[(pt g2215), (pt g2211)]))] [] (fun fb => by kernel_rfl) rfl trivial ?_
 refine WL.done rfl ?_
 refine WX.next ?_
 refine WC.ret ?_
 injection hf with hf
 subst hf
 exact WX.ret_ [] (.func (.func 88) #[] #[(pt g2215), (pt g2211)]) [] (fun fb => by kernel_rfl) trivial ⟨_, rfl, g2215, g2211, rfl, (hS2217.sub [0, 1] (by decide)).noR⟩
theorem rows_rowOf_calls (k : Nat) (p0 : List Tile) (p1 : List Int) (A_p0 : Option Addr) (c_p0 : Nat) (A_p1 : Option Addr) (c_p1 : Nat) (r : Row) (w : World) (hR0 : RO NoS w (rowR enc_Tile A_p0 c_p0 p0)) (hR1 : RO NoS w (rowR encInt A_p1 c_p1 p1)) (hf : rows_rowOf k p0 p1 = some r) :
  CallsR Tryd.prog 98 #[(.slice A_p0 p0.length c_p0), (.slice A_p1 p1.length c_p1)] w (fun v w' => ∃ (A1_ : Option Addr), ∃ (c1_ : Nat), v = (.agg #[(.slice A1_ r.Cells.length c1_), (iv r.South.e0), (iv r.South.e1), (iv r.South.e2), (iv r.South.e3), (iv r.South.e4), (iv r.South.e5), (iv r.South.e6), (iv r.South.e7), (iv r.North.e0), (iv r.North.e1), (iv r.North.e2), (iv r.North.e3), (iv r.North.e4), (iv r.North.e5), (iv r.North.e6), (iv r.North.e7), (iv r.West), (iv r.East)]) ∧ St NoS w w' [] [rowO 3 encInt A1_ c1_ r.Cells]) := by
 have hS : St NoS w w [rowR enc_Tile A_p0 c_p0 p0, rowR encInt A_p1 c_p1 p1] [] := St.init (ro_cons hR0 (ro_cons hR1 (ro_nil _ _)))
 refine enter 55 Tryd.func98 rfl Tryd.ntmps98 rfl ?_
 unfold rows_rowOf at hf
 refine WC.seq ?_
 refine WC.region ?_
 refine WL.new hS 4 [] (fun g => (.pointer (some ⟨g, 0, none⟩))) (.cells #[(.slice none 0 0), (iv 0), (iv 0), (iv 0), (iv 0), (iv 0), (iv 0), (iv 0), (iv 0), (iv 0), (iv 0), (iv 0), (iv 0), (iv 0), (iv 0), (iv 0), (iv 0), (iv 0), (iv 0)] 85 (0, 0)) [] (fun fb g => by kernel_rfl) trivial (fun g2373 w2374 hS2375 => ?_)
 refine ⟨trivial, ?_⟩
 refine WL.done rfl ?_
 refine WX.next ?_
 refine WC.seq ?_
 refine WC.region ?_
 refine seg 1 [] [0, 1, 4, 8] [(0, (.slice A_p0 p0.length c_p0)), (1, (.slice A_p1 p1.length c_p1)), (4, (pt g2373)), (8, (.slice A_p1 p1.length c_p1))] [] (fun fb => by kernel_rfl) rfl trivial ?_
 have hS2377 := hS2375.nilrow 3 encInt
 obtain ⟨h2378, hf⟩ := as_some hf
 refine WL.append hS2377 0 (d := 9) (tS := 25) (z := (iv 0)) (bytes := 8) (c2 := c_p1) rfl (fun fb => by kernel_rfl) (hS2377.rd 1).1 (by kernel_rfl) (by kernel_rfl) rfl (by decide) h2378 (by decide) [1] (by decide) (by decide) (fun A2379 c2380 w2381 hS2382 => ?_)
 refine ⟨trivial, ?_⟩
 refine seg 3 [] [0, 1, 4, 10] [(0, (.slice A_p0 p0.length c_p0)), (1, (.slice A_p1 p1.length c_p1)), (4, (pt g2373)), (10, (.agg #[(.slice A2379 (([] : List Int) ++ p1).length c2380), (iv 0), (iv 0), (iv 0), (iv 0), (iv 0), (iv 0), (iv 0), (iv 0), (iv 0), (iv 0), (iv 0), (iv 0), (iv 0), (iv 0), (iv 0), (iv 0), (iv 0), (iv 0)]))] [] (fun fb => by kernel_rfl) rfl trivial ?_
 refine WL.new hS2382 5 [] (fun g => (.pointer (some ⟨g, 0, none⟩))) (.cells #[(.slice none 0 0), (iv 0), (iv 0), (iv 0), (iv 0), (iv 0), (iv 0), (iv 0), (iv 0), (iv 0), (iv 0), (iv 0), (iv 0), (iv 0), (iv 0), (iv 0), (iv 0), (iv 0), (iv 0)] 85 (0, 0)) [] (fun fb g => by kernel_rfl) trivial (fun g2383 w2384 hS2385 => ?_)
 refine ⟨trivial, ?_⟩
 refine WL.store hS2385 0 rfl [(0, (.slice A2379 (([] : List Int) ++ p1).length c2380)), (1, (iv 0)), (2, (iv 0)), (3, (iv 0)), (4, (iv 0)), (5, (iv 0)), (6, (iv 0)), (7, (iv 0)), (8, (iv 0)), (9, (iv 0)), (10, (iv 0)), (11, (iv 0)), (12, (iv 0)), (13, (iv 0)), (14, (iv 0)), (15, (iv 0)), (16, (iv 0)), (17, (iv 0)), (18, (iv 0))] #[(.slice A2379 (([] : List Int) ++ p1).length c2380), (iv 0), (iv 0), (iv 0), (iv 0), (iv 0), (iv 0), (iv 0), (iv 0), (iv 0), (iv 0), (iv 0), (iv 0), (iv 0), (iv 0), (iv 0), (iv 0), (iv 0), (iv 0)] (fun fb => by kernel_rfl) (by kernel_rfl) (by kernel_rfl) [1, 2] (by decide) (by decide) (fun w2387 hS2388 => ?_)
 refine ⟨trivial, ?_⟩
 refine WL.done rfl ?_
 refine WX.next ?_
 refine WC.seq ?_
 refine WC.seq ?_
 refine WC.region ?_
 refine seg 3 [] [0, 1, 4, 5, 11, 12, 13] [(0, (.slice A_p0 p0.length c_p0)), (1, (.slice A_p1 p1.length c_p1)), (4, (pt g2373)), (5, (pt g2383)), (11, (.slice A_p1 p1.length c_p1)), (12, (iv (p1.length : Int))), (13, (iv 0))] [] (fun fb => by kernel_rfl) rfl trivial ?_
 refine WL.done rfl ?_
 refine WX.next ?_
 obtain ⟨x2467, hx2468, hf⟩ := bind_some hf
 refine WC.cutN (T := A8_Int × A8_Int) (fun t => [(0, (.slice A_p0 p0.length c_p0)), (1, (.slice A_p1 p1.length c_p1)), (4, (pt g2373)), (5, (pt g2383))]) (fun t w1 => St NoS w w1 [rowR enc_Tile A_p0 c_p0 p0, rowR encInt A_p1 c_p1 p1] [blk g2373 (.cells #[(.slice none 0 0), (iv 0), (iv 0), (iv 0), (iv 0), (iv 0), (iv 0), (iv 0), (iv 0), (iv 0), (iv 0), (iv 0), (iv 0), (iv 0), (iv 0), (iv 0), (iv 0), (iv 0), (iv 0)] 85 (0, 0)), blk g2383 (.cells #[(.slice A2379 (([] : List Int) ++ p1).length c2380), (iv t.1.e0), (iv t.1.e1), (iv t.1.e2), (iv t.1.e3), (iv t.1.e4), (iv t.1.e5), (iv t.1.e6), (iv t.1.e7), (iv t.2.e0), (iv t.2.e1), (iv t.2.e2), (iv t.2.e3), (iv t.2.e4), (iv t.2.e5), (iv t.2.e6), (iv t.2.e7), (iv 0), (iv 0)] 85 (0, 0)), rowO 3 encInt A2379 c2380 (([] : List Int) ++ p1)] ∧ x2467 = t) (fun Kx2467 => ?_) ?_
 ·
  refine WC.block ?_
  refine WC.loop (T := A8_Int × A8_Int × Int) (fun t => [(0, (.slice A_p0 p0.length c_p0)), (1, (.slice A_p1 p1.length c_p1)), (4, (pt g2373)), (5, (pt g2383)), (11, (.slice A_p1 p1.length c_p1)), (12, (iv (p1.length : Int))), (13, (iv t.2.2))]) (fun n t w1 => St NoS w w1 [rowR enc_Tile A_p0 c_p0 p0, rowR encInt A_p1 c_p1 p1] [blk g2373 (.cells #[(.slice none 0 0), (iv 0), (iv 0), (iv 0), (iv 0), (iv 0), (iv 0), (iv 0), (iv 0), (iv 0), (iv 0), (iv 0), (iv 0), (iv 0), (iv 0), (iv 0), (iv 0), (iv 0), (iv 0)] 85 (0, 0)), blk g2383 (.cells #[(.slice A2379 (([] : List Int) ++ p1).length c2380), (iv t.1.e0), (iv t.1.e1), (iv t.1.e2), (iv t.1.e3), (iv t.1.e4), (iv t.1.e5), (iv t.1.e6), (iv t.1.e7), (iv t.2.1.e0), (iv t.2.1.e1), (iv t.2.1.e2), (iv t.2.1.e3), (iv t.2.1.e4), (iv t.2.1.e5), (iv t.2.1.e6), (iv t.2.1.e7), (iv 0), (iv 0)] 85 (0, 0)), rowO 3 encInt A2379 c2380 (([] : List Int) ++ p1)] ∧ rows_rowOf.l0 n t.1 t.2.1 t.2.2 p0 p1 = some x2467) k ((A8_Int.mk 0 0 0 0 0 0 0 0), (A8_Int.mk 0 0 0 0 0 0 0 0), 0) [0, 1, 4, 5, 11, 12, 13] rfl ⟨(hS2388.subR [0, 1]).sub [2, 0, 1] (by decide), hx2468⟩ ?_
  rintro k2469 ⟨a2462, a2463, x2464⟩ w2470 ⟨hS2471, hl2472⟩
  cases k2469 with
  | zero => rw [rows_rowOf.l0] at hl2472; cases hl2472
  | succ k2469 =>
   rw [rows_rowOf.l0] at hl2472
   refine WC.seq ?_
   refine WC.region ?_
   refine seg 1 [] [0, 1, 4, 5, 11, 12, 13, 14] [(0, (.slice A_p0 p0.length c_p0)), (1, (.slice A_p1 p1.length c_p1)), (4, (pt g2373)), (5, (pt g2383)), (11, (.slice A_p1 p1.length c_p1)), (12, (iv (p1.length : Int))), (13, (iv x2464)), (14, (.bool (decide (x2464 < (p1.length : Int)))))] [] (fun fb => by kernel_rfl) rfl trivial ?_
   refine WL.done rfl ?_
   refine WX.next ?_
   refine WC.seq ?_
   rcases br_some hl2472 with ⟨h2473, hl2472⟩ | ⟨h2473, hl2472⟩
   ·refine WC.condT2 (fun fb => by kernel_rfl) h2473 ?_
    refine WC.skip ?_
    refine WX.next ?_
    refine WC.seq ?_
    refine WC.block ?_
    refine WC.seq ?_
    refine WC.region ?_
    refine seg 1 [] [0, 1, 4, 5, 11, 12, 13, 15] [(0, (.slice A_p0 p0.length c_p0)), (1, (.slice A_p1 p1.length c_p1)), (4, (pt g2373)), (5, (pt g2383)), (11, (.slice A_p1 p1.length c_p1)), (12, (iv (p1.length : Int))), (13, (iv x2464)), (15, (iv x2464))] [] (fun fb => by kernel_rfl) rfl trivial ?_
    obtain ⟨h2474, hl2472⟩ := as_some hl2472
    refine seg 5 [.v (iv (rdD p1 x2464 0))] [0, 1, 4, 5, 6, 7, 11, 12, 13] [(0, (.slice A_p0 p0.length c_p0)), (1, (.slice A_p1 p1.length c_p1)), (4, (pt g2373)), (5, (pt g2383)), (6, (iv x2464)), (7, (iv (rdD p1 x2464 0))), (11, (.slice A_p1 p1.length c_p1)), (12, (iv (p1.length : Int))), (13, (iv x2464))] [.idx A_p1 x2464 p1.length, .cell ((adr A_p1).add ((x2464).toNat * 1)) (iv (rdD p1 x2464 0))] (fun fb => by kernel_rfl) rfl ⟨rowR.adr (hS2471.rd 1).1 h2474.1 h2474.2, rowR.cell (hS2471.rd 1).1 0 h2474.1 h2474.2 0 rfl, trivial⟩ ?_
    refine WL.done rfl ?_
    refine WX.next ?_
    obtain ⟨h2489, hl2472⟩ := as_some hl2472
    obtain ⟨h2490, hl2472⟩ := as_some hl2472
    refine WC.regionD ([(6, (((adr A_p0).add (((rdD p1 x2464 0)).toNat * 4)).add 2), (iv ((rdD p0 (rdD p1 x2464 0) z_Tile).S))), (11, ((adr A_p0).add (((rdD p1 x2464 0)).toNat * 4)), (iv ((rdD p0 (rdD p1 x2464 0) z_Tile).N)))], [0, 1, 2, 3, 4, 5, 6, 7, 8, 9, 10, 11, 12, 13, 15, 16], [[], [], [], [], [2, 3], [2, 3, 4], [2, 3, 4, 5], [], [], [7, 8], [7, 8, 9], [7, 8, 9, 10], [], [0, 2, 3, 4, 5, 6, 12], [0, 2, 3, 4, 5, 6, 12, 13], [], [0, 1, 2, 3, 4, 5, 6, 7, 8, 9, 10, 11, 12, 13, 14, 15], [0, 1, 2, 3, 4, 5, 6, 7, 8, 9, 10, 11, 12, 13, 14, 15, 16]]) [[0, 1, 2, 3, 4, 5, 6, 7, 8, 9, 10, 11, 12, 13, 15, 14, 16, 17]] (by kernel_rfl) (by kernel_rfl) (NoPanic.block (NoPanic.seq (NoPanic.seq (NoPanic.block (NoPanic.seq (NoPanic.body)))))) ?_
    have hS2486 := hS2471.drew
    revert hS2486
    generalize World.drew w2470 = w2485
    intro hS2486
    refine ⟨⟨rowR.cell (hS2486.rd 0).1 z_Tile h2489.1 h2489.2 2 rfl, rowR.cell (hS2486.rd 0).1 z_Tile h2489.1 h2489.2 0 rfl, trivial⟩, forallC ?_ (forallN)⟩
    refine segF 15 [.v (iv ((rdD p0 (rdD p1 x2464 0) z_Tile).S)), .v (iv ((rdD p0 (rdD p1 x2464 0) z_Tile).N))] [0, 1, 4, 5, 11, 12, 13, 19, 24, 29, 31, 32] [(0, (.slice A_p0 p0.length c_p0)), (1, (.slice A_p1 p1.length c_p1)), (4, (pt g2373)), (5, (pt g2383)), (11, (.slice A_p1 p1.length c_p1)), (12, (iv (p1.length : Int))), (13, (iv x2464)), (19, (iv x2464)), (24, (iv ((rdD p0 (rdD p1 x2464 0) z_Tile).S))), (29, (iv ((rdD p0 (rdD p1 x2464 0) z_Tile).N))), (31, (.pointer (some (flatA ⟨g2383, 1, none⟩ (x2464.toNat * 1))))), (32, (.pointer (some ⟨g2383, 9, none⟩)))] [.idx A_p0 (rdD p1 x2464 0) p0.length, .idx A_p0 (rdD p1 x2464 0) p0.length, .idx (some ⟨0, 0, none⟩) x2464 8] [0, 1] [(6, (((adr A_p0).add (((rdD p1 x2464 0)).toNat * 4)).add 2), (iv ((rdD p0 (rdD p1 x2464 0) z_Tile).S))), (11, ((adr A_p0).add (((rdD p1 x2464 0)).toNat * 4)), (iv ((rdD p0 (rdD p1 x2464 0) z_Tile).N)))] (fun fb => by kernel_rfl) rfl ⟨rowR.adr (hS2486.rd 0).1 h2489.1 h2489.2, rowR.adr (hS2486.rd 0).1 h2489.1 h2489.2, ⟨h2490.1, h2490.2, rfl⟩, trivial⟩ rfl ?_
    have h2493 := (cases8 (Q := fun z_ => (([(1 + z_.toNat * 1, (iv ((rdD p0 (rdD p1 x2464 0) z_Tile).S)))] : List (Nat × Value)).all fun p_ => Nat.blt p_.1 (#[(.slice A2379 (([] : List Int) ++ p1).length c2380), (iv a2462.e0), (iv a2462.e1), (iv a2462.e2), (iv a2462.e3), (iv a2462.e4), (iv a2462.e5), (iv a2462.e6), (iv a2462.e7), (iv a2463.e0), (iv a2463.e1), (iv a2463.e2), (iv a2463.e3), (iv a2463.e4), (iv a2463.e5), (iv a2463.e6), (iv a2463.e7), (iv 0), (iv 0)] : Array Value).size) = true) h2490 (by kernel_rfl) (by kernel_rfl) (by kernel_rfl) (by kernel_rfl) (by kernel_rfl) (by kernel_rfl) (by kernel_rfl) (by kernel_rfl))
    have h2494 := (cases8 (Q := fun z_ => wrc (#[(.slice A2379 (([] : List Int) ++ p1).length c2380), (iv a2462.e0), (iv a2462.e1), (iv a2462.e2), (iv a2462.e3), (iv a2462.e4), (iv a2462.e5), (iv a2462.e6), (iv a2462.e7), (iv a2463.e0), (iv a2463.e1), (iv a2463.e2), (iv a2463.e3), (iv a2463.e4), (iv a2463.e5), (iv a2463.e6), (iv a2463.e7), (iv 0), (iv 0)] : Array Value) [(1 + z_.toNat * 1, (iv ((rdD p0 (rdD p1 x2464 0) z_Tile).S)))] = (#[(.slice A2379 (([] : List Int) ++ p1).length c2380), (iv ((A8_Int.set a2462 z_ ((rdD p0 (rdD p1 x2464 0) z_Tile).S)).e0)), (iv ((A8_Int.set a2462 z_ ((rdD p0 (rdD p1 x2464 0) z_Tile).S)).e1)), (iv ((A8_Int.set a2462 z_ ((rdD p0 (rdD p1 x2464 0) z_Tile).S)).e2)), (iv ((A8_Int.set a2462 z_ ((rdD p0 (rdD p1 x2464 0) z_Tile).S)).e3)), (iv ((A8_Int.set a2462 z_ ((rdD p0 (rdD p1 x2464 0) z_Tile).S)).e4)), (iv ((A8_Int.set a2462 z_ ((rdD p0 (rdD p1 x2464 0) z_Tile).S)).e5)), (iv ((A8_Int.set a2462 z_ ((rdD p0 (rdD p1 x2464 0) z_Tile).S)).e6)), (iv ((A8_Int.set a2462 z_ ((rdD p0 (rdD p1 x2464 0) z_Tile).S)).e7)), (iv a2463.e0), (iv a2463.e1), (iv a2463.e2), (iv a2463.e3), (iv a2463.e4), (iv a2463.e5), (iv a2463.e6), (iv a2463.e7), (iv 0), (iv 0)] : Array Value)) h2490 (by kernel_rfl) (by kernel_rfl) (by kernel_rfl) (by kernel_rfl) (by kernel_rfl) (by kernel_rfl) (by kernel_rfl) (by kernel_rfl))
    refine WL.store hS2486 1 rfl [(1 + x2464.toNat * 1, (iv ((rdD p0 (rdD p1 x2464 0) z_Tile).S)))] #[(.slice A2379 (([] : List Int) ++ p1).length c2380), (iv ((A8_Int.set a2462 x2464 ((rdD p0 (rdD p1 x2464 0) z_Tile).S)).e0)), (iv ((A8_Int.set a2462 x2464 ((rdD p0 (rdD p1 x2464 0) z_Tile).S)).e1)), (iv ((A8_Int.set a2462 x2464 ((rdD p0 (rdD p1 x2464 0) z_Tile).S)).e2)), (iv ((A8_Int.set a2462 x2464 ((rdD p0 (rdD p1 x2464 0) z_Tile).S)).e3)), (iv ((A8_Int.set a2462 x2464 ((rdD p0 (rdD p1 x2464 0) z_Tile).S)).e4)), (iv ((A8_Int.set a2462 x2464 ((rdD p0 (rdD p1 x2464 0) z_Tile).S)).e5)), (iv ((A8_Int.set a2462 x2464 ((rdD p0 (rdD p1 x2464 0) z_Tile).S)).e6)), (iv ((A8_Int.set a2462 x2464 ((rdD p0 (rdD p1 x2464 0) z_Tile).S)).e7)), (iv a2463.e0), (iv a2463.e1), (iv a2463.e2), (iv a2463.e3), (iv a2463.e4), (iv a2463.e5), (iv a2463.e6), (iv a2463.e7), (iv 0), (iv 0)] (fun fb => by kernel_rfl) h2493 h2494 [0, 2] (by decide) (by decide) (fun w2491 hS2492 => ?_)
    refine ⟨⟨rowR.cell (hS2492.rd 0).1 z_Tile h2489.1 h2489.2 0 rfl, trivial⟩, ?_⟩
    refine seg 17 [] [0, 1, 4, 5, 11, 12, 13, 29, 33] [(0, (.slice A_p0 p0.length c_p0)), (1, (.slice A_p1 p1.length c_p1)), (4, (pt g2373)), (5, (pt g2383)), (11, (.slice A_p1 p1.length c_p1)), (12, (iv (p1.length : Int))), (13, (iv x2464)), (29, (iv ((rdD p0 (rdD p1 x2464 0) z_Tile).N))), (33, (.pointer (some (flatA ⟨g2383, 9, none⟩ (x2464.toNat * 1)))))] [.idx (some ⟨0, 0, none⟩) x2464 8] (fun fb => by kernel_rfl) rfl ⟨⟨h2490.1, h2490.2, rfl⟩, trivial⟩ ?_
    have h2497 := (cases8 (Q := fun z_ => (([(9 + z_.toNat * 1, (iv ((rdD p0 (rdD p1 x2464 0) z_Tile).N)))] : List (Nat × Value)).all fun p_ => Nat.blt p_.1 (#[(.slice A2379 (([] : List Int) ++ p1).length c2380), (iv ((A8_Int.set a2462 x2464 ((rdD p0 (rdD p1 x2464 0) z_Tile).S)).e0)), (iv ((A8_Int.set a2462 x2464 ((rdD p0 (rdD p1 x2464 0) z_Tile).S)).e1)), (iv ((A8_Int.set a2462 x2464 ((rdD p0 (rdD p1 x2464 0) z_Tile).S)).e2)), (iv ((A8_Int.set a2462 x2464 ((rdD p0 (rdD p1 x2464 0) z_Tile).S)).e3)), (iv ((A8_Int.set a2462 x2464 ((rdD p0 (rdD p1 x2464 0) z_Tile).S)).e4)), (iv ((A8_Int.set a2462 x2464 ((rdD p0 (rdD p1 x2464 0) z_Tile).S)).e5)), (iv ((A8_Int.set a2462 x2464 ((rdD p0 (rdD p1 x2464 0) z_Tile).S)).e6)), (iv ((A8_Int.set a2462 x2464 ((rdD p0 (rdD p1 x2464 0) z_Tile).S)).e7)), (iv a2463.e0), (iv a2463.e1), (iv a2463.e2), (iv a2463.e3), (iv a2463.e4), (iv a2463.e5), (iv a2463.e6), (iv a2463.e7), (iv 0), (iv 0)] : Array Value).size) = true) h2490 (by kernel_rfl) (by kernel_rfl) (by kernel_rfl) (by kernel_rfl) (by kernel_rfl) (by kernel_rfl) (by kernel_rfl) (by kernel_rfl))
    have h2498 := (cases8 (Q := fun z_ => wrc (#[(.slice A2379 (([] : List Int) ++ p1).length c2380), (iv ((A8_Int.set a2462 x2464 ((rdD p0 (rdD p1 x2464 0) z_Tile).S)).e0)), (iv ((A8_Int.set a2462 x2464 ((rdD p0 (rdD p1 x2464 0) z_Tile).S)).e1)), (iv ((A8_Int.set a2462 x2464 ((rdD p0 (rdD p1 x2464 0) z_Tile).S)).e2)), (iv ((A8_Int.set a2462 x2464 ((rdD p0 (rdD p1 x2464 0) z_Tile).S)).e3)), (iv ((A8_Int.set a2462 x2464 ((rdD p0 (rdD p1 x2464 0) z_Tile).S)).e4)), (iv ((A8_Int.set a2462 x2464 ((rdD p0 (rdD p1 x2464 0) z_Tile).S)).e5)), (iv ((A8_Int.set a2462 x2464 ((rdD p0 (rdD p1 x2464 0) z_Tile).S)).e6)), (iv ((A8_Int.set a2462 x2464 ((rdD p0 (rdD p1 x2464 0) z_Tile).S)).e7)), (iv a2463.e0), (iv a2463.e1), (iv a2463.e2), (iv a2463.e3), (iv a2463.e4), (iv a2463.e5), (iv a2463.e6), (iv a2463.e7), (iv 0), (iv 0)] : Array Value) [(9 + z_.toNat * 1, (iv ((rdD p0 (rdD p1 x2464 0) z_Tile).N)))] = (#[(.slice A2379 (([] : List Int) ++ p1).length c2380), (iv ((A8_Int.set a2462 x2464 ((rdD p0 (rdD p1 x2464 0) z_Tile).S)).e0)), (iv ((A8_Int.set a2462 x2464 ((rdD p0 (rdD p1 x2464 0) z_Tile).S)).e1)), (iv ((A8_Int.set a2462 x2464 ((rdD p0 (rdD p1 x2464 0) z_Tile).S)).e2)), (iv ((A8_Int.set a2462 x2464 ((rdD p0 (rdD p1 x2464 0) z_Tile).S)).e3)), (iv ((A8_Int.set a2462 x2464 ((rdD p0 (rdD p1 x2464 0) z_Tile).S)).e4)), (iv ((A8_Int.set a2462 x2464 ((rdD p0 (rdD p1 x2464 0) z_Tile).S)).e5)), (iv ((A8_Int.set a2462 x2464 ((rdD p0 (rdD p1 x2464 0) z_Tile).S)).e6)), (iv ((A8_Int.set a2462 x2464 ((rdD p0 (rdD p1 x2464 0) z_Tile).S)).e7)), (iv ((A8_Int.set a2463 z_ ((rdD p0 (rdD p1 x2464 0) z_Tile).N)).e0)), (iv ((A8_Int.set a2463 z_ ((rdD p0 (rdD p1 x2464 0) z_Tile).N)).e1)), (iv ((A8_Int.set a2463 z_ ((rdD p0 (rdD p1 x2464 0) z_Tile).N)).e2)), (iv ((A8_Int.set a2463 z_ ((rdD p0 (rdD p1 x2464 0) z_Tile).N)).e3)), (iv ((A8_Int.set a2463 z_ ((rdD p0 (rdD p1 x2464 0) z_Tile).N)).e4)), (iv ((A8_Int.set a2463 z_ ((rdD p0 (rdD p1 x2464 0) z_Tile).N)).e5)), (iv ((A8_Int.set a2463 z_ ((rdD p0 (rdD p1 x2464 0) z_Tile).N)).e6)), (iv ((A8_Int.set a2463 z_ ((rdD p0 (rdD p1 x2464 0) z_Tile).N)).e7)), (iv 0), (iv 0)] : Array Value)) h2490 (by kernel_rfl) (by kernel_rfl) (by kernel_rfl) (by kernel_rfl) (by kernel_rfl) (by kernel_rfl) (by kernel_rfl) (by kernel_rfl))
    refine WL.store hS2492 0 rfl [(9 + x2464.toNat * 1, (iv ((rdD p0 (rdD p1 x2464 0) z_Tile).N)))] #[(.slice A2379 (([] : List Int) ++ p1).length c2380), (iv ((A8_Int.set a2462 x2464 ((rdD p0 (rdD p1 x2464 0) z_Tile).S)).e0)), (iv ((A8_Int.set a2462 x2464 ((rdD p0 (rdD p1 x2464 0) z_Tile).S)).e1)), (iv ((A8_Int.set a2462 x2464 ((rdD p0 (rdD p1 x2464 0) z_Tile).S)).e2)), (iv ((A8_Int.set a2462 x2464 ((rdD p0 (rdD p1 x2464 0) z_Tile).S)).e3)), (iv ((A8_Int.set a2462 x2464 ((rdD p0 (rdD p1 x2464 0) z_Tile).S)).e4)), (iv ((A8_Int.set a2462 x2464 ((rdD p0 (rdD p1 x2464 0) z_Tile).S)).e5)), (iv ((A8_Int.set a2462 x2464 ((rdD p0 (rdD p1 x2464 0) z_Tile).S)).e6)), (iv ((A8_Int.set a2462 x2464 ((rdD p0 (rdD p1 x2464 0) z_Tile).S)).e7)), (iv ((A8_Int.set a2463 x2464 ((rdD p0 (rdD p1 x2464 0) z_Tile).N)).e0)), (iv ((A8_Int.set a2463 x2464 ((rdD p0 (rdD p1 x2464 0) z_Tile).N)).e1)), (iv ((A8_Int.set a2463 x2464 ((rdD p0 (rdD p1 x2464 0) z_Tile).N)).e2)), (iv ((A8_Int.set a2463 x2464 ((rdD p0 (rdD p1 x2464 0) z_Tile).N)).e3)), (iv ((A8_Int.set a2463 x2464 ((rdD p0 (rdD p1 x2464 0) z_Tile).N)).e4)), (iv ((A8_Int.set a2463 x2464 ((rdD p0 (rdD p1 x2464 0) z_Tile).N)).e5)), (iv ((A8_Int.set a2463 x2464 ((rdD p0 (rdD p1 x2464 0) z_Tile).N)).e6)), (iv ((A8_Int.set a2463 x2464 ((rdD p0 (rdD p1 x2464 0) z_Tile).N)).e7)), (iv 0), (iv 0)] (fun fb => by kernel_rfl) h2497 h2498 [1, 2] (by decide) (by decide) (fun w2495 hS2496 => ?_)
    refine ⟨trivial, ?_⟩
    refine WL.done rfl ?_
    refine WX.blockN (WX.next ?_)
    refine WC.region ?_
    refine seg 2 [] [0, 1, 4, 5, 11, 12, 13] [(0, (.slice A_p0 p0.length c_p0)), (1, (.slice A_p1 p1.length c_p1)), (4, (pt g2373)), (5, (pt g2383)), (11, (.slice A_p1 p1.length c_p1)), (12, (iv (p1.length : Int))), (13, (iv (w64 (x2464 + 1))))] [] (fun fb => by kernel_rfl) rfl trivial ?_
    refine WL.done rfl ?_
    exact WX.again k2469 (Nat.lt_succ_self _) ((A8_Int.set a2462 x2464 ((rdD p0 (rdD p1 x2464 0) z_Tile).S)), (A8_Int.set a2463 x2464 ((rdD p0 (rdD p1 x2464 0) z_Tile).N)), w64 (x2464 + 1)) [0, 1, 4, 5, 11, 12, 13] rfl ⟨(hS2496.subR [0, 1]).sub [1, 0, 2] (by decide), hl2472⟩
   refine WC.condF2 (fun fb => by kernel_rfl) h2473 ?_
   refine WC.exit ?_
   injection hl2472 with hl2472
   exact WX.thenX (WX.thenX (WX.blockHere (WX.to Kx2467 (a2462, a2463) [0, 1, 4, 5] rfl ⟨(hS2471.subR [0, 1]).sub [0, 1, 2] (by decide), hl2472.symm⟩)))
 rintro y2502 w2499 ⟨hS2500, hq2501⟩
 subst hq2501
 refine WX.next ?_
 refine WC.seq ?_
 obtain ⟨h2517, hf⟩ := as_some hf
 obtain ⟨h2518, hf⟩ := as_some hf
 obtain ⟨h2519, hf⟩ := as_some hf
 obtain ⟨h2520, hf⟩ := as_some hf
 refine WC.regionD ([(3, ((adr A_p1).add (((0 : Int)).toNat * 1)), (iv (rdD p1 (0 : Int) 0))), (6, (((adr A_p0).add (((rdD p1 (0 : Int) 0)).toNat * 4)).add 3), (iv ((rdD p0 (rdD p1 (0 : Int) 0) z_Tile).W))), (13, ((adr A_p1).add ((w64 ((p1.length : Int) - 1)).toNat * 1)), (iv (rdD p1 (w64 ((p1.length : Int) - 1)) 0))), (16, (((adr A_p0).add (((rdD p1 (w64 ((p1.length : Int) - 1)) 0)).toNat * 4)).add 1), (iv ((rdD p0 (rdD p1 (w64 ((p1.length : Int) - 1)) 0) z_Tile).E)))], [0, 1, 2, 3, 4, 5, 6, 7, 8, 9, 10, 11, 12, 13, 14, 15, 16, 17, 19], [[], [], [1], [1, 2], [0, 1, 2, 3], [0, 1, 2, 3, 4], [0, 1, 2, 3, 4, 5], [], [], [], [9], [9, 10], [8, 9, 10, 11], [8, 9, 10, 11, 12], [7, 8, 9, 10, 11, 12, 13], [7, 8, 9, 10, 11, 12, 13, 14], [7, 8, 9, 10, 11, 12, 13, 14, 15], [0, 1, 2, 3, 4, 5, 6], [0, 1, 2, 3, 4, 5, 6, 17], [0, 1, 2, 3, 4, 5, 6, 7, 8, 9, 10, 11, 12, 13, 14, 15, 16, 17, 18], [0, 1, 2, 3, 4, 5, 6, 7, 8, 9, 10, 11, 12, 13, 14, 15, 16, 17, 18, 19]]) [[0, 1, 2, 3, 4, 5, 6, 7, 8, 9, 10, 11, 12, 13, 14, 15, 16, 17, 18, 19, 20]] (by kernel_rfl) (by kernel_rfl) (NoPanic.seq (NoPanic.body)) ?_
 have hS2512 := hS2500.drew
 revert hS2512
 generalize World.drew w2499 = w2511
 intro hS2512
 refine ⟨⟨rowR.cell (hS2512.rd 1).1 0 h2517.1 h2517.2 0 rfl, rowR.cell (hS2512.rd 0).1 z_Tile h2518.1 h2518.2 3 rfl, rowR.cell (hS2512.rd 1).1 0 h2519.1 h2519.2 0 rfl, rowR.cell (hS2512.rd 0).1 z_Tile h2520.1 h2520.2 1 rfl, trivial⟩, forallC ?_ (forallN)⟩
 refine segF 18 [.v (iv (rdD p1 (0 : Int) 0)), .v (iv ((rdD p0 (rdD p1 (0 : Int) 0) z_Tile).W)), .v (iv (rdD p1 (w64 ((p1.length : Int) - 1)) 0)), .v (iv ((rdD p0 (rdD p1 (w64 ((p1.length : Int) - 1)) 0) z_Tile).E))] [4, 5, 41, 51, 52] [(4, (pt g2373)), (5, (pt g2383)), (41, (iv ((rdD p0 (rdD p1 (0 : Int) 0) z_Tile).W))), (51, (iv ((rdD p0 (rdD p1 (w64 ((p1.length : Int) - 1)) 0) z_Tile).E))), (52, (.pointer (some ⟨g2383, 17, none⟩)))] [.idx A_p1 (0 : Int) p1.length, .idx A_p0 (rdD p1 (0 : Int) 0) p0.length, .idx A_p1 (w64 ((p1.length : Int) - 1)) p1.length, .idx A_p0 (rdD p1 (w64 ((p1.length : Int) - 1)) 0) p0.length] [0, 1, 2, 3] [(3, ((adr A_p1).add (((0 : Int)).toNat * 1)), (iv (rdD p1 (0 : Int) 0))), (6, (((adr A_p0).add (((rdD p1 (0 : Int) 0)).toNat * 4)).add 3), (iv ((rdD p0 (rdD p1 (0 : Int) 0) z_Tile).W))), (13, ((adr A_p1).add ((w64 ((p1.length : Int) - 1)).toNat * 1)), (iv (rdD p1 (w64 ((p1.length : Int) - 1)) 0))), (16, (((adr A_p0).add (((rdD p1 (w64 ((p1.length : Int) - 1)) 0)).toNat * 4)).add 1), (iv ((rdD p0 (rdD p1 (w64 ((p1.length : Int) - 1)) 0) z_Tile).E)))] (fun fb => by kernel_rfl) rfl ⟨rowR.adr (hS2512.rd 1).1 h2517.1 h2517.2, rowR.adr (hS2512.rd 0).1 h2518.1 h2518.2, rowR.adr (hS2512.rd 1).1 h2519.1 h2519.2, rowR.adr (hS2512.rd 0).1 h2520.1 h2520.2, trivial⟩ rfl ?_
 refine WL.store hS2512 1 rfl [(17, (iv ((rdD p0 (rdD p1 (0 : Int) 0) z_Tile).W)))] #[(.slice A2379 (([] : List Int) ++ p1).length c2380), (iv x2467.1.e0), (iv x2467.1.e1), (iv x2467.1.e2), (iv x2467.1.e3), (iv x2467.1.e4), (iv x2467.1.e5), (iv x2467.1.e6), (iv x2467.1.e7), (iv x2467.2.e0), (iv x2467.2.e1), (iv x2467.2.e2), (iv x2467.2.e3), (iv x2467.2.e4), (iv x2467.2.e5), (iv x2467.2.e6), (iv x2467.2.e7), (iv ((rdD p0 (rdD p1 (0 : Int) 0) z_Tile).W)), (iv 0)] (fun fb => by kernel_rfl) (by kernel_rfl) (by kernel_rfl) [0, 2] (by decide) (by decide) (fun w2521 hS2522 => ?_)
 refine ⟨⟨rowR.cell (hS2522.rd 1).1 0 h2519.1 h2519.2 0 rfl, rowR.cell (hS2522.rd 0).1 z_Tile h2520.1 h2520.2 1 rfl, trivial⟩, ?_⟩
 refine seg 20 [] [4, 5, 51, 53] [(4, (pt g2373)), (5, (pt g2383)), (51, (iv ((rdD p0 (rdD p1 (w64 ((p1.length : Int) - 1)) 0) z_Tile).E))), (53, (.pointer (some ⟨g2383, 18, none⟩)))] [] (fun fb => by kernel_rfl) rfl trivial ?_
 refine WL.store hS2522 0 rfl [(18, (iv ((rdD p0 (rdD p1 (w64 ((p1.length : Int) - 1)) 0) z_Tile).E)))] #[(.slice A2379 (([] : List Int) ++ p1).length c2380), (iv x2467.1.e0), (iv x2467.1.e1), (iv x2467.1.e2), (iv x2467.1.e3), (iv x2467.1.e4), (iv x2467.1.e5), (iv x2467.1.e6), (iv x2467.1.e7), (iv x2467.2.e0), (iv x2467.2.e1), (iv x2467.2.e2), (iv x2467.2.e3), (iv x2467.2.e4), (iv x2467.2.e5), (iv x2467.2.e6), (iv x2467.2.e7), (iv ((rdD p0 (rdD p1 (0 : Int) 0) z_Tile).W)), (iv ((rdD p0 (rdD p1 (w64 ((p1.length : Int) - 1)) 0) z_Tile).E))] (fun fb => by kernel_rfl) (by kernel_rfl) (by kernel_rfl) [1, 2] (by decide) (by decide) (fun w2523 hS2524 => ?_)
 refine ⟨trivial, ?_⟩
 refine WL.done rfl ?_
 refine WX.next ?_
 refine WC.seq ?_
 refine WC.region ?_
 refine seg 1 [.v (.slice A2379 (([] : List Int) ++ p1).length c2380), .v (iv x2467.1.e0), .v (iv x2467.1.e1), .v (iv x2467.1.e2), .v (iv x2467.1.e3), .v (iv x2467.1.e4), .v (iv x2467.1.e5), .v (iv x2467.1.e6), .v (iv x2467.1.e7), .v (iv x2467.2.e0), .v (iv x2467.2.e1), .v (iv x2467.2.e2), .v (iv x2467.2.e3), .v (iv x2467.2.e4), .v (iv x2467.2.e5), .v (iv x2467.2.e6), .v (iv x2467.2.e7), .v (iv ((rdD p0 (rdD p1 (0 : Int) 0) z_Tile).W)), .v (iv ((rdD p0 (rdD p1 (w64 ((p1.length : Int) - 1)) 0) z_Tile).E))] [4, 54] [(4, (pt g2373)), (54, (.agg #[(.slice A2379 (([] : List Int) ++ p1).length c2380), (iv x2467.1.e0), (iv x2467.1.e1), (iv x2467.1.e2), (iv x2467.1.e3), (iv x2467.1.e4), (iv x2467.1.e5), (iv x2467.1.e6), (iv x2467.1.e7), (iv x2467.2.e0), (iv x2467.2.e1), (iv x2467.2.e2), (iv x2467.2.e3), (iv x2467.2.e4), (iv x2467.2.e5), (iv x2467.2.e6), (iv x2467.2.e7), (iv ((rdD p0 (rdD p1 (0 : Int) 0) z_Tile).W)), (iv ((rdD p0 (rdD p1 (w64 ((p1.length : Int) - 1)) 0) z_Tile).E))]))] [.cell ⟨g2383, 0, none⟩ (.slice A2379 (([] : List Int) ++ p1).length c2380), .cell ⟨g2383, 1, none⟩ (iv x2467.1.e0), .cell ⟨g2383, 2, none⟩ (iv x2467.1.e1), .cell ⟨g2383, 3, none⟩ (iv x2467.1.e2), .cell ⟨g2383, 4, none⟩ (iv x2467.1.e3), .cell ⟨g2383, 5, none⟩ (iv x2467.1.e4), .cell ⟨g2383, 6, none⟩ (iv x2467.1.e5), .cell ⟨g2383, 7, none⟩ (iv x2467.1.e6), .cell ⟨g2383, 8, none⟩ (iv x2467.1.e7), .cell ⟨g2383, 9, none⟩ (iv x2467.2.e0), .cell ⟨g2383, 10, none⟩ (iv x2467.2.e1), .cell ⟨g2383, 11, none⟩ (iv x2467.2.e2), .cell ⟨g2383, 12, none⟩ (iv x2467.2.e3), .cell ⟨g2383, 13, none⟩ (iv x2467.2.e4), .cell ⟨g2383, 14, none⟩ (iv x2467.2.e5), .cell ⟨g2383, 15, none⟩ (iv x2467.2.e6), .cell ⟨g2383, 16, none⟩ (iv x2467.2.e7), .cell ⟨g2383, 17, none⟩ (iv ((rdD p0 (rdD p1 (0 : Int) 0) z_Tile).W)), .cell ⟨g2383, 18, none⟩ (iv ((rdD p0 (rdD p1 (w64 ((p1.length : Int) - 1)) 0) z_Tile).E))] (fun fb => by kernel_rfl) rfl ⟨hS2524.cell 0 rfl 0 rfl, hS2524.cell 0 rfl 1 rfl, hS2524.cell 0 rfl 2 rfl, hS2524.cell 0 rfl 3 rfl, hS2524.cell 0 rfl 4 rfl, hS2524.cell 0 rfl 5 rfl, hS2524.cell 0 rfl 6 rfl, hS2524.cell 0 rfl 7 rfl, hS2524.cell 0 rfl 8 rfl, hS2524.cell 0 rfl 9 rfl, hS2524.cell 0 rfl 10 rfl, hS2524.cell 0 rfl 11 rfl, hS2524.cell 0 rfl 12 rfl, hS2524.cell 0 rfl 13 rfl, hS2524.cell 0 rfl 14 rfl, hS2524.cell 0 rfl 15 rfl, hS2524.cell 0 rfl 16 rfl, hS2524.cell 0 rfl 17 rfl, hS2524.cell 0 rfl 18 rfl, trivial⟩ ?_
 refine WL.store hS2524 1 rfl [(0, (.slice A2379 (([] : List Int) ++ p1).length c2380)), (1, (iv x2467.1.e0)), (2, (iv x2467.1.e1)), (3, (iv x2467.1.e2)), (4, (iv x2467.1.e3)), (5, (iv x2467.1.e4)), (6, (iv x2467.1.e5)), (7, (iv x2467.1.e6)), (8, (iv x2467.1.e7)), (9, (iv x2467.2.e0)), (10, (iv x2467.2.e1)), (11, (iv x2467.2.e2)), (12, (iv x2467.2.e3)), (13, (iv x2467.2.e4)), (14, (iv x2467.2.e5)), (15, (iv x2467.2.e6)), (16, (iv x2467.2.e7)), (17, (iv ((rdD p0 (rdD p1 (0 : Int) 0) z_Tile).W))), (18, (iv ((rdD p0 (rdD p1 (w64 ((p1.length : Int) - 1)) 0) z_Tile).E)))] #[(.slice A2379 (([] : List Int) ++ p1).length c2380), (iv x2467.1.e0), (iv x2467.1.e1), (iv x2467.1.e2), (iv x2467.1.e3), (iv x2467.1.e4), (iv x2467.1.e5), (iv x2467.1.e6), (iv x2467.1.e7), (iv x2467.2.e0), (iv x2467.2.e1), (iv x2467.2.e2), (iv x2467.2.e3), (iv x2467.2.e4), (iv x2467.2.e5), (iv x2467.2.e6), (iv x2467.2.e7), (iv ((rdD p0 (rdD p1 (0 : Int) 0) z_Tile).W)), (iv ((rdD p0 (rdD p1 (w64 ((p1.length : Int) - 1)) 0) z_Tile).E))] (fun fb => by kernel_rfl) (by kernel_rfl) (by kernel_rfl) [0, 2] (by decide) (by decide) (fun w2525 hS2526 => ?_)
 refine ⟨trivial, ?_⟩
 refine WL.done rfl ?_
 refine WX.next ?_
 refine WC.ret ?_
 injection hf with hf
 subst hf
 exact WX.ret_ [.v (.slice A2379 (([] : List Int) ++ p1).length c2380), .v (iv x2467.1.e0), .v (iv x2467.1.e1), .v (iv x2467.1.e2), .v (iv x2467.1.e3), .v (iv x2467.1.e4), .v (iv x2467.1.e5), .v (iv x2467.1.e6), .v (iv x2467.1.e7), .v (iv x2467.2.e0), .v (iv x2467.2.e1), .v (iv x2467.2.e2), .v (iv x2467.2.e3), .v (iv x2467.2.e4), .v (iv x2467.2.e5), .v (iv x2467.2.e6), .v (iv x2467.2.e7), .v (iv ((rdD p0 (rdD p1 (0 : Int) 0) z_Tile).W)), .v (iv ((rdD p0 (rdD p1 (w64 ((p1.length : Int) - 1)) 0) z_Tile).E))] (.agg #[(.slice A2379 (([] : List Int) ++ p1).length c2380), (iv x2467.1.e0), (iv x2467.1.e1), (iv x2467.1.e2), (iv x2467.1.e3), (iv x2467.1.e4), (iv x2467.1.e5), (iv x2467.1.e6), (iv x2467.1.e7), (iv x2467.2.e0), (iv x2467.2.e1), (iv x2467.2.e2), (iv x2467.2.e3), (iv x2467.2.e4), (iv x2467.2.e5), (iv x2467.2.e6), (iv x2467.2.e7), (iv ((rdD p0 (rdD p1 (0 : Int) 0) z_Tile).W)), (iv ((rdD p0 (rdD p1 (w64 ((p1.length : Int) - 1)) 0) z_Tile).E))]) [.cell ⟨g2373, 0, none⟩ (.slice A2379 (([] : List Int) ++ p1).length c2380), .cell ⟨g2373, 1, none⟩ (iv x2467.1.e0), .cell ⟨g2373, 2, none⟩ (iv x2467.1.e1), .cell ⟨g2373, 3, none⟩ (iv x2467.1.e2), .cell ⟨g2373, 4, none⟩ (iv x2467.1.e3), .cell ⟨g2373, 5, none⟩ (iv x2467.1.e4), .cell ⟨g2373, 6, none⟩ (iv x2467.1.e5), .cell ⟨g2373, 7, none⟩ (iv x2467.1.e6), .cell ⟨g2373, 8, none⟩ (iv x2467.1.e7), .cell ⟨g2373, 9, none⟩ (iv x2467.2.e0), .cell ⟨g2373, 10, none⟩ (iv x2467.2.e1), .cell ⟨g2373, 11, none⟩ (iv x2467.2.e2), .cell ⟨g2373, 12, none⟩ (iv x2467.2.e3), .cell ⟨g2373, 13, none⟩ (iv x2467.2.e4), .cell ⟨g2373, 14, none⟩ (iv x2467.2.e5), .cell ⟨g2373, 15, none⟩ (iv x2467.2.e6), .cell ⟨g2373, 16, none⟩ (iv x2467.2.e7), .cell ⟨g2373, 17, none⟩ (iv ((rdD p0 (rdD p1 (0 : Int) 0) z_Tile).W)), .cell ⟨g2373, 18, none⟩ (iv ((rdD p0 (rdD p1 (w64 ((p1.length : Int) - 1)) 0) z_Tile).E))] (fun fb => by kernel_rfl) ⟨hS2526.cell 0 rfl 0 rfl, hS2526.cell 0 rfl 1 rfl, hS2526.cell 0 rfl 2 rfl, hS2526.cell 0 rfl 3 rfl, hS2526.cell 0 rfl 4 rfl, hS2526.cell 0 rfl 5 rfl, hS2526.cell 0 rfl 6 rfl, hS2526.cell 0 rfl 7 rfl, hS2526.cell 0 rfl 8 rfl, hS2526.cell 0 rfl 9 rfl, hS2526.cell 0 rfl 10 rfl, hS2526.cell 0 rfl 11 rfl, hS2526.cell 0 rfl 12 rfl, hS2526.cell 0 rfl 13 rfl, hS2526.cell 0 rfl 14 rfl, hS2526.cell 0 rfl 15 rfl, hS2526.cell 0 rfl 16 rfl, hS2526.cell 0 rfl 17 rfl, hS2526.cell 0 rfl 18 rfl, trivial⟩ ⟨_, rfl, A2379, c2380, rfl, (hS2526.sub [2] (by decide)).noR⟩
theorem rows_All_1_calls : ∀ (k : Nat) (p0 : Int) (f0 : Int) (f1 : List Row) (f2 : List Tile) (f3 : List Int) (g_f0 : Nat) (g_f1 : Nat) (A_f1 : Option Addr) (c_f1 : Nat) (H_f1 : Nat → HF) (g_f2 : Nat) (A_f2 : Option Addr) (c_f2 : Nat) (g_f3 : Nat) (A_f3 : Option Addr) (c_f3 : Nat) (g_f4 : Nat) (r : (List Row) × (List Int)) (w : World) (hR0 : RO (fpL [blk g_f1 (.cells #[(.slice A_f1 f1.length c_f1)] 79 (0, 0)), rowO 85 encN_Row A_f1 c_f1 (tag H_f1 f1), poolO [nestO subN_Row H_f1 f1], blk g_f3 (.cells #[(.slice A_f3 f3.length c_f3)] 25 (0, 0)), rowO 3 encInt A_f3 c_f3 f3]) w (blk g_f0 (.cells #[(iv f0)] 3 (0, 0)))) (hR1 : RO (fpL [blk g_f1 (.cells #[(.slice A_f1 f1.length c_f1)] 79 (0, 0)), rowO 85 encN_Row A_f1 c_f1 (tag H_f1 f1), poolO [nestO subN_Row H_f1 f1], blk g_f3 (.cells #[(.slice A_f3 f3.length c_f3)] 25 (0, 0)), rowO 3 encInt A_f3 c_f3 f3]) w (blk g_f2 (.cells #[(.slice A_f2 f2.length c_f2)] 22 (0, 0)))) (hR2 : RO (fpL [blk g_f1 (.cells #[(.slice A_f1 f1.length c_f1)] 79 (0, 0)), rowO 85 encN_Row A_f1 c_f1 (tag H_f1 f1), poolO [nestO subN_Row H_f1 f1], blk g_f3 (.cells #[(.slice A_f3 f3.length c_f3)] 25 (0, 0)), rowO 3 encInt A_f3 c_f3 f3]) w (rowR enc_Tile A_f2 c_f2 f2)) (hR3 : RO (fpL [blk g_f1 (.cells #[(.slice A_f1 f1.length c_f1)] 79 (0, 0)), rowO 85 encN_Row A_f1 c_f1 (tag H_f1 f1), poolO [nestO subN_Row H_f1 f1], blk g_f3 (.cells #[(.slice A_f3 f3.length c_f3)] 25 (0, 0)), rowO 3 encInt A_f3 c_f3 f3]) w (blk g_f4 (.cells #[(.func (.func 97) #[] #[(.pointer (some ⟨g_f0, 0, none⟩)), (.pointer (some ⟨g_f1, 0, none⟩)), (.pointer (some ⟨g_f2, 0, none⟩)), (.pointer (some ⟨g_f3, 0, none⟩)), (.pointer (some ⟨g_f4, 0, none⟩))])] 129 (0, 0)))) (hI : IoOK w [blk g_f1 (.cells #[(.slice A_f1 f1.length c_f1)] 79 (0, 0)), rowO 85 encN_Row A_f1 c_f1 (tag H_f1 f1), poolO [nestO subN_Row H_f1 f1], blk g_f3 (.cells #[(.slice A_f3 f3.length c_f3)] 25 (0, 0)), rowO 3 encInt A_f3 c_f3 f3]) (hf : rows_All_1 k p0 f0 f1 f2 f3 = some r),
  CallsR Tryd.prog 97 #[(iv p0), (.pointer (some ⟨g_f0, 0, none⟩)), (.pointer (some ⟨g_f1, 0, none⟩)), (.pointer (some ⟨g_f2, 0, none⟩)), (.pointer (some ⟨g_f3, 0, none⟩)), (.pointer (some ⟨g_f4, 0, none⟩))] w (fun v w' => ∃ (A1_ : Option Addr), ∃ (c1_ : Nat), ∃ (h1_ : Nat → HF), ∃ (A2_ : Option Addr), ∃ (c2_ : Nat), v = (.tuple #[]) ∧ St (fpL [blk g_f1 (.cells #[(.slice A_f1 f1.length c_f1)] 79 (0, 0)), rowO 85 encN_Row A_f1 c_f1 (tag H_f1 f1), poolO [nestO subN_Row H_f1 f1], blk g_f3 (.cells #[(.slice A_f3 f3.length c_f3)] 25 (0, 0)), rowO 3 encInt A_f3 c_f3 f3]) w w' [] [blk g_f1 (.cells #[(.slice A1_ r.1.length c1_)] 79 (0, 0)), rowO 85 encN_Row A1_ c1_ (tag h1_ r.1), poolO [nestO subN_Row h1_ r.1], blk g_f3 (.cells #[(.slice A2_ r.2.length c2_)] 25 (0, 0)), rowO 3 encInt A2_ c2_ r.2]) := by
 intro k
 induction k with
 | zero => intro p0 f0 f1 f2 f3 g_f0 g_f1 A_f1 c_f1 H_f1 g_f2 A_f2 c_f2 g_f3 A_f3 c_f3 g_f4 r w hR0 hR1 hR2 hR3 hI hf; rw [rows_All_1] at hf; cases hf
 | succ k ih_ =>
 intro p0 f0 f1 f2 f3 g_f0 g_f1 A_f1 c_f1 H_f1 g_f2 A_f2 c_f2 g_f3 A_f3 c_f3 g_f4 r w hR0 hR1 hR2 hR3 hI hf
 have hS : St (fpL [blk g_f1 (.cells #[(.slice A_f1 f1.length c_f1)] 79 (0, 0)), rowO 85 encN_Row A_f1 c_f1 (tag H_f1 f1), poolO [nestO subN_Row H_f1 f1], blk g_f3 (.cells #[(.slice A_f3 f3.length c_f3)] 25 (0, 0)), rowO 3 encInt A_f3 c_f3 f3]) w w [blk g_f0 (.cells #[(iv f0)] 3 (0, 0)), blk g_f2 (.cells #[(.slice A_f2 f2.length c_f2)] 22 (0, 0)), rowR enc_Tile A_f2 c_f2 f2, blk g_f4 (.cells #[(.func (.func 97) #[] #[(.pointer (some ⟨g_f0, 0, none⟩)), (.pointer (some ⟨g_f1, 0, none⟩)), (.pointer (some ⟨g_f2, 0, none⟩)), (.pointer (some ⟨g_f3, 0, none⟩)), (.pointer (some ⟨g_f4, 0, none⟩))])] 129 (0, 0))] [blk g_f1 (.cells #[(.slice A_f1 f1.length c_f1)] 79 (0, 0)), rowO 85 encN_Row A_f1 c_f1 (tag H_f1 f1), poolO [nestO subN_Row H_f1 f1], blk g_f3 (.cells #[(.slice A_f3 f3.length c_f3)] 25 (0, 0)), rowO 3 encInt A_f3 c_f3 f3] := St.initIO (ro_cons hR0 (ro_cons hR1 (ro_cons hR2 (ro_cons hR3 (ro_nil _ _))))) hI
 rw [rows_All_1] at hf
 generalize rows_All_1 k = rc_ at hf ih_
 refine enter 50 Tryd.func97 rfl Tryd.ntmps97 rfl ?_
 refine WC.seq ?_
 refine WC.seq ?_
 refine WC.region ?_
 refine seg 3 [.v (iv f0)] [0, 2, 3, 4, 5, 11] [(0, (iv p0)), (2, (.pointer (some ⟨g_f1, 0, none⟩))), (3, (.pointer (some ⟨g_f2, 0, none⟩))), (4, (.pointer (some ⟨g_f3, 0, none⟩))), (5, (.pointer (some ⟨g_f4, 0, none⟩))), (11, (.bool (p0 == f0)))] [.cell ⟨g_f0, 0, none⟩ (iv f0)] (fun fb => by kernel_rfl) rfl ⟨blk_cell (hS.rd 0).1 0 rfl, trivial⟩ ?_
 refine WL.done rfl ?_
 refine WX.next ?_
 rcases br_some hf with ⟨h2706, hf⟩ | ⟨h2706, hf⟩
 ·refine WC.condT2 (fun fb => by kernel_rfl) h2706 ?_
  refine WC.seq ?_
  refine WC.regionD ([(0, ⟨g_f1, 0, none⟩, (.slice A_f1 f1.length c_f1)), (1, ⟨g_f2, 0, none⟩, (.slice A_f2 f2.length c_f2)), (2, ⟨g_f3, 0, none⟩, (.slice A_f3 f3.length c_f3))], [0, 1, 2], [[], [], [], [1, 2], [1, 2, 3], [0, 1, 2, 3, 4], [0, 1, 2, 3, 4, 5]]) [[0, 1, 2, 3, 4, 5, 6]] (by kernel_rfl) (by kernel_rfl) (NoPanic.seq (NoPanic.seq (NoPanic.body))) ?_
  have hS2728 := hS.drew
  revert hS2728
  generalize World.drew w = w2727
  intro hS2728
  refine ⟨⟨hS2728.cell 0 rfl 0 rfl, blk_cell (hS2728.rd 1).1 0 rfl, hS2728.cell 3 rfl 0 rfl, trivial⟩, forallC ?_ (forallN)⟩
  refine segF 3 [.v (.slice A_f1 f1.length c_f1), .v (.slice A_f2 f2.length c_f2), .v (.slice A_f3 f3.length c_f3)] [2, 4, 12, 13, 14] [(2, (.pointer (some ⟨g_f1, 0, none⟩))), (4, (.pointer (some ⟨g_f3, 0, none⟩))), (12, (.slice A_f1 f1.length c_f1)), (13, (.slice A_f2 f2.length c_f2)), (14, (.slice A_f3 f3.length c_f3))] [] [0, 1, 2] [(0, ⟨g_f1, 0, none⟩, (.slice A_f1 f1.length c_f1)), (1, ⟨g_f2, 0, none⟩, (.slice A_f2 f2.length c_f2)), (2, ⟨g_f3, 0, none⟩, (.slice A_f3 f3.length c_f3))] (fun fb => by kernel_rfl) rfl trivial rfl ?_
  obtain ⟨t2729, ht2730, hf⟩ := bind_some hf
  refine WL.call (some 15) 98 #[(.slice A_f2 f2.length c_f2), (.slice A_f3 f3.length c_f3)] (fun fb => by kernel_rfl) (rows_rowOf_calls _ f2 f3 A_f2 c_f2 A_f3 c_f3 t2729 _ (hS2728.rd 2) (hS2728.ow 4).ofO ht2730) (fun v w2731 hR2732 => ?_)
  obtain ⟨A2734, c2735, rfl, hk_⟩ := hR2732
  have hS2733 : St (fpL [blk g_f1 (.cells #[(.slice A_f1 f1.length c_f1)] 79 (0, 0)), rowO 85 encN_Row A_f1 c_f1 (tag H_f1 f1), poolO [nestO subN_Row H_f1 f1], blk g_f3 (.cells #[(.slice A_f3 f3.length c_f3)] 25 (0, 0)), rowO 3 encInt A_f3 c_f3 f3]) w w2731 [blk g_f0 (.cells #[(iv f0)] 3 (0, 0)), blk g_f2 (.cells #[(.slice A_f2 f2.length c_f2)] 22 (0, 0)), rowR enc_Tile A_f2 c_f2 f2, blk g_f4 (.cells #[(.func (.func 97) #[] #[(.pointer (some ⟨g_f0, 0, none⟩)), (.pointer (some ⟨g_f1, 0, none⟩)), (.pointer (some ⟨g_f2, 0, none⟩)), (.pointer (some ⟨g_f3, 0, none⟩)), (.pointer (some ⟨g_f4, 0, none⟩))])] 129 (0, 0))] [rowO 3 encInt A2734 c2735 t2729.Cells, blk g_f1 (.cells #[(.slice A_f1 f1.length c_f1)] 79 (0, 0)), rowO 85 encN_Row A_f1 c_f1 (tag H_f1 f1), poolO [nestO subN_Row H_f1 f1], blk g_f3 (.cells #[(.slice A_f3 f3.length c_f3)] 25 (0, 0)), rowO 3 encInt A_f3 c_f3 f3] := hS2728.call hk_ [] [0, 1, 2, 3, 4] (fun g hg => hg.elim) (by simp) (by decide)
  refine ⟨⟨hS2733.cell 1 rfl 0 rfl, trivial⟩, ?_⟩
  refine WL.new hS2733 16 [] (fun g => (.slice (some ⟨g, 0, none⟩) 1 1)) (.cells #[(.slice A2734 t2729.Cells.length c2735), (iv t2729.South.e0), (iv t2729.South.e1), (iv t2729.South.e2), (iv t2729.South.e3), (iv t2729.South.e4), (iv t2729.South.e5), (iv t2729.South.e6), (iv t2729.South.e7), (iv t2729.North.e0), (iv t2729.North.e1), (iv t2729.North.e2), (iv t2729.North.e3), (iv t2729.North.e4), (iv t2729.North.e5), (iv t2729.North.e6), (iv t2729.North.e7), (iv t2729.West), (iv t2729.East)] 85 (0, 0)) [] (fun fb g => by kernel_rfl) trivial (fun g2736 w2737 hS2738 => ?_)
  refine ⟨⟨hS2738.cell 2 rfl 0 rfl, trivial⟩, ?_⟩
  have hS2740 : St (fpL [blk g_f1 (.cells #[(.slice A_f1 f1.length c_f1)] 79 (0, 0)), rowO 85 encN_Row A_f1 c_f1 (tag H_f1 f1), poolO [nestO subN_Row H_f1 f1], blk g_f3 (.cells #[(.slice A_f3 f3.length c_f3)] 25 (0, 0)), rowO 3 encInt A_f3 c_f3 f3]) w w2737 [blk g_f0 (.cells #[(iv f0)] 3 (0, 0)), blk g_f2 (.cells #[(.slice A_f2 f2.length c_f2)] 22 (0, 0)), rowR enc_Tile A_f2 c_f2 f2, blk g_f4 (.cells #[(.func (.func 97) #[] #[(.pointer (some ⟨g_f0, 0, none⟩)), (.pointer (some ⟨g_f1, 0, none⟩)), (.pointer (some ⟨g_f2, 0, none⟩)), (.pointer (some ⟨g_f3, 0, none⟩)), (.pointer (some ⟨g_f4, 0, none⟩))])] 129 (0, 0))] [rowO 85 encN_Row (some ⟨g2736, 0, none⟩) 1 [((hd1 A2734 c2735), t2729)], rowO 3 encInt A2734 c2735 t2729.Cells, blk g_f1 (.cells #[(.slice A_f1 f1.length c_f1)] 79 (0, 0)), rowO 85 encN_Row A_f1 c_f1 (tag H_f1 f1), poolO [nestO subN_Row H_f1 f1], blk g_f3 (.cells #[(.slice A_f3 f3.length c_f3)] 25 (0, 0)), rowO 3 encInt A_f3 c_f3 f3] := hS2738.map1 0 _ (fun h => rowO.ofBlk h rfl (Nat.le_of_ble_eq_true (by kernel_rfl))) (fun _ h => by obtain ⟨_, h1, h2⟩ := h; injection h1 with h1; subst h1; exact h2) [1, 2, 3, 4, 5, 6] (by decide) (by decide)
  obtain ⟨h2741, hf⟩ := as_some hf
  refine WL.appendN hS2740 3 (d := 17) (tS := 79) (z := (.agg #[(.slice none 0 0), (iv 0), (iv 0), (iv 0), (iv 0), (iv 0), (iv 0), (iv 0), (iv 0), (iv 0), (iv 0), (iv 0), (iv 0), (iv 0), (iv 0), (iv 0), (iv 0), (iv 0), (iv 0)])) (bytes := 168) (c2 := 1) (hx := (hd1 A2734 c2735)) (x := t2729) rfl (fun fb => by kernel_rfl) (rowO.rd (hS2740.own 0).1) (by kernel_rfl) (by kernel_rfl) rfl (by decide) h2741 (by decide) [0, 1, 2, 4, 5, 6] (by decide) (by decide) (fun A2742 c2743 w2744 hS2745 => ?_)
  have hS2746 : St (fpL [blk g_f1 (.cells #[(.slice A_f1 f1.length c_f1)] 79 (0, 0)), rowO 85 encN_Row A_f1 c_f1 (tag H_f1 f1), poolO [nestO subN_Row H_f1 f1], blk g_f3 (.cells #[(.slice A_f3 f3.length c_f3)] 25 (0, 0)), rowO 3 encInt A_f3 c_f3 f3]) w w2744 [blk g_f0 (.cells #[(iv f0)] 3 (0, 0)), blk g_f2 (.cells #[(.slice A_f2 f2.length c_f2)] 22 (0, 0)), rowR enc_Tile A_f2 c_f2 f2, blk g_f4 (.cells #[(.func (.func 97) #[] #[(.pointer (some ⟨g_f0, 0, none⟩)), (.pointer (some ⟨g_f1, 0, none⟩)), (.pointer (some ⟨g_f2, 0, none⟩)), (.pointer (some ⟨g_f3, 0, none⟩)), (.pointer (some ⟨g_f4, 0, none⟩))])] 129 (0, 0))] [poolO [nestO subN_Row (updH H_f1 f1.length (hd1 A2734 c2735)) (f1 ++ [t2729])], rowO 85 encN_Row A2742 c2743 (tag (updH H_f1 f1.length (hd1 A2734 c2735)) (f1 ++ [t2729])), rowO 85 encN_Row (some ⟨g2736, 0, none⟩) 1 [((hd1 A2734 c2735), t2729)], blk g_f1 (.cells #[(.slice A_f1 f1.length c_f1)] 79 (0, 0)), blk g_f3 (.cells #[(.slice A_f3 f3.length c_f3)] 25 (0, 0)), rowO 3 encInt A_f3 c_f3 f3] := hS2745.poolPush 4 rfl 0 (by simp) rfl (hd1 A2734 c2735) t2729 (hS2745.ow 2).ofO [2] (fun g hg => ⟨2, by simp, rowO.fpR (hS2745.own 2).1 g hg⟩) _ rfl [0, 1, 3, 5, 6] (by decide) (by decide)
  refine ⟨trivial, ?_⟩
  refine WL.store hS2746 3 rfl [(0, (.slice A2742 (f1 ++ [t2729]).length c2743))] #[(.slice A2742 (f1 ++ [t2729]).length c2743)] (fun fb => by kernel_rfl) (by kernel_rfl) rfl [0, 1, 2, 4, 5] (by decide) (by decide) (fun w2747 hS2748 => ?_)
  refine ⟨trivial, ?_⟩
  refine WL.done rfl ?_
  refine WX.next ?_
  refine WC.ret ?_
  injection hf with hf
  subst hf
  exact WX.thenR (WX.ret_ [] (.tuple #[]) [] (fun fb => by kernel_rfl) trivial ⟨_, rfl, A2742, c2743, (updH H_f1 f1.length (hd1 A2734 c2735)), A_f3, c_f3, rfl, (hS2748.sub [0, 2, 1, 4, 5] (by decide)).noR⟩)
 refine WC.condF2 (fun fb => by kernel_rfl) h2706 ?_
 refine WC.skip ?_
 refine WX.next ?_
 refine WC.seq ?_
 refine WC.region ?_
 refine seg 3 [.v (.slice A_f2 f2.length c_f2)] [0, 2, 3, 4, 5, 18, 19, 20] [(0, (iv p0)), (2, (.pointer (some ⟨g_f1, 0, none⟩))), (3, (.pointer (some ⟨g_f2, 0, none⟩))), (4, (.pointer (some ⟨g_f3, 0, none⟩))), (5, (.pointer (some ⟨g_f4, 0, none⟩))), (18, (.slice A_f2 f2.length c_f2)), (19, (iv (f2.length : Int))), (20, (iv 0))] [.cell ⟨g_f2, 0, none⟩ (.slice A_f2 f2.length c_f2)] (fun fb => by kernel_rfl) rfl ⟨blk_cell (hS.rd 1).1 0 rfl, trivial⟩ ?_
 refine WL.done rfl ?_
 refine WX.next ?_
 obtain ⟨x2932, hx2933, hf⟩ := bind_some hf
 refine WC.cutN (T := ((List Row) × (List Int)) × (Option Addr) × Nat × (Nat → HF) × (Option Addr) × Nat) (fun t => [(2, (.pointer (some ⟨g_f1, 0, none⟩))), (4, (.pointer (some ⟨g_f3, 0, none⟩)))]) (fun t w1 => St (fpL [blk g_f1 (.cells #[(.slice A_f1 f1.length c_f1)] 79 (0, 0)), rowO 85 encN_Row A_f1 c_f1 (tag H_f1 f1), poolO [nestO subN_Row H_f1 f1], blk g_f3 (.cells #[(.slice A_f3 f3.length c_f3)] 25 (0, 0)), rowO 3 encInt A_f3 c_f3 f3]) w w1 [blk g_f0 (.cells #[(iv f0)] 3 (0, 0)), blk g_f2 (.cells #[(.slice A_f2 f2.length c_f2)] 22 (0, 0)), rowR enc_Tile A_f2 c_f2 f2, blk g_f4 (.cells #[(.func (.func 97) #[] #[(.pointer (some ⟨g_f0, 0, none⟩)), (.pointer (some ⟨g_f1, 0, none⟩)), (.pointer (some ⟨g_f2, 0, none⟩)), (.pointer (some ⟨g_f3, 0, none⟩)), (.pointer (some ⟨g_f4, 0, none⟩))])] 129 (0, 0))] [blk g_f1 (.cells #[(.slice t.2.1 t.1.1.length t.2.2.1)] 79 (0, 0)), rowO 85 encN_Row t.2.1 t.2.2.1 (tag t.2.2.2.1 t.1.1), poolO [nestO subN_Row t.2.2.2.1 t.1.1], blk g_f3 (.cells #[(.slice t.2.2.2.2.1 t.1.2.length t.2.2.2.2.2)] 25 (0, 0)), rowO 3 encInt t.2.2.2.2.1 t.2.2.2.2.2 t.1.2] ∧ x2932 = t.1) (fun Kx2932 => ?_) ?_
 ·
  refine WC.block ?_
  refine WC.loop (T := ((List Row) × (List Int) × Int) × (Option Addr) × Nat × (Nat → HF) × (Option Addr) × Nat) (fun t => [(0, (iv p0)), (2, (.pointer (some ⟨g_f1, 0, none⟩))), (3, (.pointer (some ⟨g_f2, 0, none⟩))), (4, (.pointer (some ⟨g_f3, 0, none⟩))), (5, (.pointer (some ⟨g_f4, 0, none⟩))), (18, (.slice A_f2 f2.length c_f2)), (19, (iv (f2.length : Int))), (20, (iv t.1.2.2))]) (fun n t w1 => St (fpL [blk g_f1 (.cells #[(.slice A_f1 f1.length c_f1)] 79 (0, 0)), rowO 85 encN_Row A_f1 c_f1 (tag H_f1 f1), poolO [nestO subN_Row H_f1 f1], blk g_f3 (.cells #[(.slice A_f3 f3.length c_f3)] 25 (0, 0)), rowO 3 encInt A_f3 c_f3 f3]) w w1 [blk g_f0 (.cells #[(iv f0)] 3 (0, 0)), blk g_f2 (.cells #[(.slice A_f2 f2.length c_f2)] 22 (0, 0)), rowR enc_Tile A_f2 c_f2 f2, blk g_f4 (.cells #[(.func (.func 97) #[] #[(.pointer (some ⟨g_f0, 0, none⟩)), (.pointer (some ⟨g_f1, 0, none⟩)), (.pointer (some ⟨g_f2, 0, none⟩)), (.pointer (some ⟨g_f3, 0, none⟩)), (.pointer (some ⟨g_f4, 0, none⟩))])] 129 (0, 0))] [blk g_f1 (.cells #[(.slice t.2.1 t.1.1.length t.2.2.1)] 79 (0, 0)), rowO 85 encN_Row t.2.1 t.2.2.1 (tag t.2.2.2.1 t.1.1), poolO [nestO subN_Row t.2.2.2.1 t.1.1], blk g_f3 (.cells #[(.slice t.2.2.2.2.1 t.1.2.1.length t.2.2.2.2.2)] 25 (0, 0)), rowO 3 encInt t.2.2.2.2.1 t.2.2.2.2.2 t.1.2.1] ∧ rows_All_1.l0 n t.1.1 t.1.2.1 t.1.2.2 p0 f0 f2 rc_ = some x2932) k ((f1, f3, 0), A_f1, c_f1, H_f1, A_f3, c_f3) [0, 2, 3, 4, 5, 18, 19, 20] rfl ⟨(hS.subR [0, 1, 2, 3]).sub [0, 1, 2, 3, 4] (by decide), hx2933⟩ ?_
  rintro k2934 ⟨⟨l2919, l2923, x2924⟩, A2917, c2918, H2920, A2921, c2922⟩ w2935 ⟨hS2936, hl2937⟩
  cases k2934 with
  | zero => rw [rows_All_1.l0] at hl2937; cases hl2937
  | succ k2934 =>
   rw [rows_All_1.l0] at hl2937
   refine WC.seq ?_
   refine WC.region ?_
   refine seg 1 [] [0, 2, 3, 4, 5, 18, 19, 20, 21] [(0, (iv p0)), (2, (.pointer (some ⟨g_f1, 0, none⟩))), (3, (.pointer (some ⟨g_f2, 0, none⟩))), (4, (.pointer (some ⟨g_f3, 0, none⟩))), (5, (.pointer (some ⟨g_f4, 0, none⟩))), (18, (.slice A_f2 f2.length c_f2)), (19, (iv (f2.length : Int))), (20, (iv x2924)), (21, (.bool (decide (x2924 < (f2.length : Int)))))] [] (fun fb => by kernel_rfl) rfl trivial ?_
   refine WL.done rfl ?_
   refine WX.next ?_
   refine WC.seq ?_
   rcases br_some hl2937 with ⟨h2938, hl2937⟩ | ⟨h2938, hl2937⟩
   ·refine WC.condT2 (fun fb => by kernel_rfl) h2938 ?_
    refine WC.skip ?_
    refine WX.next ?_
    refine WC.seq ?_
    refine WC.block ?_
    refine WC.seq ?_
    refine WC.region ?_
    refine seg 1 [] [0, 2, 3, 4, 5, 18, 19, 20, 22] [(0, (iv p0)), (2, (.pointer (some ⟨g_f1, 0, none⟩))), (3, (.pointer (some ⟨g_f2, 0, none⟩))), (4, (.pointer (some ⟨g_f3, 0, none⟩))), (5, (.pointer (some ⟨g_f4, 0, none⟩))), (18, (.slice A_f2 f2.length c_f2)), (19, (iv (f2.length : Int))), (20, (iv x2924)), (22, (iv x2924))] [] (fun fb => by kernel_rfl) rfl trivial ?_
    obtain ⟨h2939, hl2937⟩ := as_some hl2937
    refine seg 3 [.v (iv ((rdD f2 x2924 z_Tile).N)), .v (iv ((rdD f2 x2924 z_Tile).E)), .v (iv ((rdD f2 x2924 z_Tile).S)), .v (iv ((rdD f2 x2924 z_Tile).W))] [0, 2, 3, 4, 5, 18, 19, 20, 22, 24] [(0, (iv p0)), (2, (.pointer (some ⟨g_f1, 0, none⟩))), (3, (.pointer (some ⟨g_f2, 0, none⟩))), (4, (.pointer (some ⟨g_f3, 0, none⟩))), (5, (.pointer (some ⟨g_f4, 0, none⟩))), (18, (.slice A_f2 f2.length c_f2)), (19, (iv (f2.length : Int))), (20, (iv x2924)), (22, (iv x2924)), (24, (.agg #[(iv ((rdD f2 x2924 z_Tile).N)), (iv ((rdD f2 x2924 z_Tile).E)), (iv ((rdD f2 x2924 z_Tile).S)), (iv ((rdD f2 x2924 z_Tile).W))]))] [.idx A_f2 x2924 f2.length, .cell ((adr A_f2).add ((x2924).toNat * 4)) (iv ((rdD f2 x2924 z_Tile).N)), .cell (((adr A_f2).add ((x2924).toNat * 4)).add 1) (iv ((rdD f2 x2924 z_Tile).E)), .cell (((adr A_f2).add ((x2924).toNat * 4)).add 2) (iv ((rdD f2 x2924 z_Tile).S)), .cell (((adr A_f2).add ((x2924).toNat * 4)).add 3) (iv ((rdD f2 x2924 z_Tile).W))] (fun fb => by kernel_rfl) rfl ⟨rowR.adr (hS2936.rd 2).1 h2939.1 h2939.2, rowR.cell (hS2936.rd 2).1 z_Tile h2939.1 h2939.2 0 rfl, rowR.cell (hS2936.rd 2).1 z_Tile h2939.1 h2939.2 1 rfl, rowR.cell (hS2936.rd 2).1 z_Tile h2939.1 h2939.2 2 rfl, rowR.cell (hS2936.rd 2).1 z_Tile h2939.1 h2939.2 3 rfl, trivial⟩ ?_
    refine WL.new hS2936 8 [] (fun g => (.pointer (some ⟨g, 0, none⟩))) (.cells #[(iv 0), (iv 0), (iv 0), (iv 0)] 40 (0, 0)) [] (fun fb g => by kernel_rfl) trivial (fun g2940 w2941 hS2942 => ?_)
    refine ⟨trivial, ?_⟩
    refine seg 5 [] [0, 2, 3, 4, 5, 7, 8, 18, 19, 20, 24] [(0, (iv p0)), (2, (.pointer (some ⟨g_f1, 0, none⟩))), (3, (.pointer (some ⟨g_f2, 0, none⟩))), (4, (.pointer (some ⟨g_f3, 0, none⟩))), (5, (.pointer (some ⟨g_f4, 0, none⟩))), (7, (iv x2924)), (8, (pt g2940)), (18, (.slice A_f2 f2.length c_f2)), (19, (iv (f2.length : Int))), (20, (iv x2924)), (24, (.agg #[(iv ((rdD f2 x2924 z_Tile).N)), (iv ((rdD f2 x2924 z_Tile).E)), (iv ((rdD f2 x2924 z_Tile).S)), (iv ((rdD f2 x2924 z_Tile).W))]))] [] (fun fb => by kernel_rfl) rfl trivial ?_
    refine WL.store hS2942 0 rfl [(0, (iv ((rdD f2 x2924 z_Tile).N))), (1, (iv ((rdD f2 x2924 z_Tile).E))), (2, (iv ((rdD f2 x2924 z_Tile).S))), (3, (iv ((rdD f2 x2924 z_Tile).W)))] #[(iv ((rdD f2 x2924 z_Tile).N)), (iv ((rdD f2 x2924 z_Tile).E)), (iv ((rdD f2 x2924 z_Tile).S)), (iv ((rdD f2 x2924 z_Tile).W))] (fun fb => by kernel_rfl) (by kernel_rfl) rfl [1, 2, 3, 4, 5] (by decide) (by decide) (fun w2944 hS2945 => ?_)
    refine ⟨trivial, ?_⟩
    refine WL.done rfl ?_
    refine WX.next ?_
    refine WC.seq ?_
    obtain ⟨x2958, hx2959, hl2937⟩ := bind_some hl2937
    refine WC.cutN (T := Bool) (fun t => [(0, (iv p0)), (2, (.pointer (some ⟨g_f1, 0, none⟩))), (3, (.pointer (some ⟨g_f2, 0, none⟩))), (4, (.pointer (some ⟨g_f3, 0, none⟩))), (5, (.pointer (some ⟨g_f4, 0, none⟩))), (7, (iv x2924)), (18, (.slice A_f2 f2.length c_f2)), (19, (iv (f2.length : Int))), (20, (iv x2924)), (40, (.bool t))]) (fun t w1 => St (fpL [blk g_f1 (.cells #[(.slice A_f1 f1.length c_f1)] 79 (0, 0)), rowO 85 encN_Row A_f1 c_f1 (tag H_f1 f1), poolO [nestO subN_Row H_f1 f1], blk g_f3 (.cells #[(.slice A_f3 f3.length c_f3)] 25 (0, 0)), rowO 3 encInt A_f3 c_f3 f3]) w w1 [blk g_f0 (.cells #[(iv f0)] 3 (0, 0)), blk g_f2 (.cells #[(.slice A_f2 f2.length c_f2)] 22 (0, 0)), rowR enc_Tile A_f2 c_f2 f2, blk g_f4 (.cells #[(.func (.func 97) #[] #[(.pointer (some ⟨g_f0, 0, none⟩)), (.pointer (some ⟨g_f1, 0, none⟩)), (.pointer (some ⟨g_f2, 0, none⟩)), (.pointer (some ⟨g_f3, 0, none⟩)), (.pointer (some ⟨g_f4, 0, none⟩))])] 129 (0, 0))] [blk g_f1 (.cells #[(.slice A2917 l2919.length c2918)] 79 (0, 0)), rowO 85 encN_Row A2917 c2918 (tag H2920 l2919), poolO [nestO subN_Row H2920 l2919], blk g_f3 (.cells #[(.slice A2921 l2923.length c2922)] 25 (0, 0)), rowO 3 encInt A2921 c2922 l2923] ∧ x2958 = t) (fun Kx2958 => ?_) ?_
    ·
     rcases br_some hx2959 with ⟨h2960, hx2959⟩ | ⟨h2960, hx2959⟩
     ·
      refine WC.regionD ([], [0, 1, 2, 3, 4, 5, 6, 7, 8, 9, 10, 11, 12, 13, 14, 15], [[], [0], [0, 1], [0, 1, 2], [0, 1, 2], [0, 1, 2], [0, 1, 2, 5], [0, 1, 2, 4, 5, 6], [0, 1, 2, 4, 5, 6, 7], [0, 1, 2, 3, 4, 5, 6, 7, 8], [0, 1, 2, 3, 4, 5, 6, 7, 8, 9], [0, 1, 2, 3, 4, 5, 6, 7, 8, 9, 10], [0, 1, 2], [0, 1, 2, 12], [0, 1, 2, 3, 4, 5, 6, 7, 8, 9, 10, 11, 12, 13], [0, 1, 2, 3, 4, 5, 6, 7, 8, 9, 10, 11, 12, 13, 14]]) [[0, 1, 2, 3, 4, 5, 6, 7, 8, 9, 10, 11, 12, 13, 14, 15]] (by kernel_rfl) (by kernel_rfl) (NoPanic.seq (NoPanic.block (NoPanic.seq (NoPanic.seq (NoPanic.block (NoPanic.body)))))) ?_
      have hS2962 := hS2945.drew
      revert hS2962
      generalize World.drew w2944 = w2961
      intro hS2962
      refine ⟨trivial, forallC ?_ (forallN)⟩
      refine seg 3 [] [0, 2, 3, 4, 5, 7, 8, 18, 19, 20, 27] [(0, (iv p0)), (2, (.pointer (some ⟨g_f1, 0, none⟩))), (3, (.pointer (some ⟨g_f2, 0, none⟩))), (4, (.pointer (some ⟨g_f3, 0, none⟩))), (5, (.pointer (some ⟨g_f4, 0, none⟩))), (7, (iv x2924)), (8, (pt g2940)), (18, (.slice A_f2 f2.length c_f2)), (19, (iv (f2.length : Int))), (20, (iv x2924)), (27, (.bool (p0 == 0)))] [] (fun fb => by kernel_rfl) rfl trivial ?_
      refine WL.setB 27 h2960 rfl ?_
      refine seg 16 [] [0, 2, 3, 4, 5, 7, 18, 19, 20, 40] [(0, (iv p0)), (2, (.pointer (some ⟨g_f1, 0, none⟩))), (3, (.pointer (some ⟨g_f2, 0, none⟩))), (4, (.pointer (some ⟨g_f3, 0, none⟩))), (5, (.pointer (some ⟨g_f4, 0, none⟩))), (7, (iv x2924)), (18, (.slice A_f2 f2.length c_f2)), (19, (iv (f2.length : Int))), (20, (iv x2924)), (40, (.bool true))] [] (fun fb => by kernel_rfl) rfl trivial ?_
      refine WL.done rfl ?_
      injection hx2959 with hx2959
      exact WX.to Kx2958 true [0, 2, 3, 4, 5, 7, 18, 19, 20, 40] rfl ⟨(hS2962.subR [0, 1, 2, 3]).sub [1, 2, 3, 4, 5] (by decide), hx2959.symm⟩
     obtain ⟨h2969, hx2959⟩ := as_some hx2959
     obtain ⟨h2970, hx2959⟩ := as_some hx2959
     refine WC.regionD ([(3, ⟨g_f2, 0, none⟩, (.slice A_f2 f2.length c_f2)), (4, ⟨g_f3, 0, none⟩, (.slice A2921 l2923.length c2922)), (8, ((adr A2921).add ((w64 (p0 - 1)).toNat * 1)), (iv (rdD l2923 (w64 (p0 - 1)) 0))), (11, (((adr A_f2).add (((rdD l2923 (w64 (p0 - 1)) 0)).toNat * 4)).add 1), (iv ((rdD f2 (rdD l2923 (w64 (p0 - 1)) 0) z_Tile).E))), (13, ⟨g2940, 3, none⟩, (iv ((rdD f2 x2924 z_Tile).W)))], [0, 1, 2, 3, 4, 5, 6, 7, 8, 9, 10, 11, 12, 13, 14, 15], [[], [0], [0, 1], [0, 1, 2], [0, 1, 2], [0, 1, 2], [0, 1, 2, 5], [0, 1, 2, 4, 5, 6], [0, 1, 2, 4, 5, 6, 7], [0, 1, 2, 3, 4, 5, 6, 7, 8], [0, 1, 2, 3, 4, 5, 6, 7, 8, 9], [0, 1, 2, 3, 4, 5, 6, 7, 8, 9, 10], [0, 1, 2], [0, 1, 2, 12], [0, 1, 2, 3, 4, 5, 6, 7, 8, 9, 10, 11, 12, 13], [0, 1, 2, 3, 4, 5, 6, 7, 8, 9, 10, 11, 12, 13, 14]]) [[0, 1, 2, 3, 4, 5, 6, 7, 8, 9, 10, 11, 12, 13, 14, 15]] (by kernel_rfl) (by kernel_rfl) (NoPanic.seq (NoPanic.block (NoPanic.seq (NoPanic.seq (NoPanic.block (NoPanic.body)))))) ?_
     have hS2966 := hS2945.drew
     revert hS2966
     generalize World.drew w2944 = w2965
     intro hS2966
     refine ⟨⟨blk_cell (hS2966.rd 1).1 0 rfl, hS2966.cell 4 rfl 0 rfl, rowR.cell (rowO.rd (hS2966.own 5).1) 0 h2969.1 h2969.2 0 rfl, rowR.cell (hS2966.rd 2).1 z_Tile h2970.1 h2970.2 1 rfl, hS2966.cell 0 rfl 3 rfl, trivial⟩, forallC ?_ (forallN)⟩
     refine seg 3 [] [0, 2, 3, 4, 5, 7, 8, 18, 19, 20, 27] [(0, (iv p0)), (2, (.pointer (some ⟨g_f1, 0, none⟩))), (3, (.pointer (some ⟨g_f2, 0, none⟩))), (4, (.pointer (some ⟨g_f3, 0, none⟩))), (5, (.pointer (some ⟨g_f4, 0, none⟩))), (7, (iv x2924)), (8, (pt g2940)), (18, (.slice A_f2 f2.length c_f2)), (19, (iv (f2.length : Int))), (20, (iv x2924)), (27, (.bool (p0 == 0)))] [] (fun fb => by kernel_rfl) rfl trivial ?_
     refine WL.setB 27 h2960 rfl ?_
     refine segF 16 [.v (.slice A_f2 f2.length c_f2), .v (.slice A2921 l2923.length c2922), .v (iv (rdD l2923 (w64 (p0 - 1)) 0)), .v (iv ((rdD f2 (rdD l2923 (w64 (p0 - 1)) 0) z_Tile).E)), .v (iv ((rdD f2 x2924 z_Tile).W))] [0, 2, 3, 4, 5, 7, 18, 19, 20, 40] [(0, (iv p0)), (2, (.pointer (some ⟨g_f1, 0, none⟩))), (3, (.pointer (some ⟨g_f2, 0, none⟩))), (4, (.pointer (some ⟨g_f3, 0, none⟩))), (5, (.pointer (some ⟨g_f4, 0, none⟩))), (7, (iv x2924)), (18, (.slice A_f2 f2.length c_f2)), (19, (iv (f2.length : Int))), (20, (iv x2924)), (40, (.bool (((rdD f2 (rdD l2923 (w64 (p0 - 1)) 0) z_Tile).E) == ((rdD f2 x2924 z_Tile).W))))] [.idx A2921 (w64 (p0 - 1)) l2923.length, .idx A_f2 (rdD l2923 (w64 (p0 - 1)) 0) f2.length] [0, 1, 2, 3, 4] [(3, ⟨g_f2, 0, none⟩, (.slice A_f2 f2.length c_f2)), (4, ⟨g_f3, 0, none⟩, (.slice A2921 l2923.length c2922)), (8, ((adr A2921).add ((w64 (p0 - 1)).toNat * 1)), (iv (rdD l2923 (w64 (p0 - 1)) 0))), (11, (((adr A_f2).add (((rdD l2923 (w64 (p0 - 1)) 0)).toNat * 4)).add 1), (iv ((rdD f2 (rdD l2923 (w64 (p0 - 1)) 0) z_Tile).E))), (13, ⟨g2940, 3, none⟩, (iv ((rdD f2 x2924 z_Tile).W)))] (fun fb => by kernel_rfl) rfl ⟨rowR.adr (rowO.rd (hS2966.own 5).1) h2969.1 h2969.2, rowR.adr (hS2966.rd 2).1 h2970.1 h2970.2, trivial⟩ rfl ?_
     refine WL.done rfl ?_
     injection hx2959 with hx2959
     exact WX.to Kx2958 (((rdD f2 (rdD l2923 (w64 (p0 - 1)) 0) z_Tile).E) == ((rdD f2 x2924 z_Tile).W)) [0, 2, 3, 4, 5, 7, 18, 19, 20, 40] rfl ⟨(hS2966.subR [0, 1, 2, 3]).sub [1, 2, 3, 4, 5] (by decide), hx2959.symm⟩
    rintro y2974 w2971 ⟨hS2972, hq2973⟩
    subst hq2973
    refine WX.next ?_
    obtain ⟨x2997, hx2998, hl2937⟩ := bind_some hl2937
    refine WC.cutN (T := ((List Row) × (List Int)) × (Option Addr) × Nat × (Nat → HF) × (Option Addr) × Nat) (fun t => [(0, (iv p0)), (2, (.pointer (some ⟨g_f1, 0, none⟩))), (3, (.pointer (some ⟨g_f2, 0, none⟩))), (4, (.pointer (some ⟨g_f3, 0, none⟩))), (5, (.pointer (some ⟨g_f4, 0, none⟩))), (18, (.slice A_f2 f2.length c_f2)), (19, (iv (f2.length : Int))), (20, (iv x2924))]) (fun t w1 => St (fpL [blk g_f1 (.cells #[(.slice A_f1 f1.length c_f1)] 79 (0, 0)), rowO 85 encN_Row A_f1 c_f1 (tag H_f1 f1), poolO [nestO subN_Row H_f1 f1], blk g_f3 (.cells #[(.slice A_f3 f3.length c_f3)] 25 (0, 0)), rowO 3 encInt A_f3 c_f3 f3]) w w1 [blk g_f0 (.cells #[(iv f0)] 3 (0, 0)), blk g_f2 (.cells #[(.slice A_f2 f2.length c_f2)] 22 (0, 0)), rowR enc_Tile A_f2 c_f2 f2, blk g_f4 (.cells #[(.func (.func 97) #[] #[(.pointer (some ⟨g_f0, 0, none⟩)), (.pointer (some ⟨g_f1, 0, none⟩)), (.pointer (some ⟨g_f2, 0, none⟩)), (.pointer (some ⟨g_f3, 0, none⟩)), (.pointer (some ⟨g_f4, 0, none⟩))])] 129 (0, 0))] [blk g_f1 (.cells #[(.slice t.2.1 t.1.1.length t.2.2.1)] 79 (0, 0)), rowO 85 encN_Row t.2.1 t.2.2.1 (tag t.2.2.2.1 t.1.1), poolO [nestO subN_Row t.2.2.2.1 t.1.1], blk g_f3 (.cells #[(.slice t.2.2.2.2.1 t.1.2.length t.2.2.2.2.2)] 25 (0, 0)), rowO 3 encInt t.2.2.2.2.1 t.2.2.2.2.2 t.1.2] ∧ x2997 = t.1) (fun Kx2997 => ?_) ?_
    ·
     rcases br_some hx2998 with ⟨h2999, hx2998⟩ | ⟨h2999, hx2998⟩
     ·refine WC.condT2 (fun fb => by kernel_rfl) h2999 ?_
      refine WC.seq ?_
      refine WC.region ?_
      refine seg 3 [.v (.slice A2921 l2923.length c2922)] [0, 2, 3, 4, 5, 18, 19, 20, 41, 42, 43] [(0, (iv p0)), (2, (.pointer (some ⟨g_f1, 0, none⟩))), (3, (.pointer (some ⟨g_f2, 0, none⟩))), (4, (.pointer (some ⟨g_f3, 0, none⟩))), (5, (.pointer (some ⟨g_f4, 0, none⟩))), (18, (.slice A_f2 f2.length c_f2)), (19, (iv (f2.length : Int))), (20, (iv x2924)), (41, (.slice A2921 l2923.length c2922)), (42, (iv p0)), (43, (iv x2924))] [.cell ⟨g_f3, 0, none⟩ (.slice A2921 l2923.length c2922)] (fun fb => by kernel_rfl) rfl ⟨hS2972.cell 3 rfl 0 rfl, trivial⟩ ?_
      obtain ⟨h3000, hx2998⟩ := as_some hx2998
      refine seg 4 [] [0, 2, 3, 4, 5, 18, 19, 20, 43, 44] [(0, (iv p0)), (2, (.pointer (some ⟨g_f1, 0, none⟩))), (3, (.pointer (some ⟨g_f2, 0, none⟩))), (4, (.pointer (some ⟨g_f3, 0, none⟩))), (5, (.pointer (some ⟨g_f4, 0, none⟩))), (18, (.slice A_f2 f2.length c_f2)), (19, (iv (f2.length : Int))), (20, (iv x2924)), (43, (iv x2924)), (44, (.pointer (some ((adr A2921).add ((p0).toNat * 1)))))] [.idx A2921 p0 l2923.length] (fun fb => by kernel_rfl) rfl ⟨rowR.adr (rowO.rd (hS2972.own 4).1) h3000.1 h3000.2, trivial⟩ ?_
      refine WL.storeRow hS2972 4 rfl (p0) (x2924) (0) [(0, (iv x2924))] (fun fb => by kernel_rfl) h3000.1 h3000.2 (by kernel_rfl) rfl [0, 1, 2, 3] (by decide) (by decide) (fun w3001 hS3002 => ?_)
      refine ⟨trivial, ?_⟩
      have hS3003 : St (fpL [blk g_f1 (.cells #[(.slice A_f1 f1.length c_f1)] 79 (0, 0)), rowO 85 encN_Row A_f1 c_f1 (tag H_f1 f1), poolO [nestO subN_Row H_f1 f1], blk g_f3 (.cells #[(.slice A_f3 f3.length c_f3)] 25 (0, 0)), rowO 3 encInt A_f3 c_f3 f3]) w w3001 [blk g_f0 (.cells #[(iv f0)] 3 (0, 0)), blk g_f2 (.cells #[(.slice A_f2 f2.length c_f2)] 22 (0, 0)), rowR enc_Tile A_f2 c_f2 f2, blk g_f4 (.cells #[(.func (.func 97) #[] #[(.pointer (some ⟨g_f0, 0, none⟩)), (.pointer (some ⟨g_f1, 0, none⟩)), (.pointer (some ⟨g_f2, 0, none⟩)), (.pointer (some ⟨g_f3, 0, none⟩)), (.pointer (some ⟨g_f4, 0, none⟩))])] 129 (0, 0))] [rowO 3 encInt A2921 c2922 (l2923.set (p0).toNat x2924), blk g_f1 (.cells #[(.slice A2917 l2919.length c2918)] 79 (0, 0)), rowO 85 encN_Row A2917 c2918 (tag H2920 l2919), poolO [nestO subN_Row H2920 l2919], blk g_f3 (.cells #[(.slice A2921 (l2923.set (p0).toNat x2924).length c2922)] 25 (0, 0))] := by simpa only [List.length_set] using (show St (fpL [blk g_f1 (.cells #[(.slice A_f1 f1.length c_f1)] 79 (0, 0)), rowO 85 encN_Row A_f1 c_f1 (tag H_f1 f1), poolO [nestO subN_Row H_f1 f1], blk g_f3 (.cells #[(.slice A_f3 f3.length c_f3)] 25 (0, 0)), rowO 3 encInt A_f3 c_f3 f3]) w w3001 [blk g_f0 (.cells #[(iv f0)] 3 (0, 0)), blk g_f2 (.cells #[(.slice A_f2 f2.length c_f2)] 22 (0, 0)), rowR enc_Tile A_f2 c_f2 f2, blk g_f4 (.cells #[(.func (.func 97) #[] #[(.pointer (some ⟨g_f0, 0, none⟩)), (.pointer (some ⟨g_f1, 0, none⟩)), (.pointer (some ⟨g_f2, 0, none⟩)), (.pointer (some ⟨g_f3, 0, none⟩)), (.pointer (some ⟨g_f4, 0, none⟩))])] 129 (0, 0))] [rowO 3 encInt A2921 c2922 (l2923.set (p0).toNat x2924), blk g_f1 (.cells #[(.slice A2917 l2919.length c2918)] 79 (0, 0)), rowO 85 encN_Row A2917 c2918 (tag H2920 l2919), poolO [nestO subN_Row H2920 l2919], blk g_f3 (.cells #[(.slice A2921 l2923.length c2922)] 25 (0, 0))] from hS3002)
      refine WL.done rfl ?_
      refine WX.next ?_
      refine WC.region ?_
      refine seg 3 [.v (.func (.func 97) #[] #[(.pointer (some ⟨g_f0, 0, none⟩)), (.pointer (some ⟨g_f1, 0, none⟩)), (.pointer (some ⟨g_f2, 0, none⟩)), (.pointer (some ⟨g_f3, 0, none⟩)), (.pointer (some ⟨g_f4, 0, none⟩))])] [0, 2, 3, 4, 5, 18, 19, 20, 45, 47] [(0, (iv p0)), (2, (.pointer (some ⟨g_f1, 0, none⟩))), (3, (.pointer (some ⟨g_f2, 0, none⟩))), (4, (.pointer (some ⟨g_f3, 0, none⟩))), (5, (.pointer (some ⟨g_f4, 0, none⟩))), (18, (.slice A_f2 f2.length c_f2)), (19, (iv (f2.length : Int))), (20, (iv x2924)), (45, (.func (.func 97) #[] #[(.pointer (some ⟨g_f0, 0, none⟩)), (.pointer (some ⟨g_f1, 0, none⟩)), (.pointer (some ⟨g_f2, 0, none⟩)), (.pointer (some ⟨g_f3, 0, none⟩)), (.pointer (some ⟨g_f4, 0, none⟩))])), (47, (iv (w64 (p0 + 1))))] [.cell ⟨g_f4, 0, none⟩ (.func (.func 97) #[] #[(.pointer (some ⟨g_f0, 0, none⟩)), (.pointer (some ⟨g_f1, 0, none⟩)), (.pointer (some ⟨g_f2, 0, none⟩)), (.pointer (some ⟨g_f3, 0, none⟩)), (.pointer (some ⟨g_f4, 0, none⟩))])] (fun fb => by kernel_rfl) rfl ⟨blk_cell (hS3003.rd 3).1 0 rfl, trivial⟩ ?_
      obtain ⟨t3004, ht3005, hx2998⟩ := bind_some hx2998
      refine WL.call (some 48) 97 #[(iv (w64 (p0 + 1))), (.pointer (some ⟨g_f0, 0, none⟩)), (.pointer (some ⟨g_f1, 0, none⟩)), (.pointer (some ⟨g_f2, 0, none⟩)), (.pointer (some ⟨g_f3, 0, none⟩)), (.pointer (some ⟨g_f4, 0, none⟩))] (fun fb => by kernel_rfl) (ih_ (w64 (p0 + 1)) f0 l2919 f2 (l2923.set (p0).toNat x2924) g_f0 g_f1 A2917 c2918 H2920 g_f2 A_f2 c_f2 g_f3 A2921 c2922 g_f4 t3004 _ (hS3003.rdT [1, 2, 3, 4, 0] 0) (hS3003.rdT [1, 2, 3, 4, 0] 1) (hS3003.rdT [1, 2, 3, 4, 0] 2) (hS3003.rdT [1, 2, 3, 4, 0] 3) (hS3003.io [1, 2, 3, 4, 0] (by decide)) ht3005) (fun v w3006 hR3007 => ?_)
      obtain ⟨A3009, c3010, H3011, A3012, c3013, rfl, hk_⟩ := hR3007
      have hS3008 : St (fpL [blk g_f1 (.cells #[(.slice A_f1 f1.length c_f1)] 79 (0, 0)), rowO 85 encN_Row A_f1 c_f1 (tag H_f1 f1), poolO [nestO subN_Row H_f1 f1], blk g_f3 (.cells #[(.slice A_f3 f3.length c_f3)] 25 (0, 0)), rowO 3 encInt A_f3 c_f3 f3]) w w3006 [blk g_f0 (.cells #[(iv f0)] 3 (0, 0)), blk g_f2 (.cells #[(.slice A_f2 f2.length c_f2)] 22 (0, 0)), rowR enc_Tile A_f2 c_f2 f2, blk g_f4 (.cells #[(.func (.func 97) #[] #[(.pointer (some ⟨g_f0, 0, none⟩)), (.pointer (some ⟨g_f1, 0, none⟩)), (.pointer (some ⟨g_f2, 0, none⟩)), (.pointer (some ⟨g_f3, 0, none⟩)), (.pointer (some ⟨g_f4, 0, none⟩))])] 129 (0, 0))] [blk g_f1 (.cells #[(.slice A3009 t3004.1.length c3010)] 79 (0, 0)), rowO 85 encN_Row A3009 c3010 (tag H3011 t3004.1), poolO [nestO subN_Row H3011 t3004.1], blk g_f3 (.cells #[(.slice A3012 t3004.2.length c3013)] 25 (0, 0)), rowO 3 encInt A3012 c3013 t3004.2] := hS3003.call hk_ [1, 2, 3, 4, 0] [] (fun g hg => fpL_sel g hg) (by decide) (by decide)
      refine ⟨trivial, ?_⟩
      refine WL.done rfl ?_
      injection hx2998 with hx2998
      exact WX.to Kx2997 ((t3004.1, t3004.2), A3009, c3010, H3011, A3012, c3013) [0, 2, 3, 4, 5, 18, 19, 20] rfl ⟨(hS3008.subR [0, 1, 2, 3]).sub [0, 1, 2, 3, 4] (by decide), hx2998.symm⟩
     refine WC.condF2 (fun fb => by kernel_rfl) h2999 ?_
     refine WC.skip ?_
     injection hx2998 with hx2998
     exact WX.to Kx2997 ((l2919, l2923), A2917, c2918, H2920, A2921, c2922) [0, 2, 3, 4, 5, 18, 19, 20] rfl ⟨(hS2972.subR [0, 1, 2, 3]).sub [0, 1, 2, 3, 4] (by decide), hx2998.symm⟩
    rintro ⟨y3017, A2990, c2991, H2993, A2994, c2995⟩ w3014 ⟨hS3015, hq3016⟩
    subst hq3016
    refine WX.blockN (WX.next ?_)
    refine WC.region ?_
    refine seg 2 [] [0, 2, 3, 4, 5, 18, 19, 20] [(0, (iv p0)), (2, (.pointer (some ⟨g_f1, 0, none⟩))), (3, (.pointer (some ⟨g_f2, 0, none⟩))), (4, (.pointer (some ⟨g_f3, 0, none⟩))), (5, (.pointer (some ⟨g_f4, 0, none⟩))), (18, (.slice A_f2 f2.length c_f2)), (19, (iv (f2.length : Int))), (20, (iv (w64 (x2924 + 1))))] [] (fun fb => by kernel_rfl) rfl trivial ?_
    refine WL.done rfl ?_
    exact WX.again k2934 (Nat.lt_succ_self _) ((x2997.1, x2997.2, w64 (x2924 + 1)), A2990, c2991, H2993, A2994, c2995) [0, 2, 3, 4, 5, 18, 19, 20] rfl ⟨(hS3015.subR [0, 1, 2, 3]).sub [0, 1, 2, 3, 4] (by decide), hl2937⟩
   refine WC.condF2 (fun fb => by kernel_rfl) h2938 ?_
   refine WC.exit ?_
   injection hl2937 with hl2937
   exact WX.thenX (WX.thenX (WX.blockHere (WX.to Kx2932 ((l2919, l2923), A2917, c2918, H2920, A2921, c2922) [2, 4] rfl ⟨(hS2936.subR [0, 1, 2, 3]).sub [0, 1, 2, 3, 4] (by decide), hl2937.symm⟩)))
 rintro ⟨y3021, A2925, c2926, H2928, A2929, c2930⟩ w3018 ⟨hS3019, hq3020⟩
 subst hq3020
 injection hf with hf
 subst hf
 exact WX.end_ [] (.tuple #[]) [] (fun fb => by kernel_rfl) trivial ⟨_, rfl, A2925, c2926, H2928, A2929, c2930, rfl, (hS3019.sub [0, 1, 2, 3, 4] (by decide)).noR⟩
end Gp
