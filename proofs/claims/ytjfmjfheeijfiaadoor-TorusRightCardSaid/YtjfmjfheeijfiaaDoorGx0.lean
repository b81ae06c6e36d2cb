/- Walks: each function of the program computes its plain function. -/
import Derived.Test.YtjfmjfheeijfiaaDoorGp
set_option linter.unusedVariables false
set_option linter.unusedSimpArgs false
set_option maxHeartbeats 4000000
namespace Gp
open Go Gw Go.Proofs
theorem ref01_colour_calls (p0 : Int)  (r : Bool) (w : World)  (hf : ref01_colour p0 = some r) :
  CallsR Tryd.prog 50 #[(iv p0)] w (fun v w' => v = (.bool r) ∧ Keeps NoS w w') := by
 have hS : St NoS w w [] [] := St.init (ro_nil _ _)
 refine enter 9 Tryd.func50 rfl Tryd.ntmps50 rfl ?_
 unfold ref01_colour at hf
 refine WC.seq ?_
 refine WC.region ?_
 refine seg 1 [] [0] [(0, (iv p0))] [] (fun fb => by kernel_rfl) rfl trivial ?_
 refine WL.done rfl ?_
 refine WX.next ?_
 refine WC.seq ?_
 refine WC.region ?_
 refine seg 3 [] [0, 5] [(0, (iv p0)), (5, (.bool (decide (p0 ≥ 0))))] [] (fun fb => by kernel_rfl) rfl trivial ?_
 refine WL.cutV (T := Bool) 6 (fun t => [(8, (.bool t))]) (fun t => ((decide (p0 ≥ 0)) && (decide (p0 < 1000))) = t) (fun K => ?_) ?_
 ·
  rcases Bool.eq_false_or_eq_true (decide (p0 ≥ 0)) with h10 | h10
  ·
   refine WL.setB 5 h10 rfl ?_
   refine seg 6 [] [8] [(8, (.bool (decide (p0 < 1000))))] [] (fun fb => by kernel_rfl) rfl trivial ?_
   exact WL.toV K (decide (p0 < 1000)) [8] rfl (by first | (rw [h10]; done) | (rw [h10]; rfl))
  refine WL.setB 5 h10 rfl ?_
  refine seg 6 [] [8] [(8, (.bool false))] [] (fun fb => by kernel_rfl) rfl trivial ?_
  exact WL.toV K false [8] rfl (by first | (rw [h10]; done) | (rw [h10]; rfl))
 rintro b11 rfl
 refine seg 7 [] [2] [(2, (.bool ((decide (p0 ≥ 0)) && (decide (p0 < 1000)))))] [] (fun fb => by kernel_rfl) rfl trivial ?_
 refine WL.done rfl ?_
 refine WX.next ?_
 refine WC.ret ?_
 injection hf with hf
 subst hf
 exact WX.ret_ [] (.bool ((decide (p0 ≥ 0)) && (decide (p0 < 1000)))) [] (fun fb => by kernel_rfl) trivial ⟨_, rfl, rfl, hS.keep⟩
theorem ref01_Index_calls (k : Nat) (p0 : List Tile) (p1 : Tile) (A_p0 : Option Addr) (c_p0 : Nat) (r : Int) (w : World) (hR0 : RO NoS w (rowR enc_Tile A_p0 c_p0 p0)) (hf : ref01_Index k p0 p1 = some r) :
  CallsR Tryd.prog 51 #[(.slice A_p0 p0.length c_p0), (.agg #[(iv p1.N), (iv p1.E), (iv p1.S), (iv p1.W)])] w (fun v w' => v = (iv r) ∧ Keeps NoS w w') := by
 have hS : St NoS w w [rowR enc_Tile A_p0 c_p0 p0] [] := St.init (ro_cons hR0 (ro_nil _ _))
 refine enter 19 Tryd.func51 rfl Tryd.ntmps51 rfl ?_
 unfold ref01_Index at hf
 refine WC.seq ?_
 refine WC.region ?_
 refine WL.new hS 3 [] (fun g => (.pointer (some ⟨g, 0, none⟩))) (.cells #[(iv p1.N), (iv p1.E), (iv p1.S), (iv p1.W)] 40 (0, 0)) [] (fun fb g => by kernel_rfl) trivial (fun g76 w77 hS78 => ?_)
 refine ⟨trivial, ?_⟩
 refine seg 2 [] [0, 3] [(0, (.slice A_p0 p0.length c_p0)), (3, (pt g76))] [] (fun fb => by kernel_rfl) rfl trivial ?_
 refine WL.done rfl ?_
 refine WX.next ?_
 refine WC.seq ?_
 refine WC.seq ?_
 refine WC.region ?_
 refine seg 1 [] [0, 3, 5] [(0, (.slice A_p0 p0.length c_p0)), (3, (pt g76)), (5, (iv 0))] [] (fun fb => by kernel_rfl) rfl trivial ?_
 refine WL.done rfl ?_
 refine WX.next ?_
 obtain ⟨x96, hx97, hf⟩ := bind_some hf
 refine WC.cutN (T := Unit) (fun t => []) (fun t w1 => St NoS w w1 [rowR enc_Tile A_p0 c_p0 p0] [] ∧ x96 = .inr t) (fun Kx96 => ?_) ?_
 ·
  refine WC.block ?_
  refine WC.loop (T := Int) (fun t => [(0, (.slice A_p0 p0.length c_p0)), (3, (pt g76)), (5, (iv t))]) (fun n t w1 => St NoS w w1 [rowR enc_Tile A_p0 c_p0 p0] [blk g76 (.cells #[(iv p1.N), (iv p1.E), (iv p1.S), (iv p1.W)] 40 (0, 0))] ∧ ref01_Index.l0 n t p0 p1 = some x96) k 0 [0, 3, 5] rfl ⟨(hS78.subR [0]).sub [0] (by decide), hx97⟩ ?_
  rintro k98 x95 w99 ⟨hS100, hl101⟩
  cases k98 with
  | zero => rw [ref01_Index.l0] at hl101; cases hl101
  | succ k98 =>
   rw [ref01_Index.l0] at hl101
   refine WC.seq ?_
   refine WC.seq ?_
   refine WC.region ?_
   refine seg 4 [] [0, 3, 5, 9] [(0, (.slice A_p0 p0.length c_p0)), (3, (pt g76)), (5, (iv x95)), (9, (.bool (decide (x95 < (p0.length : Int)))))] [] (fun fb => by kernel_rfl) rfl trivial ?_
   refine WL.done rfl ?_
   refine WX.next ?_
   rcases br_some hl101 with ⟨h102, hl101⟩ | ⟨h102, hl101⟩
   ·refine WC.condT2 (fun fb => by kernel_rfl) h102 ?_
    refine WC.skip ?_
    refine WX.next ?_
    refine WC.seq ?_
    refine WC.block ?_
    refine WC.seq ?_
    obtain ⟨h107, hl101⟩ := as_some hl101
    refine WC.regionD ([(3, ((adr A_p0).add ((x95).toNat * 4)), (iv ((rdD p0 x95 z_Tile).N))), (3, (((adr A_p0).add ((x95).toNat * 4)).add 1), (iv ((rdD p0 x95 z_Tile).E))), (3, (((adr A_p0).add ((x95).toNat * 4)).add 2), (iv ((rdD p0 x95 z_Tile).S))), (3, (((adr A_p0).add ((x95).toNat * 4)).add 3), (iv ((rdD p0 x95 z_Tile).W))), (4, ⟨g76, 0, none⟩, (iv p1.N)), (4, ⟨g76, 1, none⟩, (iv p1.E)), (4, ⟨g76, 2, none⟩, (iv p1.S)), (4, ⟨g76, 3, none⟩, (iv p1.W))], [0, 1, 2, 3, 4, 5], [[], [], [0, 1], [0, 1, 2], [], [0, 1, 2, 3, 4]]) [[0, 1, 2, 3, 4, 5]] (by kernel_rfl) (by kernel_rfl) (NoPanic.seq (NoPanic.block (NoPanic.seq (NoPanic.seq (NoPanic.block (NoPanic.seq (NoPanic.body))))))) ?_
    have hS105 := hS100.drew
    revert hS105
    generalize World.drew w99 = w104
    intro hS105
    refine ⟨⟨rowR.cell (hS105.rd 0).1 z_Tile h107.1 h107.2 0 rfl, rowR.cell (hS105.rd 0).1 z_Tile h107.1 h107.2 1 rfl, rowR.cell (hS105.rd 0).1 z_Tile h107.1 h107.2 2 rfl, rowR.cell (hS105.rd 0).1 z_Tile h107.1 h107.2 3 rfl, hS105.cell 0 rfl 0 rfl, hS105.cell 0 rfl 1 rfl, hS105.cell 0 rfl 2 rfl, hS105.cell 0 rfl 3 rfl, trivial⟩, forallC ?_ (forallN)⟩
    refine segF 6 [.v (iv ((rdD p0 x95 z_Tile).N)), .v (iv ((rdD p0 x95 z_Tile).E)), .v (iv ((rdD p0 x95 z_Tile).S)), .v (iv ((rdD p0 x95 z_Tile).W)), .v (iv p1.N), .v (iv p1.E), .v (iv p1.S), .v (iv p1.W)] [0, 3, 5, 17] [(0, (.slice A_p0 p0.length c_p0)), (3, (pt g76)), (5, (iv x95)), (17, (.bool (((rdD p0 x95 z_Tile).N) == p1.N && (((rdD p0 x95 z_Tile).E) == p1.E && (((rdD p0 x95 z_Tile).S) == p1.S && (((rdD p0 x95 z_Tile).W) == p1.W))))))] [.idx A_p0 x95 p0.length] [0, 1, 2, 3, 4, 5, 6, 7] [(3, ((adr A_p0).add ((x95).toNat * 4)), (iv ((rdD p0 x95 z_Tile).N))), (3, (((adr A_p0).add ((x95).toNat * 4)).add 1), (iv ((rdD p0 x95 z_Tile).E))), (3, (((adr A_p0).add ((x95).toNat * 4)).add 2), (iv ((rdD p0 x95 z_Tile).S))), (3, (((adr A_p0).add ((x95).toNat * 4)).add 3), (iv ((rdD p0 x95 z_Tile).W))), (4, ⟨g76, 0, none⟩, (iv p1.N)), (4, ⟨g76, 1, none⟩, (iv p1.E)), (4, ⟨g76, 2, none⟩, (iv p1.S)), (4, ⟨g76, 3, none⟩, (iv p1.W))] (fun fb => by kernel_rfl) rfl ⟨rowR.adr (hS105.rd 0).1 h107.1 h107.2, trivial⟩ rfl ?_
    refine WL.done rfl ?_
    refine WX.next ?_
    rcases br_some hl101 with ⟨h108, hl101⟩ | ⟨h108, hl101⟩
    ·refine WC.condT2 (fun fb => by kernel_rfl) h108 ?_
     refine WC.seq ?_
     refine WC.region ?_
     refine seg 2 [] [4] [(4, (iv x95))] [] (fun fb => by kernel_rfl) rfl trivial ?_
     refine WL.done rfl ?_
     refine WX.next ?_
     refine WC.ret ?_
     injection hl101 with hl101
     subst hl101
     injection hf with hf
     subst hf
     exact WX.blockR (WX.thenR (WX.thenR (WX.blockR (WX.thenR (WX.ret_ [] (iv x95) [] (fun fb => by kernel_rfl) trivial ⟨_, rfl, rfl, hS105.keep⟩)))))
    refine WC.condF2 (fun fb => by kernel_rfl) h108 ?_
    refine WC.skip ?_
    refine WX.blockN (WX.next ?_)
    refine WC.region ?_
    refine seg 3 [] [0, 3, 5] [(0, (.slice A_p0 p0.length c_p0)), (3, (pt g76)), (5, (iv (w64 (x95 + 1))))] [] (fun fb => by kernel_rfl) rfl trivial ?_
    refine WL.done rfl ?_
    exact WX.again k98 (Nat.lt_succ_self _) (w64 (x95 + 1)) [0, 3, 5] rfl ⟨(hS105.subR [0]).sub [0] (by decide), hl101⟩
   refine WC.condF2 (fun fb => by kernel_rfl) h102 ?_
   refine WC.exit ?_
   injection hl101 with hl101
   exact WX.thenX (WX.thenX (WX.blockHere (WX.to Kx96 () [] rfl ⟨(hS100.subR [0]).sub [] (by decide), hl101.symm⟩)))
 rintro y112 w109 ⟨hS110, hq111⟩
 subst hq111
 have hf := sum_inr hf
 refine WX.next ?_
 refine WC.seq ?_
 refine WC.region ?_
 refine seg 1 [] [4] [(4, (iv (-1)))] [] (fun fb => by kernel_rfl) rfl trivial ?_
 refine WL.done rfl ?_
 refine WX.next ?_
 refine WC.ret ?_
 injection hf with hf
 subst hf
 exact WX.ret_ [] (iv (-1)) [] (fun fb => by kernel_rfl) trivial ⟨_, rfl, rfl, hS110.keep⟩
theorem ref01_Valid_calls (k : Nat) (p0 : List Tile) (A_p0 : Option Addr) (c_p0 : Nat) (r : Bool) (w : World) (hR0 : RO NoS w (rowR enc_Tile A_p0 c_p0 p0)) (hf : ref01_Valid k p0 = some r) :
  CallsR Tryd.prog 15 #[(.slice A_p0 p0.length c_p0)] w (fun v w' => v = (.bool r) ∧ Keeps NoS w w') := by
 have hS : St NoS w w [rowR enc_Tile A_p0 c_p0 p0] [] := St.init (ro_cons hR0 (ro_nil _ _))
 refine enter 48 Tryd.func15 rfl Tryd.ntmps15 rfl ?_
 unfold ref01_Valid at hf
 refine WC.seq ?_
 refine WC.region ?_
 refine seg 1 [] [0] [(0, (.slice A_p0 p0.length c_p0))] [] (fun fb => by kernel_rfl) rfl trivial ?_
 refine WL.done rfl ?_
 refine WX.next ?_
 refine WC.seq ?_
 refine WC.seq ?_
 refine WC.region ?_
 refine seg 3 [] [0, 7] [(0, (.slice A_p0 p0.length c_p0)), (7, (.bool (decide ((p0.length : Int) > 1000))))] [] (fun fb => by kernel_rfl) rfl trivial ?_
 refine WL.done rfl ?_
 refine WX.next ?_
 rcases br_some hf with ⟨h1, hf⟩ | ⟨h1, hf⟩
 ·refine WC.condT2 (fun fb => by kernel_rfl) h1 ?_
  refine WC.seq ?_
  refine WC.region ?_
  refine seg 1 [] [2] [(2, (.bool false))] [] (fun fb => by kernel_rfl) rfl trivial ?_
  refine WL.done rfl ?_
  refine WX.next ?_
  refine WC.ret ?_
  injection hf with hf
  subst hf
  exact WX.thenR (WX.ret_ [] (.bool false) [] (fun fb => by kernel_rfl) trivial ⟨_, rfl, rfl, hS.keep⟩)
 refine WC.condF2 (fun fb => by kernel_rfl) h1 ?_
 refine WC.skip ?_
 refine WX.next ?_
 refine WC.seq ?_
 refine WC.seq ?_
 refine WC.region ?_
 refine seg 1 [] [0, 3] [(0, (.slice A_p0 p0.length c_p0)), (3, (iv 0))] [] (fun fb => by kernel_rfl) rfl trivial ?_
 refine WL.done rfl ?_
 refine WX.next ?_
 obtain ⟨x410, hx411, hf⟩ := bind_some hf
 refine WC.cutN (T := Unit) (fun t => []) (fun t w1 => St NoS w w1 [rowR enc_Tile A_p0 c_p0 p0] [] ∧ x410 = .inr t) (fun Kx410 => ?_) ?_
 ·
  refine WC.block ?_
  refine WC.loop (T := Int) (fun t => [(0, (.slice A_p0 p0.length c_p0)), (3, (iv t))]) (fun n t w1 => St NoS w w1 [rowR enc_Tile A_p0 c_p0 p0] [] ∧ ref01_Valid.l0 n t p0 = some x410) k 0 [0, 3] rfl ⟨(hS.subR [0]).sub [] (by decide), hx411⟩ ?_
  rintro k412 x409 w413 ⟨hS414, hl415⟩
  cases k412 with
  | zero => rw [ref01_Valid.l0] at hl415; cases hl415
  | succ k412 =>
   rw [ref01_Valid.l0] at hl415
   refine WC.seq ?_
   refine WC.seq ?_
   refine WC.region ?_
   refine seg 4 [] [0, 3, 11] [(0, (.slice A_p0 p0.length c_p0)), (3, (iv x409)), (11, (.bool (decide (x409 < (p0.length : Int)))))] [] (fun fb => by kernel_rfl) rfl trivial ?_
   refine WL.done rfl ?_
   refine WX.next ?_
   rcases br_some hl415 with ⟨h416, hl415⟩ | ⟨h416, hl415⟩
   ·refine WC.condT2 (fun fb => by kernel_rfl) h416 ?_
    refine WC.skip ?_
    refine WX.next ?_
    refine WC.seq ?_
    refine WC.block ?_
    refine WC.seq ?_
    refine WC.region ?_
    refine seg 2 [] [0, 3, 14, 15] [(0, (.slice A_p0 p0.length c_p0)), (3, (iv x409)), (14, (.slice A_p0 p0.length c_p0)), (15, (iv x409))] [] (fun fb => by kernel_rfl) rfl trivial ?_
    obtain ⟨h417, hl415⟩ := as_some hl415
    refine seg 4 [.v (iv ((rdD p0 x409 z_Tile).N)), .v (iv ((rdD p0 x409 z_Tile).E)), .v (iv ((rdD p0 x409 z_Tile).S)), .v (iv ((rdD p0 x409 z_Tile).W))] [0, 3, 17] [(0, (.slice A_p0 p0.length c_p0)), (3, (iv x409)), (17, (.agg #[(iv ((rdD p0 x409 z_Tile).N)), (iv ((rdD p0 x409 z_Tile).E)), (iv ((rdD p0 x409 z_Tile).S)), (iv ((rdD p0 x409 z_Tile).W))]))] [.idx A_p0 x409 p0.length, .cell ((adr A_p0).add ((x409).toNat * 4)) (iv ((rdD p0 x409 z_Tile).N)), .cell (((adr A_p0).add ((x409).toNat * 4)).add 1) (iv ((rdD p0 x409 z_Tile).E)), .cell (((adr A_p0).add ((x409).toNat * 4)).add 2) (iv ((rdD p0 x409 z_Tile).S)), .cell (((adr A_p0).add ((x409).toNat * 4)).add 3) (iv ((rdD p0 x409 z_Tile).W))] (fun fb => by kernel_rfl) rfl ⟨rowR.adr (hS414.rd 0).1 h417.1 h417.2, rowR.cell (hS414.rd 0).1 z_Tile h417.1 h417.2 0 rfl, rowR.cell (hS414.rd 0).1 z_Tile h417.1 h417.2 1 rfl, rowR.cell (hS414.rd 0).1 z_Tile h417.1 h417.2 2 rfl, rowR.cell (hS414.rd 0).1 z_Tile h417.1 h417.2 3 rfl, trivial⟩ ?_
    refine WL.new hS414 4 [] (fun g => (.pointer (some ⟨g, 0, none⟩))) (.cells #[(iv 0), (iv 0), (iv 0), (iv 0)] 40 (0, 0)) [] (fun fb g => by kernel_rfl) trivial (fun g418 w419 hS420 => ?_)
    refine ⟨trivial, ?_⟩
    refine WL.store hS420 0 rfl [(0, (iv ((rdD p0 x409 z_Tile).N))), (1, (iv ((rdD p0 x409 z_Tile).E))), (2, (iv ((rdD p0 x409 z_Tile).S))), (3, (iv ((rdD p0 x409 z_Tile).W)))] #[(iv ((rdD p0 x409 z_Tile).N)), (iv ((rdD p0 x409 z_Tile).E)), (iv ((rdD p0 x409 z_Tile).S)), (iv ((rdD p0 x409 z_Tile).W))] (fun fb => by kernel_rfl) (by kernel_rfl) rfl [] (by decide) (by decide) (fun w422 hS423 => ?_)
    refine ⟨trivial, ?_⟩
    refine WL.done rfl ?_
    refine WX.next ?_
    refine WC.seq ?_
    refine WC.regionD ([(1, ⟨g418, 0, none⟩, (iv ((rdD p0 x409 z_Tile).N))), (6, ⟨g418, 1, none⟩, (iv ((rdD p0 x409 z_Tile).E))), (12, ⟨g418, 2, none⟩, (iv ((rdD p0 x409 z_Tile).S))), (18, ⟨g418, 3, none⟩, (iv ((rdD p0 x409 z_Tile).W))), (26, ⟨g418, 0, none⟩, (iv ((rdD p0 x409 z_Tile).N))), (26, ⟨g418, 1, none⟩, (iv ((rdD p0 x409 z_Tile).E))), (26, ⟨g418, 2, none⟩, (iv ((rdD p0 x409 z_Tile).S))), (26, ⟨g418, 3, none⟩, (iv ((rdD p0 x409 z_Tile).W)))], [0, 1, 3, 4, 5, 6, 8, 9, 10, 11, 12, 14, 15, 16, 17, 18, 20, 21, 22, 23, 24, 25, 26, 28, 29], [[], [0], [0, 1], [0, 1, 2], [0, 1, 2, 3], [0, 1, 2, 3, 4], [0, 1, 2, 3, 4, 5], [0, 1, 2, 3, 4, 5, 6], [0, 1, 2, 3, 4, 5, 6, 7], [0, 1, 2, 3, 4, 5, 6, 7, 8], [0, 1, 2, 3, 4, 5, 6, 7, 8, 9], [0, 1, 2, 3, 4, 5, 6, 7, 8, 9, 10], [0, 1, 2, 3, 4, 5, 6, 7, 8, 9, 10, 11], [0, 1, 2, 3, 4, 5, 6, 7, 8, 9, 10, 11, 12], [0, 1, 2, 3, 4, 5, 6, 7, 8, 9, 10, 11, 12, 13], [0, 1, 2, 3, 4, 5, 6, 7, 8, 9, 10, 11, 12, 13, 14], [0, 1, 2, 3, 4, 5, 6, 7, 8, 9, 10, 11, 12, 13, 14, 15], [0, 1, 2, 3, 4, 5, 6, 7, 8, 9, 10, 11, 12, 13, 14, 15, 16], [0, 1, 2, 3, 4, 5, 6, 7, 8, 9, 10, 11, 12, 13, 14, 15, 16, 17], [0, 1, 2, 3, 4, 5, 6, 7, 8, 9, 10, 11, 12, 13, 14, 15, 16, 17, 18], [0, 1, 2, 3, 4, 5, 6, 7, 8, 9, 10, 11, 12, 13, 14, 15, 16, 17, 18, 19], [0, 1, 2, 3, 4, 5, 6, 7, 8, 9, 10, 11, 12, 13, 14, 15, 16, 17, 18, 19, 20], [0, 1, 2, 3, 4, 5, 6, 7, 8, 9, 10, 11, 12, 13, 14, 15, 16, 17, 18, 19, 20, 21], [0, 1, 2, 3, 4, 5, 6, 7, 8, 9, 10, 11, 12, 13, 14, 15, 16, 17, 18, 19, 20, 21, 22], [0, 1, 2, 3, 4, 5, 6, 7, 8, 9, 10, 11, 12, 13, 14, 15, 16, 17, 18, 19, 20, 21, 22], [0, 1, 2, 3, 4, 5, 6, 7, 8, 9, 10, 11, 12, 13, 14, 15, 16, 17, 18, 19, 20, 21, 22, 23, 24], [0, 1, 2, 3, 4, 5, 6, 7, 8, 9, 10, 11, 12, 13, 14, 15, 16, 17, 18, 19, 20, 21, 22], [0, 1, 2, 3, 4, 5, 6, 7, 8, 9, 10, 11, 12, 13, 14, 15, 16, 17, 18, 19, 20, 21, 22, 23, 24, 25, 26], [0, 1, 2, 3, 4, 5, 6, 7, 8, 9, 10, 11, 12, 13, 14, 15, 16, 17, 18, 19, 20, 21, 22, 23, 24, 25, 26, 27], [0, 1, 2, 3, 4, 5, 6, 7, 8, 9, 10, 11, 12, 13, 14, 15, 16, 17, 18, 19, 20, 21, 22, 23, 24, 25, 26, 27, 28]]) [[0, 1, 2, 3, 4, 5, 6, 7, 8, 9, 10, 11, 12, 13, 14, 15, 16, 17, 18, 19, 20, 21, 22, 23, 24, 25, 26, 27, 28, 29]] (by kernel_rfl) (by kernel_rfl) (NoPanic.seq (NoPanic.block (NoPanic.seq (NoPanic.seq (NoPanic.block (NoPanic.seq (NoPanic.body))))))) ?_
    have hS510 := hS423.drew
    revert hS510
    generalize World.drew w422 = w509
    intro hS510
    refine ⟨⟨hS510.cell 0 rfl 0 rfl, hS510.cell 0 rfl 1 rfl, hS510.cell 0 rfl 2 rfl, hS510.cell 0 rfl 3 rfl, hS510.cell 0 rfl 0 rfl, hS510.cell 0 rfl 1 rfl, hS510.cell 0 rfl 2 rfl, hS510.cell 0 rfl 3 rfl, trivial⟩, forallC ?_ (forallN)⟩
    refine segF 2 [.v (iv ((rdD p0 x409 z_Tile).N))] [0, 3, 4, 19] [(0, (.slice A_p0 p0.length c_p0)), (3, (iv x409)), (4, (pt g418)), (19, (iv ((rdD p0 x409 z_Tile).N)))] [] [0] [(1, ⟨g418, 0, none⟩, (iv ((rdD p0 x409 z_Tile).N)))] (fun fb => by kernel_rfl) rfl trivial rfl ?_
    obtain ⟨t513, ht514, hl415⟩ := bind_some hl415
    refine WL.call (some 20) 50 #[(iv ((rdD p0 x409 z_Tile).N))] (fun fb => by kernel_rfl) (ref01_colour_calls ((rdD p0 x409 z_Tile).N) t513 _ ht514) (fun v w515 hR516 => ?_)
    obtain ⟨rfl, hk_⟩ := hR516
    have hS517 := hS510.keepN hk_
    refine ⟨⟨hS517.cell 0 rfl 1 rfl, hS517.cell 0 rfl 2 rfl, hS517.cell 0 rfl 3 rfl, hS517.cell 0 rfl 0 rfl, hS517.cell 0 rfl 1 rfl, hS517.cell 0 rfl 2 rfl, hS517.cell 0 rfl 3 rfl, trivial⟩, ?_⟩
    refine seg 5 [] [0, 3, 4, 22] [(0, (.slice A_p0 p0.length c_p0)), (3, (iv x409)), (4, (pt g418)), (22, (.bool (!t513)))] [] (fun fb => by kernel_rfl) rfl trivial ?_
    obtain ⟨x524, hx525, hl415⟩ := bind_some hl415
    refine WL.cutW (T := Bool) 10 (fun t => [(0, (.slice A_p0 p0.length c_p0)), (3, (iv x409)), (4, (pt g418)), (27, (.bool t))]) (fun t w1 => (St NoS w w1 [rowR enc_Tile A_p0 c_p0 p0] [blk g418 (.cells #[(iv ((rdD p0 x409 z_Tile).N)), (iv ((rdD p0 x409 z_Tile).E)), (iv ((rdD p0 x409 z_Tile).S)), (iv ((rdD p0 x409 z_Tile).W))] 40 (0, 0))] ∧ x524 = t) ∧ CellsOK [] w1) (fun K => ?_) ?_
    ·
     rcases br_some hx525 with ⟨h526, hx525⟩ | ⟨h526, hx525⟩
     ·
      refine WL.setB 22 h526 rfl ?_
      refine seg 10 [] [0, 3, 4, 27] [(0, (.slice A_p0 p0.length c_p0)), (3, (iv x409)), (4, (pt g418)), (27, (.bool true))] [] (fun fb => by kernel_rfl) rfl trivial ?_
      injection hx525 with hx525
      exact WL.to K true [0, 3, 4, 27] rfl ⟨⟨(hS517.subR [0]).sub [0] (by decide), hx525.symm⟩, trivial⟩
     refine WL.setB 22 h526 rfl ?_
     refine segF 7 [.v (iv ((rdD p0 x409 z_Tile).E))] [0, 3, 4, 22, 24] [(0, (.slice A_p0 p0.length c_p0)), (3, (iv x409)), (4, (pt g418)), (22, (.bool false)), (24, (iv ((rdD p0 x409 z_Tile).E)))] [] [1] [(6, ⟨g418, 1, none⟩, (iv ((rdD p0 x409 z_Tile).E)))] (fun fb => by kernel_rfl) rfl trivial rfl ?_
     obtain ⟨t527, ht528, hx525⟩ := bind_some hx525
     refine WL.call (some 25) 50 #[(iv ((rdD p0 x409 z_Tile).E))] (fun fb => by kernel_rfl) (ref01_colour_calls ((rdD p0 x409 z_Tile).E) t527 _ ht528) (fun v w529 hR530 => ?_)
     obtain ⟨rfl, hk_⟩ := hR530
     have hS531 := hS517.keepN hk_
     refine ⟨⟨hS531.cell 0 rfl 2 rfl, hS531.cell 0 rfl 3 rfl, hS531.cell 0 rfl 0 rfl, hS531.cell 0 rfl 1 rfl, hS531.cell 0 rfl 2 rfl, hS531.cell 0 rfl 3 rfl, trivial⟩, ?_⟩
     refine seg 10 [] [0, 3, 4, 27] [(0, (.slice A_p0 p0.length c_p0)), (3, (iv x409)), (4, (pt g418)), (27, (.bool (!t527)))] [] (fun fb => by kernel_rfl) rfl trivial ?_
     injection hx525 with hx525
     exact WL.to K (!t527) [0, 3, 4, 27] rfl ⟨⟨(hS531.subR [0]).sub [0] (by decide), hx525.symm⟩, trivial⟩
    rintro y532 w534 ⟨⟨hS535, hq533⟩, hF536⟩
    subst hq533
    refine seg 11 [] [0, 3, 4, 28] [(0, (.slice A_p0 p0.length c_p0)), (3, (iv x409)), (4, (pt g418)), (28, (.bool x524))] [] (fun fb => by kernel_rfl) rfl trivial ?_
    obtain ⟨x543, hx544, hl415⟩ := bind_some hl415
    refine WL.cutW (T := Bool) 16 (fun t => [(0, (.slice A_p0 p0.length c_p0)), (3, (iv x409)), (4, (pt g418)), (33, (.bool t))]) (fun t w1 => (St NoS w w1 [rowR enc_Tile A_p0 c_p0 p0] [blk g418 (.cells #[(iv ((rdD p0 x409 z_Tile).N)), (iv ((rdD p0 x409 z_Tile).E)), (iv ((rdD p0 x409 z_Tile).S)), (iv ((rdD p0 x409 z_Tile).W))] 40 (0, 0))] ∧ x543 = t) ∧ CellsOK [] w1) (fun K => ?_) ?_
    ·
     rcases br_some hx544 with ⟨h545, hx544⟩ | ⟨h545, hx544⟩
     ·
      refine WL.setB 28 h545 rfl ?_
      refine seg 16 [] [0, 3, 4, 33] [(0, (.slice A_p0 p0.length c_p0)), (3, (iv x409)), (4, (pt g418)), (33, (.bool true))] [] (fun fb => by kernel_rfl) rfl trivial ?_
      injection hx544 with hx544
      exact WL.to K true [0, 3, 4, 33] rfl ⟨⟨(hS535.subR [0]).sub [0] (by decide), hx544.symm⟩, trivial⟩
     refine WL.setB 28 h545 rfl ?_
     refine segF 13 [.v (iv ((rdD p0 x409 z_Tile).S))] [0, 3, 4, 28, 30] [(0, (.slice A_p0 p0.length c_p0)), (3, (iv x409)), (4, (pt g418)), (28, (.bool false)), (30, (iv ((rdD p0 x409 z_Tile).S)))] [] [2] [(12, ⟨g418, 2, none⟩, (iv ((rdD p0 x409 z_Tile).S)))] (fun fb => by kernel_rfl) rfl trivial rfl ?_
     obtain ⟨t546, ht547, hx544⟩ := bind_some hx544
     refine WL.call (some 31) 50 #[(iv ((rdD p0 x409 z_Tile).S))] (fun fb => by kernel_rfl) (ref01_colour_calls ((rdD p0 x409 z_Tile).S) t546 _ ht547) (fun v w548 hR549 => ?_)
     obtain ⟨rfl, hk_⟩ := hR549
     have hS550 := hS535.keepN hk_
     refine ⟨⟨hS550.cell 0 rfl 3 rfl, hS550.cell 0 rfl 0 rfl, hS550.cell 0 rfl 1 rfl, hS550.cell 0 rfl 2 rfl, hS550.cell 0 rfl 3 rfl, trivial⟩, ?_⟩
     refine seg 16 [] [0, 3, 4, 33] [(0, (.slice A_p0 p0.length c_p0)), (3, (iv x409)), (4, (pt g418)), (33, (.bool (!t546)))] [] (fun fb => by kernel_rfl) rfl trivial ?_
     injection hx544 with hx544
     exact WL.to K (!t546) [0, 3, 4, 33] rfl ⟨⟨(hS550.subR [0]).sub [0] (by decide), hx544.symm⟩, trivial⟩
    rintro y551 w553 ⟨⟨hS554, hq552⟩, hF555⟩
    subst hq552
    refine seg 17 [] [0, 3, 4, 34] [(0, (.slice A_p0 p0.length c_p0)), (3, (iv x409)), (4, (pt g418)), (34, (.bool x543))] [] (fun fb => by kernel_rfl) rfl trivial ?_
    obtain ⟨x562, hx563, hl415⟩ := bind_some hl415
    refine WL.cutW (T := Bool) 22 (fun t => [(0, (.slice A_p0 p0.length c_p0)), (3, (iv x409)), (4, (pt g418)), (39, (.bool t))]) (fun t w1 => (St NoS w w1 [rowR enc_Tile A_p0 c_p0 p0] [blk g418 (.cells #[(iv ((rdD p0 x409 z_Tile).N)), (iv ((rdD p0 x409 z_Tile).E)), (iv ((rdD p0 x409 z_Tile).S)), (iv ((rdD p0 x409 z_Tile).W))] 40 (0, 0))] ∧ x562 = t) ∧ CellsOK [] w1) (fun K => ?_) ?_
    ·
     rcases br_some hx563 with ⟨h564, hx563⟩ | ⟨h564, hx563⟩
     ·
      refine WL.setB 34 h564 rfl ?_
      refine seg 22 [] [0, 3, 4, 39] [(0, (.slice A_p0 p0.length c_p0)), (3, (iv x409)), (4, (pt g418)), (39, (.bool true))] [] (fun fb => by kernel_rfl) rfl trivial ?_
      injection hx563 with hx563
      exact WL.to K true [0, 3, 4, 39] rfl ⟨⟨(hS554.subR [0]).sub [0] (by decide), hx563.symm⟩, trivial⟩
     refine WL.setB 34 h564 rfl ?_
     refine segF 19 [.v (iv ((rdD p0 x409 z_Tile).W))] [0, 3, 4, 34, 36] [(0, (.slice A_p0 p0.length c_p0)), (3, (iv x409)), (4, (pt g418)), (34, (.bool false)), (36, (iv ((rdD p0 x409 z_Tile).W)))] [] [3] [(18, ⟨g418, 3, none⟩, (iv ((rdD p0 x409 z_Tile).W)))] (fun fb => by kernel_rfl) rfl trivial rfl ?_
     obtain ⟨t565, ht566, hx563⟩ := bind_some hx563
     refine WL.call (some 37) 50 #[(iv ((rdD p0 x409 z_Tile).W))] (fun fb => by kernel_rfl) (ref01_colour_calls ((rdD p0 x409 z_Tile).W) t565 _ ht566) (fun v w567 hR568 => ?_)
     obtain ⟨rfl, hk_⟩ := hR568
     have hS569 := hS554.keepN hk_
     refine ⟨⟨hS569.cell 0 rfl 0 rfl, hS569.cell 0 rfl 1 rfl, hS569.cell 0 rfl 2 rfl, hS569.cell 0 rfl 3 rfl, trivial⟩, ?_⟩
     refine seg 22 [] [0, 3, 4, 39] [(0, (.slice A_p0 p0.length c_p0)), (3, (iv x409)), (4, (pt g418)), (39, (.bool (!t565)))] [] (fun fb => by kernel_rfl) rfl trivial ?_
     injection hx563 with hx563
     exact WL.to K (!t565) [0, 3, 4, 39] rfl ⟨⟨(hS569.subR [0]).sub [0] (by decide), hx563.symm⟩, trivial⟩
    rintro y570 w572 ⟨⟨hS573, hq571⟩, hF574⟩
    subst hq571
    refine seg 23 [] [0, 3, 4, 40] [(0, (.slice A_p0 p0.length c_p0)), (3, (iv x409)), (4, (pt g418)), (40, (.bool x562))] [] (fun fb => by kernel_rfl) rfl trivial ?_
    obtain ⟨x583, hx584, hl415⟩ := bind_some hl415
    refine WL.cutW (T := Bool) 30 (fun t => [(0, (.slice A_p0 p0.length c_p0)), (3, (iv x409)), (47, (.bool t))]) (fun t w1 => (St NoS w w1 [rowR enc_Tile A_p0 c_p0 p0] [] ∧ x583 = t) ∧ CellsOK [] w1) (fun K => ?_) ?_
    ·
     rcases br_some hx584 with ⟨h585, hx584⟩ | ⟨h585, hx584⟩
     ·
      refine WL.setB 40 h585 rfl ?_
      refine seg 30 [] [0, 3, 47] [(0, (.slice A_p0 p0.length c_p0)), (3, (iv x409)), (47, (.bool true))] [] (fun fb => by kernel_rfl) rfl trivial ?_
      injection hx584 with hx584
      exact WL.to K true [0, 3, 47] rfl ⟨⟨(hS573.subR [0]).sub [] (by decide), hx584.symm⟩, trivial⟩
     refine WL.setB 40 h585 rfl ?_
     refine seg 25 [] [0, 3, 4, 40, 41, 42] [(0, (.slice A_p0 p0.length c_p0)), (3, (iv x409)), (4, (pt g418)), (40, (.bool false)), (41, (.slice A_p0 p0.length c_p0)), (42, (iv x409))] [] (fun fb => by kernel_rfl) rfl trivial ?_
     obtain ⟨h586, hx584⟩ := as_some hx584
     refine seg 26 [] [0, 3, 4, 40, 43] [(0, (.slice A_p0 p0.length c_p0)), (3, (iv x409)), (4, (pt g418)), (40, (.bool false)), (43, (.slice (subA A_p0 c_p0 (0 : Int).toNat 4) (x409.toNat - (0 : Int).toNat) (c_p0 - (0 : Int).toNat)))] [.idx (some ⟨0, 0, none⟩) (0 : Int) (x409.toNat + 1), .idx (some ⟨0, 0, none⟩) x409 (c_p0 + 1)] (fun fb => by kernel_rfl) rfl ⟨cut1 h586.1 h586.2.1, cut2 h586.1 h586.2.1 h586.2.2 (hS573.rd 0).1.2, trivial⟩ ?_
     refine WL.reE [0, 3, 4, 40, 43] [(0, (.slice A_p0 p0.length c_p0)), (3, (iv x409)), (4, (pt g418)), (40, (.bool false)), (43, (.slice (subA A_p0 c_p0 (0 : Int).toNat 4) (x409.toNat - (0 : Int).toNat) (c_p0 - (0 : Int).toNat)))] [(0, (.slice A_p0 p0.length c_p0)), (3, (iv x409)), (4, (pt g418)), (40, (.bool false)), (43, (.slice (subA A_p0 c_p0 (0 : Int).toNat 4) (cut p0 (0 : Int) x409).length (c_p0 - (0 : Int).toNat)))] rfl (by rw [cut_length h586.1 h586.2.1 h586.2.2]) ?_
     have hS587 := hS573.cutR 0 rfl h586.1 h586.2.1 h586.2.2
     refine segF 27 [.v (iv ((rdD p0 x409 z_Tile).N)), .v (iv ((rdD p0 x409 z_Tile).E)), .v (iv ((rdD p0 x409 z_Tile).S)), .v (iv ((rdD p0 x409 z_Tile).W))] [0, 3, 40, 43, 44] [(0, (.slice A_p0 p0.length c_p0)), (3, (iv x409)), (40, (.bool false)), (43, (.slice (subA A_p0 c_p0 (0 : Int).toNat 4) (cut p0 (0 : Int) x409).length (c_p0 - (0 : Int).toNat))), (44, (.agg #[(iv ((rdD p0 x409 z_Tile).N)), (iv ((rdD p0 x409 z_Tile).E)), (iv ((rdD p0 x409 z_Tile).S)), (iv ((rdD p0 x409 z_Tile).W))]))] [] [4, 5, 6, 7] [(26, ⟨g418, 0, none⟩, (iv ((rdD p0 x409 z_Tile).N))), (26, ⟨g418, 1, none⟩, (iv ((rdD p0 x409 z_Tile).E))), (26, ⟨g418, 2, none⟩, (iv ((rdD p0 x409 z_Tile).S))), (26, ⟨g418, 3, none⟩, (iv ((rdD p0 x409 z_Tile).W)))] (fun fb => by kernel_rfl) rfl trivial rfl ?_
     obtain ⟨t588, ht589, hx584⟩ := bind_some hx584
     refine WL.call (some 45) 51 #[(.slice (subA A_p0 c_p0 (0 : Int).toNat 4) (cut p0 (0 : Int) x409).length (c_p0 - (0 : Int).toNat)), (.agg #[(iv ((rdD p0 x409 z_Tile).N)), (iv ((rdD p0 x409 z_Tile).E)), (iv ((rdD p0 x409 z_Tile).S)), (iv ((rdD p0 x409 z_Tile).W))])] (fun fb => by kernel_rfl) (ref01_Index_calls _ (cut p0 (0 : Int) x409) (rdD p0 x409 z_Tile) (subA A_p0 c_p0 (0 : Int).toNat 4) (c_p0 - (0 : Int).toNat) t588 _ (hS587.rd 0) ht589) (fun v w590 hR591 => ?_)
     obtain ⟨rfl, hk_⟩ := hR591
     have hS592 := hS587.keepN hk_
     refine ⟨trivial, ?_⟩
     refine seg 30 [] [0, 3, 47] [(0, (.slice A_p0 p0.length c_p0)), (3, (iv x409)), (47, (.bool (decide (t588 ≥ 0))))] [] (fun fb => by kernel_rfl) rfl trivial ?_
     injection hx584 with hx584
     exact WL.to K (decide (t588 ≥ 0)) [0, 3, 47] rfl ⟨⟨(hS592.subR [1]).sub [] (by decide), hx584.symm⟩, trivial⟩
    rintro y593 w595 ⟨⟨hS596, hq594⟩, hF597⟩
    subst hq594
    refine WL.done rfl ?_
    refine WX.next ?_
    rcases br_some hl415 with ⟨h598, hl415⟩ | ⟨h598, hl415⟩
    ·refine WC.condT2 (fun fb => by kernel_rfl) h598 ?_
     refine WC.seq ?_
     refine WC.region ?_
     refine seg 1 [] [2] [(2, (.bool false))] [] (fun fb => by kernel_rfl) rfl trivial ?_
     refine WL.done rfl ?_
     refine WX.next ?_
     refine WC.ret ?_
     injection hl415 with hl415
     subst hl415
     injection hf with hf
     subst hf
     exact WX.blockR (WX.thenR (WX.thenR (WX.blockR (WX.thenR (WX.ret_ [] (.bool false) [] (fun fb => by kernel_rfl) trivial ⟨_, rfl, rfl, hS596.keep⟩)))))
    refine WC.condF2 (fun fb => by kernel_rfl) h598 ?_
    refine WC.skip ?_
    refine WX.blockN (WX.next ?_)
    refine WC.region ?_
    refine seg 3 [] [0, 3] [(0, (.slice A_p0 p0.length c_p0)), (3, (iv (w64 (x409 + 1))))] [] (fun fb => by kernel_rfl) rfl trivial ?_
    refine WL.done rfl ?_
    exact WX.again k412 (Nat.lt_succ_self _) (w64 (x409 + 1)) [0, 3] rfl ⟨(hS596.subR [0]).sub [] (by decide), hl415⟩
   refine WC.condF2 (fun fb => by kernel_rfl) h416 ?_
   refine WC.exit ?_
   injection hl415 with hl415
   exact WX.thenX (WX.thenX (WX.blockHere (WX.to Kx410 () [] rfl ⟨(hS414.subR [0]).sub [] (by decide), hl415.symm⟩)))
 rintro y602 w599 ⟨hS600, hq601⟩
 subst hq601
 have hf := sum_inr hf
 refine WX.next ?_
 refine WC.seq ?_
 refine WC.region ?_
 refine seg 1 [] [2] [(2, (.bool true))] [] (fun fb => by kernel_rfl) rfl trivial ?_
 refine WL.done rfl ?_
 refine WX.next ?_
 refine WC.ret ?_
 injection hf with hf
 subst hf
 exact WX.ret_ [] (.bool true) [] (fun fb => by kernel_rfl) trivial ⟨_, rfl, rfl, hS600.keep⟩
theorem tile_colour_1_calls (p0 : Int)  (r : Bool) (w : World)  (hf : tile_colour_1 p0 = some r) :
  CallsR Tryd.prog 96 #[(iv p0)] w (fun v w' => v = (.bool r) ∧ Keeps NoS w w') := by
 have hS : St NoS w w [] [] := St.init (ro_nil _ _)
 refine enter 9 Tryd.func96 rfl Tryd.ntmps96 rfl ?_
 unfold tile_colour_1 at hf
 refine WC.seq ?_
 refine WC.region ?_
 refine seg 1 [] [0] [(0, (iv p0))] [] (fun fb => by kernel_rfl) rfl trivial ?_
 refine WL.done rfl ?_
 refine WX.next ?_
 refine WC.seq ?_
 refine WC.region ?_
 refine seg 3 [] [0, 5] [(0, (iv p0)), (5, (.bool (decide (p0 < 0))))] [] (fun fb => by kernel_rfl) rfl trivial ?_
 refine WL.cutV (T := Bool) 6 (fun t => [(8, (.bool t))]) (fun t => ((decide (p0 < 0)) || (decide (p0 ≥ 1000))) = t) (fun K => ?_) ?_
 ·
  rcases Bool.eq_false_or_eq_true (decide (p0 < 0)) with h1032 | h1032
  ·
   refine WL.setB 5 h1032 rfl ?_
   refine seg 6 [] [8] [(8, (.bool true))] [] (fun fb => by kernel_rfl) rfl trivial ?_
   exact WL.toV K true [8] rfl (by first | (rw [h1032]; done) | (rw [h1032]; rfl))
  refine WL.setB 5 h1032 rfl ?_
  refine seg 6 [] [8] [(8, (.bool (decide (p0 ≥ 1000))))] [] (fun fb => by kernel_rfl) rfl trivial ?_
  exact WL.toV K (decide (p0 ≥ 1000)) [8] rfl (by first | (rw [h1032]; done) | (rw [h1032]; rfl))
 rintro b1033 rfl
 refine seg 7 [] [2] [(2, (.bool ((decide (p0 < 0)) || (decide (p0 ≥ 1000)))))] [] (fun fb => by kernel_rfl) rfl trivial ?_
 refine WL.done rfl ?_
 refine WX.next ?_
 refine WC.ret ?_
 injection hf with hf
 subst hf
 exact WX.ret_ [] (.bool ((decide (p0 < 0)) || (decide (p0 ≥ 1000)))) [] (fun fb => by kernel_rfl) trivial ⟨_, rfl, rfl, hS.keep⟩
theorem slices_IndexFunc_int_int_with_tile_colour_1_calls (k : Nat) (p0 : List Int) (A_p0 : Option Addr) (c_p0 : Nat) (r : Int) (w : World) (hR0 : RO NoS w (rowR encInt A_p0 c_p0 p0)) (hf : slices_IndexFunc_int_int_with_tile_colour_1 k p0 = some r) :
  CallsR Tryd.prog 99 #[(.slice A_p0 p0.length c_p0), (.func (.func 96) #[] #[])] w (fun v w' => v = (iv r) ∧ Keeps NoS w w') := by
 have hS : St NoS w w [rowR encInt A_p0 c_p0 p0] [] := St.init (ro_cons hR0 (ro_nil _ _))
 refine enter 19 Tryd.func99 rfl Tryd.ntmps99 rfl ?_
 unfold slices_IndexFunc_int_int_with_tile_colour_1 at hf
 refine WC.seq ?_
 refine WC.region ?_
 refine seg 1 [] [0, 1] [(0, (.slice A_p0 p0.length c_p0)), (1, (.func (.func 96) #[] #[]))] [] (fun fb => by kernel_rfl) rfl trivial ?_
 refine WL.done rfl ?_
 refine WX.next ?_
 refine WC.seq ?_
 refine WC.seq ?_
 refine WC.region ?_
 refine seg 3 [] [0, 1, 7, 8] [(0, (.slice A_p0 p0.length c_p0)), (1, (.func (.func 96) #[] #[])), (7, (iv (p0.length : Int))), (8, (iv 0))] [] (fun fb => by kernel_rfl) rfl trivial ?_
 refine WL.done rfl ?_
 refine WX.next ?_
 obtain ⟨x1050, hx1051, hf⟩ := bind_some hf
 refine WC.cutN (T := Unit) (fun t => []) (fun t w1 => St NoS w w1 [rowR encInt A_p0 c_p0 p0] [] ∧ x1050 = .inr t) (fun Kx1050 => ?_) ?_
 ·
  refine WC.block ?_
  refine WC.loop (T := Int) (fun t => [(0, (.slice A_p0 p0.length c_p0)), (1, (.func (.func 96) #[] #[])), (7, (iv (p0.length : Int))), (8, (iv t))]) (fun n t w1 => St NoS w w1 [rowR encInt A_p0 c_p0 p0] [] ∧ slices_IndexFunc_int_int_with_tile_colour_1.l0 n t p0 = some x1050) k 0 [0, 1, 7, 8] rfl ⟨(hS.subR [0]).sub [] (by decide), hx1051⟩ ?_
  rintro k1052 x1049 w1053 ⟨hS1054, hl1055⟩
  cases k1052 with
  | zero => rw [slices_IndexFunc_int_int_with_tile_colour_1.l0] at hl1055; cases hl1055
  | succ k1052 =>
   rw [slices_IndexFunc_int_int_with_tile_colour_1.l0] at hl1055
   refine WC.seq ?_
   refine WC.region ?_
   refine seg 1 [] [0, 1, 7, 8, 9] [(0, (.slice A_p0 p0.length c_p0)), (1, (.func (.func 96) #[] #[])), (7, (iv (p0.length : Int))), (8, (iv x1049)), (9, (.bool (decide (x1049 < (p0.length : Int)))))] [] (fun fb => by kernel_rfl) rfl trivial ?_
   refine WL.done rfl ?_
   refine WX.next ?_
   refine WC.seq ?_
   rcases br_some hl1055 with ⟨h1056, hl1055⟩ | ⟨h1056, hl1055⟩
   ·refine WC.condT2 (fun fb => by kernel_rfl) h1056 ?_
    refine WC.skip ?_
    refine WX.next ?_
    refine WC.seq ?_
    refine WC.block ?_
    refine WC.seq ?_
    refine WC.region ?_
    refine seg 2 [] [0, 1, 5, 7, 8] [(0, (.slice A_p0 p0.length c_p0)), (1, (.func (.func 96) #[] #[])), (5, (iv x1049)), (7, (iv (p0.length : Int))), (8, (iv x1049))] [] (fun fb => by kernel_rfl) rfl trivial ?_
    refine WL.done rfl ?_
    refine WX.next ?_
    refine WC.seq ?_
    refine WC.region ?_
    refine seg 3 [] [0, 1, 5, 7, 8, 11, 12, 13] [(0, (.slice A_p0 p0.length c_p0)), (1, (.func (.func 96) #[] #[])), (5, (iv x1049)), (7, (iv (p0.length : Int))), (8, (iv x1049)), (11, (.func (.func 96) #[] #[])), (12, (.slice A_p0 p0.length c_p0)), (13, (iv x1049))] [] (fun fb => by kernel_rfl) rfl trivial ?_
    obtain ⟨h1057, hl1055⟩ := as_some hl1055
    refine seg 5 [.v (iv (rdD p0 x1049 0))] [0, 1, 5, 7, 8, 11, 15] [(0, (.slice A_p0 p0.length c_p0)), (1, (.func (.func 96) #[] #[])), (5, (iv x1049)), (7, (iv (p0.length : Int))), (8, (iv x1049)), (11, (.func (.func 96) #[] #[])), (15, (iv (rdD p0 x1049 0)))] [.idx A_p0 x1049 p0.length, .cell ((adr A_p0).add ((x1049).toNat * 1)) (iv (rdD p0 x1049 0))] (fun fb => by kernel_rfl) rfl ⟨rowR.adr (hS1054.rd 0).1 h1057.1 h1057.2, rowR.cell (hS1054.rd 0).1 0 h1057.1 h1057.2 0 rfl, trivial⟩ ?_
    obtain ⟨t1058, ht1059, hl1055⟩ := bind_some hl1055
    refine WL.call (some 16) 96 #[(iv (rdD p0 x1049 0))] (fun fb => by kernel_rfl) (tile_colour_1_calls (rdD p0 x1049 0) t1058 _ ht1059) (fun v w1060 hR1061 => ?_)
    obtain ⟨rfl, hk_⟩ := hR1061
    have hS1062 := hS1054.keepN hk_
    refine ⟨trivial, ?_⟩
    refine WL.done rfl ?_
    refine WX.next ?_
    rcases br_some hl1055 with ⟨h1063, hl1055⟩ | ⟨h1063, hl1055⟩
    ·refine WC.condT2 (fun fb => by kernel_rfl) h1063 ?_
     refine WC.seq ?_
     refine WC.region ?_
     refine seg 2 [] [4] [(4, (iv x1049))] [] (fun fb => by kernel_rfl) rfl trivial ?_
     refine WL.done rfl ?_
     refine WX.next ?_
     refine WC.ret ?_
     injection hl1055 with hl1055
     subst hl1055
     injection hf with hf
     subst hf
     exact WX.blockR (WX.thenR (WX.thenR (WX.blockR (WX.thenR (WX.ret_ [] (iv x1049) [] (fun fb => by kernel_rfl) trivial ⟨_, rfl, rfl, hS1062.keep⟩)))))
    refine WC.condF2 (fun fb => by kernel_rfl) h1063 ?_
    refine WC.skip ?_
    refine WX.blockN (WX.next ?_)
    refine WC.region ?_
    refine seg 2 [] [0, 1, 7, 8] [(0, (.slice A_p0 p0.length c_p0)), (1, (.func (.func 96) #[] #[])), (7, (iv (p0.length : Int))), (8, (iv (w64 (x1049 + 1))))] [] (fun fb => by kernel_rfl) rfl trivial ?_
    refine WL.done rfl ?_
    exact WX.again k1052 (Nat.lt_succ_self _) (w64 (x1049 + 1)) [0, 1, 7, 8] rfl ⟨(hS1062.subR [0]).sub [] (by decide), hl1055⟩
   refine WC.condF2 (fun fb => by kernel_rfl) h1056 ?_
   refine WC.exit ?_
   injection hl1055 with hl1055
   exact WX.thenX (WX.thenX (WX.blockHere (WX.to Kx1050 () [] rfl ⟨(hS1054.subR [0]).sub [] (by decide), hl1055.symm⟩)))
 rintro y1067 w1064 ⟨hS1065, hq1066⟩
 subst hq1066
 have hf := sum_inr hf
 refine WX.next ?_
 refine WC.seq ?_
 refine WC.region ?_
 refine seg 1 [] [4] [(4, (iv (-1)))] [] (fun fb => by kernel_rfl) rfl trivial ?_
 refine WL.done rfl ?_
 refine WX.next ?_
 refine WC.ret ?_
 injection hf with hf
 subst hf
 exact WX.ret_ [] (iv (-1)) [] (fun fb => by kernel_rfl) trivial ⟨_, rfl, rfl, hS1065.keep⟩
theorem slices_ContainsFunc_int_int_with_tile_colour_1_calls (k : Nat) (p0 : List Int) (A_p0 : Option Addr) (c_p0 : Nat) (r : Bool) (w : World) (hR0 : RO NoS w (rowR encInt A_p0 c_p0 p0)) (hf : slices_ContainsFunc_int_int_with_tile_colour_1 k p0 = some r) :
  CallsR Tryd.prog 89 #[(.slice A_p0 p0.length c_p0), (.func (.func 96) #[] #[])] w (fun v w' => v = (.bool r) ∧ Keeps NoS w w') := by
 have hS : St NoS w w [rowR encInt A_p0 c_p0 p0] [] := St.init (ro_cons hR0 (ro_nil _ _))
 refine enter 9 Tryd.func89 rfl Tryd.ntmps89 rfl ?_
 unfold slices_ContainsFunc_int_int_with_tile_colour_1 at hf
 refine WC.seq ?_
 refine WC.region ?_
 refine seg 1 [] [0, 1] [(0, (.slice A_p0 p0.length c_p0)), (1, (.func (.func 96) #[] #[]))] [] (fun fb => by kernel_rfl) rfl trivial ?_
 refine WL.done rfl ?_
 refine WX.next ?_
 refine WC.seq ?_
 refine WC.region ?_
 refine seg 2 [] [5, 6] [(5, (.slice A_p0 p0.length c_p0)), (6, (.func (.func 96) #[] #[]))] [] (fun fb => by kernel_rfl) rfl trivial ?_
 obtain ⟨t1069, ht1070, hf⟩ := bind_some hf
 refine WL.call (some 7) 99 #[(.slice A_p0 p0.length c_p0), (.func (.func 96) #[] #[])] (fun fb => by kernel_rfl) (slices_IndexFunc_int_int_with_tile_colour_1_calls _ p0 A_p0 c_p0 t1069 _ (hS.rd 0) ht1070) (fun v w1071 hR1072 => ?_)
 obtain ⟨rfl, hk_⟩ := hR1072
 have hS1073 := hS.keepN hk_
 refine ⟨trivial, ?_⟩
 refine seg 5 [] [4] [(4, (.bool (decide (t1069 ≥ 0))))] [] (fun fb => by kernel_rfl) rfl trivial ?_
 refine WL.done rfl ?_
 refine WX.next ?_
 refine WC.ret ?_
 injection hf with hf
 subst hf
 exact WX.ret_ [] (.bool (decide (t1069 ≥ 0))) [] (fun fb => by kernel_rfl) trivial ⟨_, rfl, rfl, hS1073.keep⟩
theorem tile_colour_calls (k : Nat) (p0 : List Int) (A_p0 : Option Addr) (c_p0 : Nat) (r : Bool) (w : World) (hR0 : RO NoS w (rowR encInt A_p0 c_p0 p0)) (hf : tile_colour k p0 = some r) :
  CallsR Tryd.prog 80 #[(.slice A_p0 p0.length c_p0)] w (fun v w' => v = (.bool r) ∧ Keeps NoS w w') := by
 have hS : St NoS w w [rowR encInt A_p0 c_p0 p0] [] := St.init (ro_cons hR0 (ro_nil _ _))
 refine enter 6 Tryd.func80 rfl Tryd.ntmps80 rfl ?_
 unfold tile_colour at hf
 refine WC.seq ?_
 refine WC.region ?_
 refine seg 1 [] [0] [(0, (.slice A_p0 p0.length c_p0))] [] (fun fb => by kernel_rfl) rfl trivial ?_
 refine WL.done rfl ?_
 refine WX.next ?_
 refine WC.seq ?_
 refine WC.region ?_
 refine seg 1 [] [3] [(3, (.slice A_p0 p0.length c_p0))] [] (fun fb => by kernel_rfl) rfl trivial ?_
 obtain ⟨t1074, ht1075, hf⟩ := bind_some hf
 refine WL.call (some 4) 89 #[(.slice A_p0 p0.length c_p0), (.func (.func 96) #[] #[])] (fun fb => by kernel_rfl) (slices_ContainsFunc_int_int_with_tile_colour_1_calls _ p0 A_p0 c_p0 t1074 _ (hS.rd 0) ht1075) (fun v w1076 hR1077 => ?_)
 obtain ⟨rfl, hk_⟩ := hR1077
 have hS1078 := hS.keepN hk_
 refine ⟨trivial, ?_⟩
 refine seg 4 [] [2] [(2, (.bool (!t1074)))] [] (fun fb => by kernel_rfl) rfl trivial ?_
 refine WL.done rfl ?_
 refine WX.next ?_
 refine WC.ret ?_
 injection hf with hf
 subst hf
 exact WX.ret_ [] (.bool (!t1074)) [] (fun fb => by kernel_rfl) trivial ⟨_, rfl, rfl, hS1078.keep⟩
theorem tile_Valid_key40 : KeyK Tryd.prog 40 (aggI ints_Tile) := KeyK.struct (n := 4) (by kernel_rfl) ints_Tile (fun _ => rfl) (fun x y h => by cases x; cases y; simp only [ints_Tile, List.cons.injEq, and_true] at h; obtain ⟨rfl, rfl, rfl, rfl⟩ := h; rfl)
theorem tile_Valid_calls (k : Nat) (p0 : List Tile) (A_p0 : Option Addr) (c_p0 : Nat) (r : Bool) (w : World) (hR0 : RO NoS w (rowR enc_Tile A_p0 c_p0 p0)) (hf : tile_Valid k p0 = some r) :
  CallsR Tryd.prog 52 #[(.slice A_p0 p0.length c_p0)] w (fun v w' => v = (.bool r) ∧ Keeps NoS w w') := by
 have hS : St NoS w w [rowR enc_Tile A_p0 c_p0 p0] [] := St.init (ro_cons hR0 (ro_nil _ _))
 refine enter 35 Tryd.func52 rfl Tryd.ntmps52 rfl ?_
 unfold tile_Valid at hf
 refine WC.seq ?_
 refine WC.region ?_
 refine seg 1 [] [0] [(0, (.slice A_p0 p0.length c_p0))] [] (fun fb => by kernel_rfl) rfl trivial ?_
 refine WL.done rfl ?_
 refine WX.next ?_
 refine WC.seq ?_
 refine WC.seq ?_
 refine WC.region ?_
 refine seg 3 [] [0, 8] [(0, (.slice A_p0 p0.length c_p0)), (8, (.bool (decide ((p0.length : Int) > 1000))))] [] (fun fb => by kernel_rfl) rfl trivial ?_
 refine WL.done rfl ?_
 refine WX.next ?_
 rcases br_some hf with ⟨h1013, hf⟩ | ⟨h1013, hf⟩
 ·refine WC.condT2 (fun fb => by kernel_rfl) h1013 ?_
  refine WC.seq ?_
  refine WC.region ?_
  refine seg 1 [] [2] [(2, (.bool false))] [] (fun fb => by kernel_rfl) rfl trivial ?_
  refine WL.done rfl ?_
  refine WX.next ?_
  refine WC.ret ?_
  injection hf with hf
  subst hf
  exact WX.thenR (WX.ret_ [] (.bool false) [] (fun fb => by kernel_rfl) trivial ⟨_, rfl, rfl, hS.keep⟩)
 refine WC.condF2 (fun fb => by kernel_rfl) h1013 ?_
 refine WC.skip ?_
 refine WX.next ?_
 refine WC.seq ?_
 refine WC.region ?_
 refine WL.new hS 9 [] (fun g => (.map (some g))) (mapObj (aggI ints_Tile) vB ([] : List (Tile × Bool))) [] (fun fb g => by kernel_rfl) trivial (fun g1014 w1015 hS1016 => ?_)
 refine ⟨trivial, ?_⟩
 refine seg 2 [] [0, 3] [(0, (.slice A_p0 p0.length c_p0)), (3, (.map (some g1014)))] [] (fun fb => by kernel_rfl) rfl trivial ?_
 refine WL.done rfl ?_
 refine WX.next ?_
 refine WC.seq ?_
 refine WC.seq ?_
 refine WC.region ?_
 refine seg 3 [] [3, 10, 11, 12] [(3, (.map (some g1014))), (10, (.slice A_p0 p0.length c_p0)), (11, (iv (p0.length : Int))), (12, (iv 0))] [] (fun fb => by kernel_rfl) rfl trivial ?_
 refine WL.done rfl ?_
 refine WX.next ?_
 obtain ⟨x1150, hx1151, hf⟩ := bind_some hf
 refine WC.cutN (T := Unit) (fun t => []) (fun t w1 => St NoS w w1 [rowR enc_Tile A_p0 c_p0 p0] [] ∧ x1150 = .inr t) (fun Kx1150 => ?_) ?_
 ·
  refine WC.block ?_
  refine WC.loop (T := (List (Tile × Bool)) × Int) (fun t => [(3, (.map (some g1014))), (10, (.slice A_p0 p0.length c_p0)), (11, (iv (p0.length : Int))), (12, (iv t.2))]) (fun n t w1 => St NoS w w1 [rowR enc_Tile A_p0 c_p0 p0] [blk g1014 (mapObj (aggI ints_Tile) vB t.1)] ∧ tile_Valid.l0 n t.1 t.2 p0 = some x1150) k (([] : List (Tile × Bool)), 0) [3, 10, 11, 12] rfl ⟨(hS1016.subR [0]).sub [0] (by decide), hx1151⟩ ?_
  rintro k1152 ⟨l1148, x1149⟩ w1153 ⟨hS1154, hl1155⟩
  cases k1152 with
  | zero => rw [tile_Valid.l0] at hl1155; cases hl1155
  | succ k1152 =>
   rw [tile_Valid.l0] at hl1155
   refine WC.seq ?_
   refine WC.region ?_
   refine seg 1 [] [3, 10, 11, 12, 13] [(3, (.map (some g1014))), (10, (.slice A_p0 p0.length c_p0)), (11, (iv (p0.length : Int))), (12, (iv x1149)), (13, (.bool (decide (x1149 < (p0.length : Int)))))] [] (fun fb => by kernel_rfl) rfl trivial ?_
   refine WL.done rfl ?_
   refine WX.next ?_
   refine WC.seq ?_
   rcases br_some hl1155 with ⟨h1156, hl1155⟩ | ⟨h1156, hl1155⟩
   ·refine WC.condT2 (fun fb => by kernel_rfl) h1156 ?_
    refine WC.skip ?_
    refine WX.next ?_
    refine WC.seq ?_
    refine WC.block ?_
    refine WC.seq ?_
    refine WC.region ?_
    obtain ⟨h1157, hl1155⟩ := as_some hl1155
    refine seg 2 [.v (iv ((rdD p0 x1149 z_Tile).N)), .v (iv ((rdD p0 x1149 z_Tile).E)), .v (iv ((rdD p0 x1149 z_Tile).S)), .v (iv ((rdD p0 x1149 z_Tile).W))] [3, 10, 11, 12, 15] [(3, (.map (some g1014))), (10, (.slice A_p0 p0.length c_p0)), (11, (iv (p0.length : Int))), (12, (iv x1149)), (15, (.agg #[(iv ((rdD p0 x1149 z_Tile).N)), (iv ((rdD p0 x1149 z_Tile).E)), (iv ((rdD p0 x1149 z_Tile).S)), (iv ((rdD p0 x1149 z_Tile).W))]))] [.idx A_p0 x1149 p0.length, .cell ((adr A_p0).add ((x1149).toNat * 4)) (iv ((rdD p0 x1149 z_Tile).N)), .cell (((adr A_p0).add ((x1149).toNat * 4)).add 1) (iv ((rdD p0 x1149 z_Tile).E)), .cell (((adr A_p0).add ((x1149).toNat * 4)).add 2) (iv ((rdD p0 x1149 z_Tile).S)), .cell (((adr A_p0).add ((x1149).toNat * 4)).add 3) (iv ((rdD p0 x1149 z_Tile).W))] (fun fb => by kernel_rfl) rfl ⟨rowR.adr (hS1154.rd 0).1 h1157.1 h1157.2, rowR.cell (hS1154.rd 0).1 z_Tile h1157.1 h1157.2 0 rfl, rowR.cell (hS1154.rd 0).1 z_Tile h1157.1 h1157.2 1 rfl, rowR.cell (hS1154.rd 0).1 z_Tile h1157.1 h1157.2 2 rfl, rowR.cell (hS1154.rd 0).1 z_Tile h1157.1 h1157.2 3 rfl, trivial⟩ ?_
    refine WL.new hS1154 5 [] (fun g => (.pointer (some ⟨g, 0, none⟩))) (.cells #[(iv 0), (iv 0), (iv 0), (iv 0)] 40 (0, 0)) [] (fun fb g => by kernel_rfl) trivial (fun g1158 w1159 hS1160 => ?_)
    refine ⟨trivial, ?_⟩
    refine WL.store hS1160 0 rfl [(0, (iv ((rdD p0 x1149 z_Tile).N))), (1, (iv ((rdD p0 x1149 z_Tile).E))), (2, (iv ((rdD p0 x1149 z_Tile).S))), (3, (iv ((rdD p0 x1149 z_Tile).W)))] #[(iv ((rdD p0 x1149 z_Tile).N)), (iv ((rdD p0 x1149 z_Tile).E)), (iv ((rdD p0 x1149 z_Tile).S)), (iv ((rdD p0 x1149 z_Tile).W))] (fun fb => by kernel_rfl) (by kernel_rfl) rfl [1] (by decide) (by decide) (fun w1162 hS1163 => ?_)
    refine ⟨trivial, ?_⟩
    refine WL.done rfl ?_
    refine WX.next ?_
    refine WC.seq ?_
    refine WC.seq ?_
    refine WC.region ?_
    refine seg 2 [.v (iv ((rdD p0 x1149 z_Tile).N)), .v (iv ((rdD p0 x1149 z_Tile).E)), .v (iv ((rdD p0 x1149 z_Tile).S)), .v (iv ((rdD p0 x1149 z_Tile).W))] [3, 5, 10, 11, 12, 16, 17] [(3, (.map (some g1014))), (5, (pt g1158)), (10, (.slice A_p0 p0.length c_p0)), (11, (iv (p0.length : Int))), (12, (iv x1149)), (16, (.map (some g1014))), (17, (.agg #[(iv ((rdD p0 x1149 z_Tile).N)), (iv ((rdD p0 x1149 z_Tile).E)), (iv ((rdD p0 x1149 z_Tile).S)), (iv ((rdD p0 x1149 z_Tile).W))]))] [.cell ⟨g1158, 0, none⟩ (iv ((rdD p0 x1149 z_Tile).N)), .cell ⟨g1158, 1, none⟩ (iv ((rdD p0 x1149 z_Tile).E)), .cell ⟨g1158, 2, none⟩ (iv ((rdD p0 x1149 z_Tile).S)), .cell ⟨g1158, 3, none⟩ (iv ((rdD p0 x1149 z_Tile).W))] (fun fb => by kernel_rfl) rfl ⟨hS1163.cell 0 rfl 0 rfl, hS1163.cell 0 rfl 1 rfl, hS1163.cell 0 rfl 2 rfl, hS1163.cell 0 rfl 3 rfl, trivial⟩ ?_
    refine WL.lookup (hS1163.own 1).1 (rdD p0 x1149 z_Tile) (d := 18) (c := false) (t := 114) (kT := 40) (eT := 4) (z := false) (kE := (aggI ints_Tile)) (vE := vB) (l := l1148) (.bool (mget (rdD p0 x1149 z_Tile) false l1148)) (fun fb => by kernel_rfl) tile_Valid_key40 (by kernel_rfl) (fun _ => by kernel_rfl) rfl ?_
    refine ⟨trivial, ?_⟩
    refine seg 4 [] [3, 5, 10, 11, 12, 19] [(3, (.map (some g1014))), (5, (pt g1158)), (10, (.slice A_p0 p0.length c_p0)), (11, (iv (p0.length : Int))), (12, (iv x1149)), (19, (.bool (mget (rdD p0 x1149 z_Tile) false l1148)))] [] (fun fb => by kernel_rfl) rfl trivial ?_
    obtain ⟨x1175, hx1176, hl1155⟩ := bind_some hl1155
    refine WL.cutW (T := Bool) 16 (fun t => [(3, (.map (some g1014))), (5, (pt g1158)), (10, (.slice A_p0 p0.length c_p0)), (11, (iv (p0.length : Int))), (12, (iv x1149)), (31, (.bool t))]) (fun t w1 => (St NoS w w1 [rowR enc_Tile A_p0 c_p0 p0] [blk g1014 (mapObj (aggI ints_Tile) vB l1148), blk g1158 (.cells #[(iv ((rdD p0 x1149 z_Tile).N)), (iv ((rdD p0 x1149 z_Tile).E)), (iv ((rdD p0 x1149 z_Tile).S)), (iv ((rdD p0 x1149 z_Tile).W))] 40 (0, 0))] ∧ x1175 = t) ∧ CellsOK [] w1) (fun K => ?_) ?_
    ·
     rcases br_some hx1176 with ⟨h1177, hx1176⟩ | ⟨h1177, hx1176⟩
     ·
      refine WL.setB 19 h1177 rfl ?_
      refine seg 16 [] [3, 5, 10, 11, 12, 31] [(3, (.map (some g1014))), (5, (pt g1158)), (10, (.slice A_p0 p0.length c_p0)), (11, (iv (p0.length : Int))), (12, (iv x1149)), (31, (.bool true))] [] (fun fb => by kernel_rfl) rfl trivial ?_
      injection hx1176 with hx1176
      exact WL.to K true [3, 5, 10, 11, 12, 31] rfl ⟨⟨(hS1163.subR [0]).sub [1, 0] (by decide), hx1176.symm⟩, trivial⟩
     refine WL.setB 19 h1177 rfl ?_
     refine seg 12 [.v (iv ((rdD p0 x1149 z_Tile).N)), .v (iv ((rdD p0 x1149 z_Tile).E)), .v (iv ((rdD p0 x1149 z_Tile).S)), .v (iv ((rdD p0 x1149 z_Tile).W))] [3, 5, 10, 11, 12, 19, 21, 23, 25, 27] [(3, (.map (some g1014))), (5, (pt g1158)), (10, (.slice A_p0 p0.length c_p0)), (11, (iv (p0.length : Int))), (12, (iv x1149)), (19, (.bool false)), (21, (iv ((rdD p0 x1149 z_Tile).N))), (23, (iv ((rdD p0 x1149 z_Tile).E))), (25, (iv ((rdD p0 x1149 z_Tile).S))), (27, (iv ((rdD p0 x1149 z_Tile).W)))] [.cell ⟨g1158, 0, none⟩ (iv ((rdD p0 x1149 z_Tile).N)), .cell ⟨g1158, 1, none⟩ (iv ((rdD p0 x1149 z_Tile).E)), .cell ⟨g1158, 2, none⟩ (iv ((rdD p0 x1149 z_Tile).S)), .cell ⟨g1158, 3, none⟩ (iv ((rdD p0 x1149 z_Tile).W))] (fun fb => by kernel_rfl) rfl ⟨hS1163.cell 0 rfl 0 rfl, hS1163.cell 0 rfl 1 rfl, hS1163.cell 0 rfl 2 rfl, hS1163.cell 0 rfl 3 rfl, trivial⟩ ?_
     refine WL.new hS1163 28 [] (fun g => (.slice (some ⟨g, 0, none⟩) 4 4)) (.cells #[(iv ((rdD p0 x1149 z_Tile).N)), (iv ((rdD p0 x1149 z_Tile).E)), (iv ((rdD p0 x1149 z_Tile).S)), (iv ((rdD p0 x1149 z_Tile).W))] 3 (0, 0)) [] (fun fb g => by kernel_rfl) trivial (fun g1178 w1179 hS1180 => ?_)
     refine ⟨trivial, ?_⟩
     have hS1182 : St NoS w w1179 [rowR enc_Tile A_p0 c_p0 p0] [rowO 3 encInt (some ⟨g1178, 0, none⟩) 4 [(rdD p0 x1149 z_Tile).N, (rdD p0 x1149 z_Tile).E, (rdD p0 x1149 z_Tile).S, (rdD p0 x1149 z_Tile).W], blk g1158 (.cells #[(iv ((rdD p0 x1149 z_Tile).N)), (iv ((rdD p0 x1149 z_Tile).E)), (iv ((rdD p0 x1149 z_Tile).S)), (iv ((rdD p0 x1149 z_Tile).W))] 40 (0, 0)), blk g1014 (mapObj (aggI ints_Tile) vB l1148)] := hS1180.map1 0 _ (fun h => rowO.ofBlk h rfl (Nat.le_of_ble_eq_true (by kernel_rfl))) (fun _ h => by obtain ⟨_, h1, h2⟩ := h; injection h1 with h1; subst h1; exact h2) [1, 2] (by decide) (by decide)
     obtain ⟨t1183, ht1184, hx1176⟩ := bind_some hx1176
     refine WL.call (some 29) 80 #[(.slice (some ⟨g1178, 0, none⟩) [(rdD p0 x1149 z_Tile).N, (rdD p0 x1149 z_Tile).E, (rdD p0 x1149 z_Tile).S, (rdD p0 x1149 z_Tile).W].length 4)] (fun fb => by kernel_rfl) (tile_colour_calls _ [(rdD p0 x1149 z_Tile).N, (rdD p0 x1149 z_Tile).E, (rdD p0 x1149 z_Tile).S, (rdD p0 x1149 z_Tile).W] (some ⟨g1178, 0, none⟩) 4 t1183 _ (hS1182.ow 0).ofO ht1184) (fun v w1185 hR1186 => ?_)
     obtain ⟨rfl, hk_⟩ := hR1186
     have hS1187 := hS1182.keepN hk_
     refine ⟨trivial, ?_⟩
     refine seg 16 [] [3, 5, 10, 11, 12, 31] [(3, (.map (some g1014))), (5, (pt g1158)), (10, (.slice A_p0 p0.length c_p0)), (11, (iv (p0.length : Int))), (12, (iv x1149)), (31, (.bool (!t1183)))] [] (fun fb => by kernel_rfl) rfl trivial ?_
     injection hx1176 with hx1176
     exact WL.to K (!t1183) [3, 5, 10, 11, 12, 31] rfl ⟨⟨(hS1187.subR [0]).sub [2, 1] (by decide), hx1176.symm⟩, trivial⟩
    rintro y1188 w1190 ⟨⟨hS1191, hq1189⟩, hF1192⟩
    subst hq1189
    refine WL.done rfl ?_
    refine WX.next ?_
    rcases br_some hl1155 with ⟨h1193, hl1155⟩ | ⟨h1193, hl1155⟩
    ·refine WC.condT2 (fun fb => by kernel_rfl) h1193 ?_
     refine WC.seq ?_
     refine WC.region ?_
     refine seg 1 [] [2] [(2, (.bool false))] [] (fun fb => by kernel_rfl) rfl trivial ?_
     refine WL.done rfl ?_
     refine WX.next ?_
     refine WC.ret ?_
     injection hl1155 with hl1155
     subst hl1155
     injection hf with hf
     subst hf
     exact WX.thenR (WX.blockR (WX.thenR (WX.thenR (WX.blockR (WX.thenR (WX.ret_ [] (.bool false) [] (fun fb => by kernel_rfl) trivial ⟨_, rfl, rfl, hS1191.keep⟩))))))
    refine WC.condF2 (fun fb => by kernel_rfl) h1193 ?_
    refine WC.skip ?_
    refine WX.next ?_
    refine WC.region ?_
    refine seg 2 [.v (iv ((rdD p0 x1149 z_Tile).N)), .v (iv ((rdD p0 x1149 z_Tile).E)), .v (iv ((rdD p0 x1149 z_Tile).S)), .v (iv ((rdD p0 x1149 z_Tile).W))] [3, 10, 11, 12, 32, 33] [(3, (.map (some g1014))), (10, (.slice A_p0 p0.length c_p0)), (11, (iv (p0.length : Int))), (12, (iv x1149)), (32, (.map (some g1014))), (33, (.agg #[(iv ((rdD p0 x1149 z_Tile).N)), (iv ((rdD p0 x1149 z_Tile).E)), (iv ((rdD p0 x1149 z_Tile).S)), (iv ((rdD p0 x1149 z_Tile).W))]))] [.cell ⟨g1158, 0, none⟩ (iv ((rdD p0 x1149 z_Tile).N)), .cell ⟨g1158, 1, none⟩ (iv ((rdD p0 x1149 z_Tile).E)), .cell ⟨g1158, 2, none⟩ (iv ((rdD p0 x1149 z_Tile).S)), .cell ⟨g1158, 3, none⟩ (iv ((rdD p0 x1149 z_Tile).W))] (fun fb => by kernel_rfl) rfl ⟨hS1191.cell 1 rfl 0 rfl, hS1191.cell 1 rfl 1 rfl, hS1191.cell 1 rfl 2 rfl, hS1191.cell 1 rfl 3 rfl, trivial⟩ ?_
    refine WL.mapput hS1191 0 (t := 114) (kT := 40) (eT := 4) (kE := (aggI ints_Tile)) (vE := vB) (l := l1148) rfl (rdD p0 x1149 z_Tile) true (fun fb => by kernel_rfl) tile_Valid_key40 (by kernel_rfl) [1] (by decide) (by decide) (fun w1194 hS1195 => ?_)
    refine ⟨trivial, ?_⟩
    refine WL.done rfl ?_
    refine WX.blockN (WX.next ?_)
    refine WC.region ?_
    refine seg 2 [] [3, 10, 11, 12] [(3, (.map (some g1014))), (10, (.slice A_p0 p0.length c_p0)), (11, (iv (p0.length : Int))), (12, (iv (w64 (x1149 + 1))))] [] (fun fb => by kernel_rfl) rfl trivial ?_
    refine WL.done rfl ?_
    exact WX.again k1152 (Nat.lt_succ_self _) (mput (rdD p0 x1149 z_Tile) true l1148, w64 (x1149 + 1)) [3, 10, 11, 12] rfl ⟨(hS1195.subR [0]).sub [0] (by decide), hl1155⟩
   refine WC.condF2 (fun fb => by kernel_rfl) h1156 ?_
   refine WC.exit ?_
   injection hl1155 with hl1155
   exact WX.thenX (WX.thenX (WX.blockHere (WX.to Kx1150 () [] rfl ⟨(hS1154.subR [0]).sub [] (by decide), hl1155.symm⟩)))
 rintro y1199 w1196 ⟨hS1197, hq1198⟩
 subst hq1198
 have hf := sum_inr hf
 refine WX.next ?_
 refine WC.seq ?_
 refine WC.region ?_
 refine seg 1 [] [2] [(2, (.bool true))] [] (fun fb => by kernel_rfl) rfl trivial ?_
 refine WL.done rfl ?_
 refine WX.next ?_
 refine WC.ret ?_
 injection hf with hf
 subst hf
 exact WX.ret_ [] (.bool true) [] (fun fb => by kernel_rfl) trivial ⟨_, rfl, rfl, hS1197.keep⟩
theorem tile_write_calls (k : Nat) (p0 : List Tile) (A_p0 : Option Addr) (c_p0 : Nat) (r : ByteArray) (w : World) (hR0 : RO NoS w (rowR enc_Tile A_p0 c_p0 p0)) (hf : tile_write k p0 = some r) :
  CallsR Tryd.prog 79 #[(.slice A_p0 p0.length c_p0)] w (fun v w' => v = (.string r) ∧ Keeps NoS w w') := by
 have hS : St NoS w w [rowR enc_Tile A_p0 c_p0 p0] [] := St.init (ro_cons hR0 (ro_nil _ _))
 refine enter 41 Tryd.func79 rfl Tryd.ntmps79 rfl ?_
 unfold tile_write at hf
 refine WC.seq ?_
 refine WC.region ?_
 refine seg 1 [] [0] [(0, (.slice A_p0 p0.length c_p0))] [] (fun fb => by kernel_rfl) rfl trivial ?_
 refine WL.done rfl ?_
 refine WX.next ?_
 refine WC.seq ?_
 refine WC.region ?_
 refine seg 1 [] [0, 3] [(0, (.slice A_p0 p0.length c_p0)), (3, (.slice none 0 0))] [] (fun fb => by kernel_rfl) rfl trivial ?_
 refine WL.done rfl ?_
 refine WX.next ?_
 refine WC.seq ?_
 refine WC.seq ?_
 refine WC.region ?_
 refine seg 3 [] [3, 9, 10, 11] [(3, (.slice none 0 0)), (9, (.slice A_p0 p0.length c_p0)), (10, (iv (p0.length : Int))), (11, (iv 0))] [] (fun fb => by kernel_rfl) rfl trivial ?_
 refine WL.done rfl ?_
 refine WX.next ?_
 have hS1598 := hS.nilrow 9 encStr
 obtain ⟨x1606, hx1607, hf⟩ := bind_some hf
 refine WC.cutN (T := (List ByteArray) × (Option Addr) × Nat) (fun t => [(3, (.slice t.2.1 t.1.length t.2.2))]) (fun t w1 => St NoS w w1 [rowR enc_Tile A_p0 c_p0 p0] [rowO 9 encStr t.2.1 t.2.2 t.1] ∧ x1606 = t.1) (fun Kx1606 => ?_) ?_
 ·
  refine WC.block ?_
  refine WC.loop (T := ((List ByteArray) × Int) × (Option Addr) × Nat) (fun t => [(3, (.slice t.2.1 t.1.1.length t.2.2)), (9, (.slice A_p0 p0.length c_p0)), (10, (iv (p0.length : Int))), (11, (iv t.1.2))]) (fun n t w1 => St NoS w w1 [rowR enc_Tile A_p0 c_p0 p0] [rowO 9 encStr t.2.1 t.2.2 t.1.1] ∧ tile_write.l0 n t.1.1 t.1.2 p0 = some x1606) k ((([] : List ByteArray), 0), none, 0) [3, 9, 10, 11] rfl ⟨(hS1598.subR [0]).sub [0] (by decide), hx1607⟩ ?_
  rintro k1608 ⟨⟨l1601, x1602⟩, A1599, c1600⟩ w1609 ⟨hS1610, hl1611⟩
  cases k1608 with
  | zero => rw [tile_write.l0] at hl1611; cases hl1611
  | succ k1608 =>
   rw [tile_write.l0] at hl1611
   refine WC.seq ?_
   refine WC.region ?_
   refine seg 1 [] [3, 9, 10, 11, 12] [(3, (.slice A1599 l1601.length c1600)), (9, (.slice A_p0 p0.length c_p0)), (10, (iv (p0.length : Int))), (11, (iv x1602)), (12, (.bool (decide (x1602 < (p0.length : Int)))))] [] (fun fb => by kernel_rfl) rfl trivial ?_
   refine WL.done rfl ?_
   refine WX.next ?_
   refine WC.seq ?_
   rcases br_some hl1611 with ⟨h1612, hl1611⟩ | ⟨h1612, hl1611⟩
   ·refine WC.condT2 (fun fb => by kernel_rfl) h1612 ?_
    refine WC.skip ?_
    refine WX.next ?_
    refine WC.seq ?_
    refine WC.block ?_
    refine WC.seq ?_
    refine WC.region ?_
    obtain ⟨h1613, hl1611⟩ := as_some hl1611
    refine seg 2 [.v (iv ((rdD p0 x1602 z_Tile).N)), .v (iv ((rdD p0 x1602 z_Tile).E)), .v (iv ((rdD p0 x1602 z_Tile).S)), .v (iv ((rdD p0 x1602 z_Tile).W))] [3, 9, 10, 11, 14] [(3, (.slice A1599 l1601.length c1600)), (9, (.slice A_p0 p0.length c_p0)), (10, (iv (p0.length : Int))), (11, (iv x1602)), (14, (.agg #[(iv ((rdD p0 x1602 z_Tile).N)), (iv ((rdD p0 x1602 z_Tile).E)), (iv ((rdD p0 x1602 z_Tile).S)), (iv ((rdD p0 x1602 z_Tile).W))]))] [.idx A_p0 x1602 p0.length, .cell ((adr A_p0).add ((x1602).toNat * 4)) (iv ((rdD p0 x1602 z_Tile).N)), .cell (((adr A_p0).add ((x1602).toNat * 4)).add 1) (iv ((rdD p0 x1602 z_Tile).E)), .cell (((adr A_p0).add ((x1602).toNat * 4)).add 2) (iv ((rdD p0 x1602 z_Tile).S)), .cell (((adr A_p0).add ((x1602).toNat * 4)).add 3) (iv ((rdD p0 x1602 z_Tile).W))] (fun fb => by kernel_rfl) rfl ⟨rowR.adr (hS1610.rd 0).1 h1613.1 h1613.2, rowR.cell (hS1610.rd 0).1 z_Tile h1613.1 h1613.2 0 rfl, rowR.cell (hS1610.rd 0).1 z_Tile h1613.1 h1613.2 1 rfl, rowR.cell (hS1610.rd 0).1 z_Tile h1613.1 h1613.2 2 rfl, rowR.cell (hS1610.rd 0).1 z_Tile h1613.1 h1613.2 3 rfl, trivial⟩ ?_
    refine WL.new hS1610 5 [] (fun g => (.pointer (some ⟨g, 0, none⟩))) (.cells #[(iv 0), (iv 0), (iv 0), (iv 0)] 40 (0, 0)) [] (fun fb g => by kernel_rfl) trivial (fun g1614 w1615 hS1616 => ?_)
    refine ⟨trivial, ?_⟩
    refine WL.store hS1616 0 rfl [(0, (iv ((rdD p0 x1602 z_Tile).N))), (1, (iv ((rdD p0 x1602 z_Tile).E))), (2, (iv ((rdD p0 x1602 z_Tile).S))), (3, (iv ((rdD p0 x1602 z_Tile).W)))] #[(iv ((rdD p0 x1602 z_Tile).N)), (iv ((rdD p0 x1602 z_Tile).E)), (iv ((rdD p0 x1602 z_Tile).S)), (iv ((rdD p0 x1602 z_Tile).W))] (fun fb => by kernel_rfl) (by kernel_rfl) rfl [1] (by decide) (by decide) (fun w1618 hS1619 => ?_)
    refine ⟨trivial, ?_⟩
    refine WL.done rfl ?_
    refine WX.next ?_
    refine WC.seq ?_
    refine WC.region ?_
    refine seg 1 [] [3, 5, 6, 9, 10, 11] [(3, (.slice A1599 l1601.length c1600)), (5, (pt g1614)), (6, (.slice none 0 0)), (9, (.slice A_p0 p0.length c_p0)), (10, (iv (p0.length : Int))), (11, (iv x1602))] [] (fun fb => by kernel_rfl) rfl trivial ?_
    refine WL.done rfl ?_
    refine WX.next ?_
    refine WC.seq ?_
    refine WC.seq ?_
    refine WC.region ?_
    refine seg 10 [.v (iv ((rdD p0 x1602 z_Tile).N)), .v (iv ((rdD p0 x1602 z_Tile).E)), .v (iv ((rdD p0 x1602 z_Tile).S)), .v (iv ((rdD p0 x1602 z_Tile).W))] [3, 6, 9, 10, 11, 23, 24] [(3, (.slice A1599 l1601.length c1600)), (6, (.slice none 0 0)), (9, (.slice A_p0 p0.length c_p0)), (10, (iv (p0.length : Int))), (11, (iv x1602)), (23, (.agg #[(iv ((rdD p0 x1602 z_Tile).N)), (iv ((rdD p0 x1602 z_Tile).E)), (iv ((rdD p0 x1602 z_Tile).S)), (iv ((rdD p0 x1602 z_Tile).W))])), (24, (iv 0))] [.cell ⟨g1614, 0, none⟩ (iv ((rdD p0 x1602 z_Tile).N)), .cell ⟨g1614, 1, none⟩ (iv ((rdD p0 x1602 z_Tile).E)), .cell ⟨g1614, 2, none⟩ (iv ((rdD p0 x1602 z_Tile).S)), .cell ⟨g1614, 3, none⟩ (iv ((rdD p0 x1602 z_Tile).W))] (fun fb => by kernel_rfl) rfl ⟨hS1619.cell 0 rfl 0 rfl, hS1619.cell 0 rfl 1 rfl, hS1619.cell 0 rfl 2 rfl, hS1619.cell 0 rfl 3 rfl, trivial⟩ ?_
    refine WL.done rfl ?_
    refine WX.next ?_
    have hS1707 := hS1619.nilrow 9 encStr
    obtain ⟨x1715, hx1716, hl1611⟩ := bind_some hl1611
    refine WC.cutN (T := (List ByteArray) × (Option Addr) × Nat) (fun t => [(3, (.slice A1599 l1601.length c1600)), (6, (.slice t.2.1 t.1.length t.2.2)), (9, (.slice A_p0 p0.length c_p0)), (10, (iv (p0.length : Int))), (11, (iv x1602))]) (fun t w1 => St NoS w w1 [rowR enc_Tile A_p0 c_p0 p0] [rowO 9 encStr A1599 c1600 l1601, rowO 9 encStr t.2.1 t.2.2 t.1] ∧ x1715 = t.1) (fun Kx1715 => ?_) ?_
    ·
     refine WC.block ?_
     refine WC.loop (T := ((List ByteArray) × Int) × (Option Addr) × Nat) (fun t => [(3, (.slice A1599 l1601.length c1600)), (6, (.slice t.2.1 t.1.1.length t.2.2)), (9, (.slice A_p0 p0.length c_p0)), (10, (iv (p0.length : Int))), (11, (iv x1602)), (23, (.agg #[(iv ((rdD p0 x1602 z_Tile).N)), (iv ((rdD p0 x1602 z_Tile).E)), (iv ((rdD p0 x1602 z_Tile).S)), (iv ((rdD p0 x1602 z_Tile).W))])), (24, (iv t.1.2))]) (fun n t w1 => St NoS w w1 [rowR enc_Tile A_p0 c_p0 p0] [rowO 9 encStr A1599 c1600 l1601, rowO 9 encStr t.2.1 t.2.2 t.1.1] ∧ tile_write.l1 n t.1.1 t.1.2 p0 x1602 = some x1715) k1608 ((([] : List ByteArray), 0), none, 0) [3, 6, 9, 10, 11, 23, 24] rfl ⟨(hS1707.subR [0]).sub [2, 0] (by decide), hx1716⟩ ?_
     rintro k1717 ⟨⟨l1710, x1711⟩, A1708, c1709⟩ w1718 ⟨hS1719, hl1720⟩
     cases k1717 with
     | zero => rw [tile_write.l1] at hl1720; cases hl1720
     | succ k1717 =>
      rw [tile_write.l1] at hl1720
      refine WC.seq ?_
      refine WC.region ?_
      refine seg 1 [] [3, 6, 9, 10, 11, 23, 24, 25] [(3, (.slice A1599 l1601.length c1600)), (6, (.slice A1708 l1710.length c1709)), (9, (.slice A_p0 p0.length c_p0)), (10, (iv (p0.length : Int))), (11, (iv x1602)), (23, (.agg #[(iv ((rdD p0 x1602 z_Tile).N)), (iv ((rdD p0 x1602 z_Tile).E)), (iv ((rdD p0 x1602 z_Tile).S)), (iv ((rdD p0 x1602 z_Tile).W))])), (24, (iv x1711)), (25, (.bool (decide (x1711 < 4))))] [] (fun fb => by kernel_rfl) rfl trivial ?_
      refine WL.done rfl ?_
      refine WX.next ?_
      refine WC.seq ?_
      rcases br_some hl1720 with ⟨h1721, hl1720⟩ | ⟨h1721, hl1720⟩
      ·refine WC.condT2 (fun fb => by kernel_rfl) h1721 ?_
       refine WC.skip ?_
       refine WX.next ?_
       refine WC.seq ?_
       refine WC.block ?_
       refine WC.seq ?_
       refine WC.region ?_
       rcases br_some hl1720 with ⟨h1722, hl1720⟩ | ⟨h1722, hl1720⟩
       ·
        refine WL.setI 24 (eq_of_beq h1722) rfl ?_
        refine seg 1 [] [3, 6, 9, 10, 11, 23, 24, 26] [(3, (.slice A1599 l1601.length c1600)), (6, (.slice A1708 l1710.length c1709)), (9, (.slice A_p0 p0.length c_p0)), (10, (iv (p0.length : Int))), (11, (iv x1602)), (23, (.agg #[(iv ((rdD p0 x1602 z_Tile).N)), (iv ((rdD p0 x1602 z_Tile).E)), (iv ((rdD p0 x1602 z_Tile).S)), (iv ((rdD p0 x1602 z_Tile).W))])), (24, (iv 0)), (26, (iv ((rdD p0 x1602 z_Tile).N)))] [] (fun fb => by kernel_rfl) rfl trivial ?_
        refine WL.setI 24 (eq_of_beq h1722).symm rfl ?_
        refine seg 2 [] [3, 6, 8, 9, 10, 11, 23, 24] [(3, (.slice A1599 l1601.length c1600)), (6, (.slice A1708 l1710.length c1709)), (8, (iv ((rdD p0 x1602 z_Tile).N))), (9, (.slice A_p0 p0.length c_p0)), (10, (iv (p0.length : Int))), (11, (iv x1602)), (23, (.agg #[(iv ((rdD p0 x1602 z_Tile).N)), (iv ((rdD p0 x1602 z_Tile).E)), (iv ((rdD p0 x1602 z_Tile).S)), (iv ((rdD p0 x1602 z_Tile).W))])), (24, (iv x1711))] [] (fun fb => by kernel_rfl) rfl trivial ?_
        refine WL.done rfl ?_
        refine WX.next ?_
        refine WC.region ?_
        refine seg 2 [] [3, 9, 10, 11, 23, 24, 27, 28] [(3, (.slice A1599 l1601.length c1600)), (9, (.slice A_p0 p0.length c_p0)), (10, (iv (p0.length : Int))), (11, (iv x1602)), (23, (.agg #[(iv ((rdD p0 x1602 z_Tile).N)), (iv ((rdD p0 x1602 z_Tile).E)), (iv ((rdD p0 x1602 z_Tile).S)), (iv ((rdD p0 x1602 z_Tile).W))])), (24, (iv x1711)), (27, (.slice A1708 l1710.length c1709)), (28, (iv ((rdD p0 x1602 z_Tile).N)))] [] (fun fb => by kernel_rfl) rfl trivial ?_
        obtain ⟨t1726, ht1727, hl1720⟩ := bind_some hl1720
        refine WL.call (some 29) 94 #[(iv ((rdD p0 x1602 z_Tile).N))] (fun fb => by kernel_rfl) (itoa_calls Tryd.strconv_Itoa_small ((rdD p0 x1602 z_Tile).N) t1726 _ ht1727) (fun v w1724 hR1723 => ?_)
        obtain ⟨rfl, hk_⟩ := hR1723
        have hS1725 := hS1719.keepN hk_
        refine ⟨trivial, ?_⟩
        refine WL.new hS1725 30 [] (fun g => (.slice (some ⟨g, 0, none⟩) 1 1)) (.cells #[(.string t1726)] 9 (0, 0)) [] (fun fb g => by kernel_rfl) trivial (fun g1728 w1729 hS1730 => ?_)
        refine ⟨trivial, ?_⟩
        have hS1732 : St NoS w w1729 [rowR enc_Tile A_p0 c_p0 p0] [rowO 9 encStr (some ⟨g1728, 0, none⟩) 1 [t1726], rowO 9 encStr A1599 c1600 l1601, rowO 9 encStr A1708 c1709 l1710] := hS1730.map1 0 _ (fun h => rowO.ofBlk h rfl (Nat.le_of_ble_eq_true (by kernel_rfl))) (fun _ h => by obtain ⟨_, h1, h2⟩ := h; injection h1 with h1; subst h1; exact h2) [1, 2] (by decide) (by decide)
        obtain ⟨h1733, hl1720⟩ := as_some hl1720
        refine WL.append hS1732 2 (d := 31) (tS := 106) (z := (.string ByteArray.empty)) (bytes := 16) (c2 := 1) rfl (fun fb => by kernel_rfl) (rowO.rd (hS1732.own 0).1) (by kernel_rfl) (by kernel_rfl) rfl (by decide) h1733 (by decide) [0, 1] (by decide) (by decide) (fun A1734 c1735 w1736 hS1737 => ?_)
        refine ⟨trivial, ?_⟩
        refine seg 6 [] [3, 6, 9, 10, 11, 23, 24] [(3, (.slice A1599 l1601.length c1600)), (6, (.slice A1734 (l1710 ++ [t1726]).length c1735)), (9, (.slice A_p0 p0.length c_p0)), (10, (iv (p0.length : Int))), (11, (iv x1602)), (23, (.agg #[(iv ((rdD p0 x1602 z_Tile).N)), (iv ((rdD p0 x1602 z_Tile).E)), (iv ((rdD p0 x1602 z_Tile).S)), (iv ((rdD p0 x1602 z_Tile).W))])), (24, (iv x1711))] [] (fun fb => by kernel_rfl) rfl trivial ?_
        refine WL.done rfl ?_
        refine WX.blockN (WX.next ?_)
        refine WC.region ?_
        refine seg 2 [] [3, 6, 9, 10, 11, 23, 24] [(3, (.slice A1599 l1601.length c1600)), (6, (.slice A1734 (l1710 ++ [t1726]).length c1735)), (9, (.slice A_p0 p0.length c_p0)), (10, (iv (p0.length : Int))), (11, (iv x1602)), (23, (.agg #[(iv ((rdD p0 x1602 z_Tile).N)), (iv ((rdD p0 x1602 z_Tile).E)), (iv ((rdD p0 x1602 z_Tile).S)), (iv ((rdD p0 x1602 z_Tile).W))])), (24, (iv (w64 (x1711 + 1))))] [] (fun fb => by kernel_rfl) rfl trivial ?_
        refine WL.done rfl ?_
        exact WX.again k1717 (Nat.lt_succ_self _) ((l1710 ++ [t1726], w64 (x1711 + 1)), A1734, c1735) [3, 6, 9, 10, 11, 23, 24] rfl ⟨(hS1737.subR [0]).sub [2, 0] (by decide), hl1720⟩
       rcases br_some hl1720 with ⟨h1738, hl1720⟩ | ⟨h1738, hl1720⟩
       ·
        refine WL.setI 24 (eq_of_beq h1738) rfl ?_
        refine seg 1 [] [3, 6, 9, 10, 11, 23, 24, 26] [(3, (.slice A1599 l1601.length c1600)), (6, (.slice A1708 l1710.length c1709)), (9, (.slice A_p0 p0.length c_p0)), (10, (iv (p0.length : Int))), (11, (iv x1602)), (23, (.agg #[(iv ((rdD p0 x1602 z_Tile).N)), (iv ((rdD p0 x1602 z_Tile).E)), (iv ((rdD p0 x1602 z_Tile).S)), (iv ((rdD p0 x1602 z_Tile).W))])), (24, (iv 1)), (26, (iv ((rdD p0 x1602 z_Tile).E)))] [] (fun fb => by kernel_rfl) rfl trivial ?_
        refine WL.setI 24 (eq_of_beq h1738).symm rfl ?_
        refine seg 2 [] [3, 6, 8, 9, 10, 11, 23, 24] [(3, (.slice A1599 l1601.length c1600)), (6, (.slice A1708 l1710.length c1709)), (8, (iv ((rdD p0 x1602 z_Tile).E))), (9, (.slice A_p0 p0.length c_p0)), (10, (iv (p0.length : Int))), (11, (iv x1602)), (23, (.agg #[(iv ((rdD p0 x1602 z_Tile).N)), (iv ((rdD p0 x1602 z_Tile).E)), (iv ((rdD p0 x1602 z_Tile).S)), (iv ((rdD p0 x1602 z_Tile).W))])), (24, (iv x1711))] [] (fun fb => by kernel_rfl) rfl trivial ?_
        refine WL.done rfl ?_
        refine WX.next ?_
        refine WC.region ?_
        refine seg 2 [] [3, 9, 10, 11, 23, 24, 27, 28] [(3, (.slice A1599 l1601.length c1600)), (9, (.slice A_p0 p0.length c_p0)), (10, (iv (p0.length : Int))), (11, (iv x1602)), (23, (.agg #[(iv ((rdD p0 x1602 z_Tile).N)), (iv ((rdD p0 x1602 z_Tile).E)), (iv ((rdD p0 x1602 z_Tile).S)), (iv ((rdD p0 x1602 z_Tile).W))])), (24, (iv x1711)), (27, (.slice A1708 l1710.length c1709)), (28, (iv ((rdD p0 x1602 z_Tile).E)))] [] (fun fb => by kernel_rfl) rfl trivial ?_
        obtain ⟨t1742, ht1743, hl1720⟩ := bind_some hl1720
        refine WL.call (some 29) 94 #[(iv ((rdD p0 x1602 z_Tile).E))] (fun fb => by kernel_rfl) (itoa_calls Tryd.strconv_Itoa_small ((rdD p0 x1602 z_Tile).E) t1742 _ ht1743) (fun v w1740 hR1739 => ?_)
        obtain ⟨rfl, hk_⟩ := hR1739
        have hS1741 := hS1719.keepN hk_
        refine ⟨trivial, ?_⟩
        refine WL.new hS1741 30 [] (fun g => (.slice (some ⟨g, 0, none⟩) 1 1)) (.cells #[(.string t1742)] 9 (0, 0)) [] (fun fb g => by kernel_rfl) trivial (fun g1744 w1745 hS1746 => ?_)
        refine ⟨trivial, ?_⟩
        have hS1748 : St NoS w w1745 [rowR enc_Tile A_p0 c_p0 p0] [rowO 9 encStr (some ⟨g1744, 0, none⟩) 1 [t1742], rowO 9 encStr A1599 c1600 l1601, rowO 9 encStr A1708 c1709 l1710] := hS1746.map1 0 _ (fun h => rowO.ofBlk h rfl (Nat.le_of_ble_eq_true (by kernel_rfl))) (fun _ h => by obtain ⟨_, h1, h2⟩ := h; injection h1 with h1; subst h1; exact h2) [1, 2] (by decide) (by decide)
        obtain ⟨h1749, hl1720⟩ := as_some hl1720
        refine WL.append hS1748 2 (d := 31) (tS := 106) (z := (.string ByteArray.empty)) (bytes := 16) (c2 := 1) rfl (fun fb => by kernel_rfl) (rowO.rd (hS1748.own 0).1) (by kernel_rfl) (by kernel_rfl) rfl (by decide) h1749 (by decide) [0, 1] (by decide) (by decide) (fun A1750 c1751 w1752 hS1753 => ?_)
        refine ⟨trivial, ?_⟩
        refine seg 6 [] [3, 6, 9, 10, 11, 23, 24] [(3, (.slice A1599 l1601.length c1600)), (6, (.slice A1750 (l1710 ++ [t1742]).length c1751)), (9, (.slice A_p0 p0.length c_p0)), (10, (iv (p0.length : Int))), (11, (iv x1602)), (23, (.agg #[(iv ((rdD p0 x1602 z_Tile).N)), (iv ((rdD p0 x1602 z_Tile).E)), (iv ((rdD p0 x1602 z_Tile).S)), (iv ((rdD p0 x1602 z_Tile).W))])), (24, (iv x1711))] [] (fun fb => by kernel_rfl) rfl trivial ?_
        refine WL.done rfl ?_
        refine WX.blockN (WX.next ?_)
        refine WC.region ?_
        refine seg 2 [] [3, 6, 9, 10, 11, 23, 24] [(3, (.slice A1599 l1601.length c1600)), (6, (.slice A1750 (l1710 ++ [t1742]).length c1751)), (9, (.slice A_p0 p0.length c_p0)), (10, (iv (p0.length : Int))), (11, (iv x1602)), (23, (.agg #[(iv ((rdD p0 x1602 z_Tile).N)), (iv ((rdD p0 x1602 z_Tile).E)), (iv ((rdD p0 x1602 z_Tile).S)), (iv ((rdD p0 x1602 z_Tile).W))])), (24, (iv (w64 (x1711 + 1))))] [] (fun fb => by kernel_rfl) rfl trivial ?_
        refine WL.done rfl ?_
        exact WX.again k1717 (Nat.lt_succ_self _) ((l1710 ++ [t1742], w64 (x1711 + 1)), A1750, c1751) [3, 6, 9, 10, 11, 23, 24] rfl ⟨(hS1753.subR [0]).sub [2, 0] (by decide), hl1720⟩
       rcases br_some hl1720 with ⟨h1754, hl1720⟩ | ⟨h1754, hl1720⟩
       ·
        refine WL.setI 24 (eq_of_beq h1754) rfl ?_
        refine seg 1 [] [3, 6, 9, 10, 11, 23, 24, 26] [(3, (.slice A1599 l1601.length c1600)), (6, (.slice A1708 l1710.length c1709)), (9, (.slice A_p0 p0.length c_p0)), (10, (iv (p0.length : Int))), (11, (iv x1602)), (23, (.agg #[(iv ((rdD p0 x1602 z_Tile).N)), (iv ((rdD p0 x1602 z_Tile).E)), (iv ((rdD p0 x1602 z_Tile).S)), (iv ((rdD p0 x1602 z_Tile).W))])), (24, (iv 2)), (26, (iv ((rdD p0 x1602 z_Tile).S)))] [] (fun fb => by kernel_rfl) rfl trivial ?_
        refine WL.setI 24 (eq_of_beq h1754).symm rfl ?_
        refine seg 2 [] [3, 6, 8, 9, 10, 11, 23, 24] [(3, (.slice A1599 l1601.length c1600)), (6, (.slice A1708 l1710.length c1709)), (8, (iv ((rdD p0 x1602 z_Tile).S))), (9, (.slice A_p0 p0.length c_p0)), (10, (iv (p0.length : Int))), (11, (iv x1602)), (23, (.agg #[(iv ((rdD p0 x1602 z_Tile).N)), (iv ((rdD p0 x1602 z_Tile).E)), (iv ((rdD p0 x1602 z_Tile).S)), (iv ((rdD p0 x1602 z_Tile).W))])), (24, (iv x1711))] [] (fun fb => by kernel_rfl) rfl trivial ?_
        refine WL.done rfl ?_
        refine WX.next ?_
        refine WC.region ?_
        refine seg 2 [] [3, 9, 10, 11, 23, 24, 27, 28] [(3, (.slice A1599 l1601.length c1600)), (9, (.slice A_p0 p0.length c_p0)), (10, (iv (p0.length : Int))), (11, (iv x1602)), (23, (.agg #[(iv ((rdD p0 x1602 z_Tile).N)), (iv ((rdD p0 x1602 z_Tile).E)), (iv ((rdD p0 x1602 z_Tile).S)), (iv ((rdD p0 x1602 z_Tile).W))])), (24, (iv x1711)), (27, (.slice A1708 l1710.length c1709)), (28, (iv ((rdD p0 x1602 z_Tile).S)))] [] (fun fb => by kernel_rfl) rfl trivial ?_
        obtain ⟨t1758, ht1759, hl1720⟩ := bind_some hl1720
        refine WL.call (some 29) 94 #[(iv ((rdD p0 x1602 z_Tile).S))] (fun fb => by kernel_rfl) (itoa_calls Tryd.strconv_Itoa_small ((rdD p0 x1602 z_Tile).S) t1758 _ ht1759) (fun v w1756 hR1755 => ?_)
        obtain ⟨rfl, hk_⟩ := hR1755
        have hS1757 := hS1719.keepN hk_
        refine ⟨trivial, ?_⟩
        refine WL.new hS1757 30 [] (fun g => (.slice (some ⟨g, 0, none⟩) 1 1)) (.cells #[(.string t1758)] 9 (0, 0)) [] (fun fb g => by kernel_rfl) trivial (fun g1760 w1761 hS1762 => ?_)
        refine ⟨trivial, ?_⟩
        have hS1764 : St NoS w w1761 [rowR enc_Tile A_p0 c_p0 p0] [rowO 9 encStr (some ⟨g1760, 0, none⟩) 1 [t1758], rowO 9 encStr A1599 c1600 l1601, rowO 9 encStr A1708 c1709 l1710] := hS1762.map1 0 _ (fun h => rowO.ofBlk h rfl (Nat.le_of_ble_eq_true (by kernel_rfl))) (fun _ h => by obtain ⟨_, h1, h2⟩ := h; injection h1 with h1; subst h1; exact h2) [1, 2] (by decide) (by decide)
        obtain ⟨h1765, hl1720⟩ := as_some hl1720
        refine WL.append hS1764 2 (d := 31) (tS := 106) (z := (.string ByteArray.empty)) (bytes := 16) (c2 := 1) rfl (fun fb => by kernel_rfl) (rowO.rd (hS1764.own 0).1) (by kernel_rfl) (by kernel_rfl) rfl (by decide) h1765 (by decide) [0, 1] (by decide) (by decide) (fun A1766 c1767 w1768 hS1769 => ?_)
        refine ⟨trivial, ?_⟩
        refine seg 6 [] [3, 6, 9, 10, 11, 23, 24] [(3, (.slice A1599 l1601.length c1600)), (6, (.slice A1766 (l1710 ++ [t1758]).length c1767)), (9, (.slice A_p0 p0.length c_p0)), (10, (iv (p0.length : Int))), (11, (iv x1602)), (23, (.agg #[(iv ((rdD p0 x1602 z_Tile).N)), (iv ((rdD p0 x1602 z_Tile).E)), (iv ((rdD p0 x1602 z_Tile).S)), (iv ((rdD p0 x1602 z_Tile).W))])), (24, (iv x1711))] [] (fun fb => by kernel_rfl) rfl trivial ?_
        refine WL.done rfl ?_
        refine WX.blockN (WX.next ?_)
        refine WC.region ?_
        refine seg 2 [] [3, 6, 9, 10, 11, 23, 24] [(3, (.slice A1599 l1601.length c1600)), (6, (.slice A1766 (l1710 ++ [t1758]).length c1767)), (9, (.slice A_p0 p0.length c_p0)), (10, (iv (p0.length : Int))), (11, (iv x1602)), (23, (.agg #[(iv ((rdD p0 x1602 z_Tile).N)), (iv ((rdD p0 x1602 z_Tile).E)), (iv ((rdD p0 x1602 z_Tile).S)), (iv ((rdD p0 x1602 z_Tile).W))])), (24, (iv (w64 (x1711 + 1))))] [] (fun fb => by kernel_rfl) rfl trivial ?_
        refine WL.done rfl ?_
        exact WX.again k1717 (Nat.lt_succ_self _) ((l1710 ++ [t1758], w64 (x1711 + 1)), A1766, c1767) [3, 6, 9, 10, 11, 23, 24] rfl ⟨(hS1769.subR [0]).sub [2, 0] (by decide), hl1720⟩
       rcases br_some hl1720 with ⟨h1770, hl1720⟩ | ⟨h1770, hl1720⟩
       ·
        refine WL.setI 24 (eq_of_beq h1770) rfl ?_
        refine seg 1 [] [3, 6, 9, 10, 11, 23, 24, 26] [(3, (.slice A1599 l1601.length c1600)), (6, (.slice A1708 l1710.length c1709)), (9, (.slice A_p0 p0.length c_p0)), (10, (iv (p0.length : Int))), (11, (iv x1602)), (23, (.agg #[(iv ((rdD p0 x1602 z_Tile).N)), (iv ((rdD p0 x1602 z_Tile).E)), (iv ((rdD p0 x1602 z_Tile).S)), (iv ((rdD p0 x1602 z_Tile).W))])), (24, (iv 3)), (26, (iv ((rdD p0 x1602 z_Tile).W)))] [] (fun fb => by kernel_rfl) rfl trivial ?_
        refine WL.setI 24 (eq_of_beq h1770).symm rfl ?_
        refine seg 2 [] [3, 6, 8, 9, 10, 11, 23, 24] [(3, (.slice A1599 l1601.length c1600)), (6, (.slice A1708 l1710.length c1709)), (8, (iv ((rdD p0 x1602 z_Tile).W))), (9, (.slice A_p0 p0.length c_p0)), (10, (iv (p0.length : Int))), (11, (iv x1602)), (23, (.agg #[(iv ((rdD p0 x1602 z_Tile).N)), (iv ((rdD p0 x1602 z_Tile).E)), (iv ((rdD p0 x1602 z_Tile).S)), (iv ((rdD p0 x1602 z_Tile).W))])), (24, (iv x1711))] [] (fun fb => by kernel_rfl) rfl trivial ?_
        refine WL.done rfl ?_
        refine WX.next ?_
        refine WC.region ?_
        refine seg 2 [] [3, 9, 10, 11, 23, 24, 27, 28] [(3, (.slice A1599 l1601.length c1600)), (9, (.slice A_p0 p0.length c_p0)), (10, (iv (p0.length : Int))), (11, (iv x1602)), (23, (.agg #[(iv ((rdD p0 x1602 z_Tile).N)), (iv ((rdD p0 x1602 z_Tile).E)), (iv ((rdD p0 x1602 z_Tile).S)), (iv ((rdD p0 x1602 z_Tile).W))])), (24, (iv x1711)), (27, (.slice A1708 l1710.length c1709)), (28, (iv ((rdD p0 x1602 z_Tile).W)))] [] (fun fb => by kernel_rfl) rfl trivial ?_
        obtain ⟨t1774, ht1775, hl1720⟩ := bind_some hl1720
        refine WL.call (some 29) 94 #[(iv ((rdD p0 x1602 z_Tile).W))] (fun fb => by kernel_rfl) (itoa_calls Tryd.strconv_Itoa_small ((rdD p0 x1602 z_Tile).W) t1774 _ ht1775) (fun v w1772 hR1771 => ?_)
        obtain ⟨rfl, hk_⟩ := hR1771
        have hS1773 := hS1719.keepN hk_
        refine ⟨trivial, ?_⟩
        refine WL.new hS1773 30 [] (fun g => (.slice (some ⟨g, 0, none⟩) 1 1)) (.cells #[(.string t1774)] 9 (0, 0)) [] (fun fb g => by kernel_rfl) trivial (fun g1776 w1777 hS1778 => ?_)
        refine ⟨trivial, ?_⟩
        have hS1780 : St NoS w w1777 [rowR enc_Tile A_p0 c_p0 p0] [rowO 9 encStr (some ⟨g1776, 0, none⟩) 1 [t1774], rowO 9 encStr A1599 c1600 l1601, rowO 9 encStr A1708 c1709 l1710] := hS1778.map1 0 _ (fun h => rowO.ofBlk h rfl (Nat.le_of_ble_eq_true (by kernel_rfl))) (fun _ h => by obtain ⟨_, h1, h2⟩ := h; injection h1 with h1; subst h1; exact h2) [1, 2] (by decide) (by decide)
        obtain ⟨h1781, hl1720⟩ := as_some hl1720
        refine WL.append hS1780 2 (d := 31) (tS := 106) (z := (.string ByteArray.empty)) (bytes := 16) (c2 := 1) rfl (fun fb => by kernel_rfl) (rowO.rd (hS1780.own 0).1) (by kernel_rfl) (by kernel_rfl) rfl (by decide) h1781 (by decide) [0, 1] (by decide) (by decide) (fun A1782 c1783 w1784 hS1785 => ?_)
        refine ⟨trivial, ?_⟩
        refine seg 6 [] [3, 6, 9, 10, 11, 23, 24] [(3, (.slice A1599 l1601.length c1600)), (6, (.slice A1782 (l1710 ++ [t1774]).length c1783)), (9, (.slice A_p0 p0.length c_p0)), (10, (iv (p0.length : Int))), (11, (iv x1602)), (23, (.agg #[(iv ((rdD p0 x1602 z_Tile).N)), (iv ((rdD p0 x1602 z_Tile).E)), (iv ((rdD p0 x1602 z_Tile).S)), (iv ((rdD p0 x1602 z_Tile).W))])), (24, (iv x1711))] [] (fun fb => by kernel_rfl) rfl trivial ?_
        refine WL.done rfl ?_
        refine WX.blockN (WX.next ?_)
        refine WC.region ?_
        refine seg 2 [] [3, 6, 9, 10, 11, 23, 24] [(3, (.slice A1599 l1601.length c1600)), (6, (.slice A1782 (l1710 ++ [t1774]).length c1783)), (9, (.slice A_p0 p0.length c_p0)), (10, (iv (p0.length : Int))), (11, (iv x1602)), (23, (.agg #[(iv ((rdD p0 x1602 z_Tile).N)), (iv ((rdD p0 x1602 z_Tile).E)), (iv ((rdD p0 x1602 z_Tile).S)), (iv ((rdD p0 x1602 z_Tile).W))])), (24, (iv (w64 (x1711 + 1))))] [] (fun fb => by kernel_rfl) rfl trivial ?_
        refine WL.done rfl ?_
        exact WX.again k1717 (Nat.lt_succ_self _) ((l1710 ++ [t1774], w64 (x1711 + 1)), A1782, c1783) [3, 6, 9, 10, 11, 23, 24] rfl ⟨(hS1785.subR [0]).sub [2, 0] (by decide), hl1720⟩
       cases hl1720
      refine WC.condF2 (fun fb => by kernel_rfl) h1721 ?_
      refine WC.exit ?_
      injection hl1720 with hl1720
      exact WX.thenX (WX.thenX (WX.blockHere (WX.to Kx1715 (l1710, A1708, c1709) [3, 6, 9, 10, 11] rfl ⟨(hS1719.subR [0]).sub [0, 1] (by decide), hl1720.symm⟩)))
    rintro ⟨y1789, A1712, c1713⟩ w1786 ⟨hS1787, hq1788⟩
    subst hq1788
    refine WX.next ?_
    refine WC.region ?_
    refine seg 2 [] [9, 10, 11, 33, 34] [(9, (.slice A_p0 p0.length c_p0)), (10, (iv (p0.length : Int))), (11, (iv x1602)), (33, (.slice A1599 l1601.length c1600)), (34, (.slice A1712 x1715.length c1713))] [] (fun fb => by kernel_rfl) rfl trivial ?_
    obtain ⟨t1793, ht1794, hl1611⟩ := bind_some hl1611
    refine WL.call (some 35) 95 #[(.slice A1712 x1715.length c1713), (.string (⟨#[46]⟩ : ByteArray))] (fun fb => by kernel_rfl) (join_calls Tryd.strings_Join Tryd.strings_Join_none x1715 (⟨#[46]⟩ : ByteArray) A1712 c1713 t1793 _ (hS1787.ow 1) ht1794) (fun v w1791 hR1790 => ?_)
    obtain ⟨rfl, hk_⟩ := hR1790
    have hS1792 := hS1787.keepN hk_
    refine ⟨trivial, ?_⟩
    refine WL.new hS1792 36 [] (fun g => (.slice (some ⟨g, 0, none⟩) 1 1)) (.cells #[(.string t1793)] 9 (0, 0)) [] (fun fb g => by kernel_rfl) trivial (fun g1795 w1796 hS1797 => ?_)
    refine ⟨trivial, ?_⟩
    have hS1799 : St NoS w w1796 [rowR enc_Tile A_p0 c_p0 p0] [rowO 9 encStr (some ⟨g1795, 0, none⟩) 1 [t1793], rowO 9 encStr A1599 c1600 l1601, rowO 9 encStr A1712 c1713 x1715] := hS1797.map1 0 _ (fun h => rowO.ofBlk h rfl (Nat.le_of_ble_eq_true (by kernel_rfl))) (fun _ h => by obtain ⟨_, h1, h2⟩ := h; injection h1 with h1; subst h1; exact h2) [1, 2] (by decide) (by decide)
    obtain ⟨h1800, hl1611⟩ := as_some hl1611
    refine WL.append hS1799 1 (d := 37) (tS := 106) (z := (.string ByteArray.empty)) (bytes := 16) (c2 := 1) rfl (fun fb => by kernel_rfl) (rowO.rd (hS1799.own 0).1) (by kernel_rfl) (by kernel_rfl) rfl (by decide) h1800 (by decide) [0, 2] (by decide) (by decide) (fun A1801 c1802 w1803 hS1804 => ?_)
    refine ⟨trivial, ?_⟩
    refine seg 6 [] [3, 9, 10, 11] [(3, (.slice A1801 (l1601 ++ [t1793]).length c1802)), (9, (.slice A_p0 p0.length c_p0)), (10, (iv (p0.length : Int))), (11, (iv x1602))] [] (fun fb => by kernel_rfl) rfl trivial ?_
    refine WL.done rfl ?_
    refine WX.blockN (WX.next ?_)
    refine WC.region ?_
    refine seg 2 [] [3, 9, 10, 11] [(3, (.slice A1801 (l1601 ++ [t1793]).length c1802)), (9, (.slice A_p0 p0.length c_p0)), (10, (iv (p0.length : Int))), (11, (iv (w64 (x1602 + 1))))] [] (fun fb => by kernel_rfl) rfl trivial ?_
    refine WL.done rfl ?_
    exact WX.again k1608 (Nat.lt_succ_self _) ((l1601 ++ [t1793], w64 (x1602 + 1)), A1801, c1802) [3, 9, 10, 11] rfl ⟨(hS1804.subR [0]).sub [0] (by decide), hl1611⟩
   refine WC.condF2 (fun fb => by kernel_rfl) h1612 ?_
   refine WC.exit ?_
   injection hl1611 with hl1611
   exact WX.thenX (WX.thenX (WX.blockHere (WX.to Kx1606 (l1601, A1599, c1600) [3] rfl ⟨(hS1610.subR [0]).sub [0] (by decide), hl1611.symm⟩)))
 rintro ⟨y1808, A1603, c1604⟩ w1805 ⟨hS1806, hq1807⟩
 subst hq1807
 refine WX.next ?_
 refine WC.seq ?_
 refine WC.region ?_
 refine seg 1 [] [39] [(39, (.slice A1603 x1606.length c1604))] [] (fun fb => by kernel_rfl) rfl trivial ?_
 obtain ⟨t1812, ht1813, hf⟩ := bind_some hf
 refine WL.call (some 40) 95 #[(.slice A1603 x1606.length c1604), (.string (⟨#[32]⟩ : ByteArray))] (fun fb => by kernel_rfl) (join_calls Tryd.strings_Join Tryd.strings_Join_none x1606 (⟨#[32]⟩ : ByteArray) A1603 c1604 t1812 _ (hS1806.ow 0) ht1813) (fun v w1810 hR1809 => ?_)
 obtain ⟨rfl, hk_⟩ := hR1809
 have hS1811 := hS1806.keepN hk_
 refine ⟨trivial, ?_⟩
 refine seg 3 [] [2] [(2, (.string t1812))] [] (fun fb => by kernel_rfl) rfl trivial ?_
 refine WL.done rfl ?_
 refine WX.next ?_
 refine WC.ret ?_
 injection hf with hf
 subst hf
 exact WX.ret_ [] (.string t1812) [] (fun fb => by kernel_rfl) trivial ⟨_, rfl, rfl, hS1811.keep⟩
theorem tile_Parse_calls (k : Nat) (p0 : ByteArray) (mG : Int) (r : (List Tile) × Int) (w : World) (hR0 : RO NoS w (cel ⟨2, 0, none⟩ (iv mG))) (hf : tile_Parse k p0 = some r) :
  CallsR Tryd.prog 49 #[(.string p0)] w (fun v w' => ∃ (A1_ : Option Addr), ∃ (c1_ : Nat), v = (.tuple #[(.slice A1_ r.1.length c1_), (iv r.2)]) ∧ St NoS w w' [] [rowO 40 enc_Tile A1_ c1_ r.1]) := by
 have hS : St NoS w w [cel ⟨2, 0, none⟩ (iv mG)] [] := St.init (ro_cons hR0 (ro_nil _ _))
 refine enter 76 Tryd.func49 rfl Tryd.ntmps49 rfl ?_
 unfold tile_Parse at hf
 refine WC.seq ?_
 refine WC.region ?_
 refine seg 2 [] [0] [(0, (.string p0))] [] (fun fb => by kernel_rfl) rfl trivial ?_
 refine WL.done rfl ?_
 refine WX.next ?_
 refine WC.seq ?_
 refine WC.region ?_
 refine seg 1 [] [0, 4] [(0, (.string p0)), (4, (.slice none 0 0))] [] (fun fb => by kernel_rfl) rfl trivial ?_
 refine WL.done rfl ?_
 refine WX.next ?_
 refine WC.seq ?_
 refine WC.seq ?_
 refine WC.region ?_
 refine seg 1 [] [0, 4, 13] [(0, (.string p0)), (4, (.slice none 0 0)), (13, (.string p0))] [] (fun fb => by kernel_rfl) rfl trivial ?_
 refine seg 2 [] [0, 4, 14] [(0, (.string p0)), (4, (.slice none 0 0)), (14, (.bool (p0.toList == (⟨#[]⟩ : ByteArray).toList)))] [] (fun fb => by kernel_rfl) rfl trivial ?_
 refine WL.setB 14 (strEq_raw p0 (⟨#[]⟩ : ByteArray)) rfl ?_
 refine WL.done rfl ?_
 refine WX.next ?_
 rcases br_some hf with ⟨h624, hf⟩ | ⟨h624, hf⟩
 ·refine WC.condT2 (fun fb => by kernel_rfl) h624 ?_
  refine WC.seq ?_
  refine WC.region ?_
  refine seg 2 [] [2, 3] [(2, (.slice none 0 0)), (3, (iv 0))] [] (fun fb => by kernel_rfl) rfl trivial ?_
  refine WL.done rfl ?_
  refine WX.next ?_
  refine WC.ret ?_
  have hS625 := hS.nilrow 40 enc_Tile
  injection hf with hf
  subst hf
  exact WX.thenR (WX.ret_ [] (.tuple #[(.slice none ([] : List Tile).length 0), (iv 0)]) [] (fun fb => by kernel_rfl) trivial ⟨_, rfl, none, 0, rfl, (hS625.sub [0] (by decide)).noR⟩)
 refine WC.condF2 (fun fb => by kernel_rfl) h624 ?_
 refine WC.skip ?_
 refine WX.next ?_
 refine WC.seq ?_
 refine WC.seq ?_
 refine WC.region ?_
 refine seg 3 [] [0, 4, 17] [(0, (.string p0)), (4, (.slice none 0 0)), (17, (.bool (decide ((p0.size : Int) > 16000))))] [] (fun fb => by kernel_rfl) rfl trivial ?_
 refine WL.done rfl ?_
 refine WX.next ?_
 rcases br_some hf with ⟨h626, hf⟩ | ⟨h626, hf⟩
 ·refine WC.condT2 (fun fb => by kernel_rfl) h626 ?_
  refine WC.seq ?_
  refine WC.region ?_
  refine seg 2 [] [2, 3] [(2, (.slice none 0 0)), (3, (iv 3))] [] (fun fb => by kernel_rfl) rfl trivial ?_
  refine WL.done rfl ?_
  refine WX.next ?_
  refine WC.ret ?_
  have hS627 := hS.nilrow 40 enc_Tile
  injection hf with hf
  subst hf
  exact WX.thenR (WX.ret_ [] (.tuple #[(.slice none ([] : List Tile).length 0), (iv 3)]) [] (fun fb => by kernel_rfl) trivial ⟨_, rfl, none, 0, rfl, (hS627.sub [0] (by decide)).noR⟩)
 refine WC.condF2 (fun fb => by kernel_rfl) h626 ?_
 refine WC.skip ?_
 refine WX.next ?_
 refine WC.seq ?_
 refine WC.seq ?_
 refine WC.region ?_
 refine seg 1 [] [0, 4, 18] [(0, (.string p0)), (4, (.slice none 0 0)), (18, (.string p0))] [] (fun fb => by kernel_rfl) rfl trivial ?_
 obtain ⟨h631, hf⟩ := as_some hf
 refine WL.call (some 19) 77 #[(.string p0), (.string (⟨#[32]⟩ : ByteArray))] (fun fb => by kernel_rfl) (split_calls Tryd.strings_Split p0 (⟨#[32]⟩ : ByteArray) mG _ (hS.rd 0) h631) (fun v w629 hR628 => ?_)
 obtain ⟨A632, c633, rfl, hk_⟩ := hR628
 have hS630 : St NoS w w629 [cel ⟨2, 0, none⟩ (iv mG)] [rowO 9 encStr A632 c633 (splitP p0 (⟨#[32]⟩ : ByteArray))] := hS.call hk_ [] [] (fun g hg => hg.elim) (by simp) (by decide)
 refine ⟨trivial, ?_⟩
 refine seg 4 [] [0, 4, 19, 20, 21] [(0, (.string p0)), (4, (.slice none 0 0)), (19, (.slice A632 (splitP p0 (⟨#[32]⟩ : ByteArray)).length c633)), (20, (iv ((splitP p0 (⟨#[32]⟩ : ByteArray)).length : Int))), (21, (iv 0))] [] (fun fb => by kernel_rfl) rfl trivial ?_
 refine WL.done rfl ?_
 refine WX.next ?_
 have hS876 := hS630.nilrow 40 enc_Tile
 obtain ⟨x884, hx885, hf⟩ := bind_some hf
 refine WC.cutN (T := (List Tile) × (Option Addr) × Nat) (fun t => [(0, (.string p0)), (4, (.slice t.2.1 t.1.length t.2.2))]) (fun t w1 => St NoS w w1 [cel ⟨2, 0, none⟩ (iv mG)] [rowO 40 enc_Tile t.2.1 t.2.2 t.1] ∧ x884 = .inr t.1) (fun Kx884 => ?_) ?_
 ·
  refine WC.block ?_
  refine WC.loop (T := ((List Tile) × Int) × (Option Addr) × Nat) (fun t => [(0, (.string p0)), (4, (.slice t.2.1 t.1.1.length t.2.2)), (19, (.slice A632 (splitP p0 (⟨#[32]⟩ : ByteArray)).length c633)), (20, (iv ((splitP p0 (⟨#[32]⟩ : ByteArray)).length : Int))), (21, (iv t.1.2))]) (fun n t w1 => St NoS w w1 [cel ⟨2, 0, none⟩ (iv mG)] [rowO 40 enc_Tile t.2.1 t.2.2 t.1.1, rowO 9 encStr A632 c633 (splitP p0 (⟨#[32]⟩ : ByteArray))] ∧ tile_Parse.l0 n t.1.1 t.1.2 p0 = some x884) k ((([] : List Tile), 0), none, 0) [0, 4, 19, 20, 21] rfl ⟨(hS876.subR [0]).sub [0, 1] (by decide), hx885⟩ ?_
  rintro k886 ⟨⟨l879, x880⟩, A877, c878⟩ w887 ⟨hS888, hl889⟩
  cases k886 with
  | zero => rw [tile_Parse.l0] at hl889; cases hl889
  | succ k886 =>
   rw [tile_Parse.l0] at hl889
   refine WC.seq ?_
   refine WC.region ?_
   refine seg 1 [] [0, 4, 19, 20, 21, 22] [(0, (.string p0)), (4, (.slice A877 l879.length c878)), (19, (.slice A632 (splitP p0 (⟨#[32]⟩ : ByteArray)).length c633)), (20, (iv ((splitP p0 (⟨#[32]⟩ : ByteArray)).length : Int))), (21, (iv x880)), (22, (.bool (decide (x880 < ((splitP p0 (⟨#[32]⟩ : ByteArray)).length : Int)))))] [] (fun fb => by kernel_rfl) rfl trivial ?_
   refine WL.done rfl ?_
   refine WX.next ?_
   refine WC.seq ?_
   rcases br_some hl889 with ⟨h890, hl889⟩ | ⟨h890, hl889⟩
   ·refine WC.condT2 (fun fb => by kernel_rfl) h890 ?_
    refine WC.skip ?_
    refine WX.next ?_
    refine WC.seq ?_
    refine WC.block ?_
    refine WC.seq ?_
    refine WC.region ?_
    obtain ⟨h891, hl889⟩ := as_some hl889
    refine seg 3 [.v (.string (rdD (splitP p0 (⟨#[32]⟩ : ByteArray)) x880 ByteArray.empty))] [0, 4, 6, 19, 20, 21] [(0, (.string p0)), (4, (.slice A877 l879.length c878)), (6, (.string (rdD (splitP p0 (⟨#[32]⟩ : ByteArray)) x880 ByteArray.empty))), (19, (.slice A632 (splitP p0 (⟨#[32]⟩ : ByteArray)).length c633)), (20, (iv ((splitP p0 (⟨#[32]⟩ : ByteArray)).length : Int))), (21, (iv x880))] [.idx A632 x880 (splitP p0 (⟨#[32]⟩ : ByteArray)).length, .cell ((adr A632).add ((x880).toNat * 1)) (.string (rdD (splitP p0 (⟨#[32]⟩ : ByteArray)) x880 ByteArray.empty))] (fun fb => by kernel_rfl) rfl ⟨rowR.adr (rowO.rd (hS888.own 1).1) h891.1 h891.2, rowR.cell (rowO.rd (hS888.own 1).1) ByteArray.empty h891.1 h891.2 0 rfl, trivial⟩ ?_
    refine WL.done rfl ?_
    refine WX.next ?_
    refine WC.seq ?_
    refine WC.region ?_
    refine seg 1 [] [0, 4, 19, 20, 21, 25] [(0, (.string p0)), (4, (.slice A877 l879.length c878)), (19, (.slice A632 (splitP p0 (⟨#[32]⟩ : ByteArray)).length c633)), (20, (iv ((splitP p0 (⟨#[32]⟩ : ByteArray)).length : Int))), (21, (iv x880)), (25, (.string (rdD (splitP p0 (⟨#[32]⟩ : ByteArray)) x880 ByteArray.empty)))] [] (fun fb => by kernel_rfl) rfl trivial ?_
    obtain ⟨h895, hl889⟩ := as_some hl889
    refine WL.call (some 26) 77 #[(.string (rdD (splitP p0 (⟨#[32]⟩ : ByteArray)) x880 ByteArray.empty)), (.string (⟨#[46]⟩ : ByteArray))] (fun fb => by kernel_rfl) (split_calls Tryd.strings_Split (rdD (splitP p0 (⟨#[32]⟩ : ByteArray)) x880 ByteArray.empty) (⟨#[46]⟩ : ByteArray) mG _ (hS888.rd 0) h895) (fun v w893 hR892 => ?_)
    obtain ⟨A896, c897, rfl, hk_⟩ := hR892
    have hS894 : St NoS w w893 [cel ⟨2, 0, none⟩ (iv mG)] [rowO 9 encStr A896 c897 (splitP (rdD (splitP p0 (⟨#[32]⟩ : ByteArray)) x880 ByteArray.empty) (⟨#[46]⟩ : ByteArray)), rowO 40 enc_Tile A877 c878 l879, rowO 9 encStr A632 c633 (splitP p0 (⟨#[32]⟩ : ByteArray))] := hS888.call hk_ [] [0, 1] (fun g hg => hg.elim) (by simp) (by decide)
    refine ⟨trivial, ?_⟩
    refine seg 3 [] [0, 4, 7, 19, 20, 21] [(0, (.string p0)), (4, (.slice A877 l879.length c878)), (7, (.slice A896 (splitP (rdD (splitP p0 (⟨#[32]⟩ : ByteArray)) x880 ByteArray.empty) (⟨#[46]⟩ : ByteArray)).length c897)), (19, (.slice A632 (splitP p0 (⟨#[32]⟩ : ByteArray)).length c633)), (20, (iv ((splitP p0 (⟨#[32]⟩ : ByteArray)).length : Int))), (21, (iv x880))] [] (fun fb => by kernel_rfl) rfl trivial ?_
    refine WL.done rfl ?_
    refine WX.next ?_
    refine WC.seq ?_
    refine WC.seq ?_
    refine WC.region ?_
    refine seg 4 [] [0, 4, 7, 19, 20, 21, 30] [(0, (.string p0)), (4, (.slice A877 l879.length c878)), (7, (.slice A896 (splitP (rdD (splitP p0 (⟨#[32]⟩ : ByteArray)) x880 ByteArray.empty) (⟨#[46]⟩ : ByteArray)).length c897)), (19, (.slice A632 (splitP p0 (⟨#[32]⟩ : ByteArray)).length c633)), (20, (iv ((splitP p0 (⟨#[32]⟩ : ByteArray)).length : Int))), (21, (iv x880)), (30, (.bool (((splitP (rdD (splitP p0 (⟨#[32]⟩ : ByteArray)) x880 ByteArray.empty) (⟨#[46]⟩ : ByteArray)).length : Int) != 4)))] [] (fun fb => by kernel_rfl) rfl trivial ?_
    refine WL.cutV (T := Bool) 8 (fun t => [(34, (.bool t)), (0, (.string p0)), (4, (.slice A877 l879.length c878)), (7, (.slice A896 (splitP (rdD (splitP p0 (⟨#[32]⟩ : ByteArray)) x880 ByteArray.empty) (⟨#[46]⟩ : ByteArray)).length c897)), (19, (.slice A632 (splitP p0 (⟨#[32]⟩ : ByteArray)).length c633)), (20, (iv ((splitP p0 (⟨#[32]⟩ : ByteArray)).length : Int))), (21, (iv x880))]) (fun t => ((((splitP (rdD (splitP p0 (⟨#[32]⟩ : ByteArray)) x880 ByteArray.empty) (⟨#[46]⟩ : ByteArray)).length : Int) != 4) || (decide ((l879.length : Int) > 1000))) = t) (fun K => ?_) ?_
    ·
     rcases Bool.eq_false_or_eq_true (((splitP (rdD (splitP p0 (⟨#[32]⟩ : ByteArray)) x880 ByteArray.empty) (⟨#[46]⟩ : ByteArray)).length : Int) != 4) with h898 | h898
     ·
      refine WL.setB 30 h898 rfl ?_
      refine seg 8 [] [0, 4, 7, 19, 20, 21, 34] [(0, (.string p0)), (4, (.slice A877 l879.length c878)), (7, (.slice A896 (splitP (rdD (splitP p0 (⟨#[32]⟩ : ByteArray)) x880 ByteArray.empty) (⟨#[46]⟩ : ByteArray)).length c897)), (19, (.slice A632 (splitP p0 (⟨#[32]⟩ : ByteArray)).length c633)), (20, (iv ((splitP p0 (⟨#[32]⟩ : ByteArray)).length : Int))), (21, (iv x880)), (34, (.bool true))] [] (fun fb => by kernel_rfl) rfl trivial ?_
      exact WL.toV K true [34, 0, 4, 7, 19, 20, 21] rfl (by first | (rw [h898]; done) | (rw [h898]; rfl))
     refine WL.setB 30 h898 rfl ?_
     refine seg 8 [] [0, 4, 7, 19, 20, 21, 34] [(0, (.string p0)), (4, (.slice A877 l879.length c878)), (7, (.slice A896 (splitP (rdD (splitP p0 (⟨#[32]⟩ : ByteArray)) x880 ByteArray.empty) (⟨#[46]⟩ : ByteArray)).length c897)), (19, (.slice A632 (splitP p0 (⟨#[32]⟩ : ByteArray)).length c633)), (20, (iv ((splitP p0 (⟨#[32]⟩ : ByteArray)).length : Int))), (21, (iv x880)), (34, (.bool (decide ((l879.length : Int) > 1000))))] [] (fun fb => by kernel_rfl) rfl trivial ?_
     exact WL.toV K (decide ((l879.length : Int) > 1000)) [34, 0, 4, 7, 19, 20, 21] rfl (by first | (rw [h898]; done) | (rw [h898]; rfl))
    rintro b899 rfl
    refine WL.done rfl ?_
    refine WX.next ?_
    rcases br_some hl889 with ⟨h900, hl889⟩ | ⟨h900, hl889⟩
    ·refine WC.condT2 (fun fb => by kernel_rfl) h900 ?_
     refine WC.seq ?_
     refine WC.region ?_
     refine seg 2 [] [2, 3] [(2, (.slice none 0 0)), (3, (iv 3))] [] (fun fb => by kernel_rfl) rfl trivial ?_
     refine WL.done rfl ?_
     refine WX.next ?_
     refine WC.ret ?_
     have hS901 := hS894.nilrow 40 enc_Tile
     injection hl889 with hl889
     subst hl889
     injection hf with hf
     subst hf
     exact WX.thenR (WX.blockR (WX.thenR (WX.thenR (WX.blockR (WX.thenR (WX.ret_ [] (.tuple #[(.slice none ([] : List Tile).length 0), (iv 3)]) [] (fun fb => by kernel_rfl) trivial ⟨_, rfl, none, 0, rfl, (hS901.sub [0] (by decide)).noR⟩))))))
    refine WC.condF2 (fun fb => by kernel_rfl) h900 ?_
    refine WC.skip ?_
    refine WX.next ?_
    refine WC.seq ?_
    refine WC.region ?_
    refine WL.new hS894 8 [] (fun g => (.pointer (some ⟨g, 0, none⟩))) (.cells #[(iv 0), (iv 0), (iv 0), (iv 0)] 108 (0, 0)) [] (fun fb g => by kernel_rfl) trivial (fun g902 w903 hS904 => ?_)
    refine ⟨trivial, ?_⟩
    refine WL.done rfl ?_
    refine WX.next ?_
    refine WC.seq ?_
    refine WC.seq ?_
    refine WC.region ?_
    refine seg 3 [] [0, 4, 8, 19, 20, 21, 35, 36, 37] [(0, (.string p0)), (4, (.slice A877 l879.length c878)), (8, (pt g902)), (19, (.slice A632 (splitP p0 (⟨#[32]⟩ : ByteArray)).length c633)), (20, (iv ((splitP p0 (⟨#[32]⟩ : ByteArray)).length : Int))), (21, (iv x880)), (35, (.slice A896 (splitP (rdD (splitP p0 (⟨#[32]⟩ : ByteArray)) x880 ByteArray.empty) (⟨#[46]⟩ : ByteArray)).length c897)), (36, (iv ((splitP (rdD (splitP p0 (⟨#[32]⟩ : ByteArray)) x880 ByteArray.empty) (⟨#[46]⟩ : ByteArray)).length : Int))), (37, (iv 0))] [] (fun fb => by kernel_rfl) rfl trivial ?_
    refine WL.done rfl ?_
    refine WX.next ?_
    obtain ⟨x969, hx970, hl889⟩ := bind_some hl889
    refine WC.cutN (T := Int × Int × Int × Int) (fun t => [(0, (.string p0)), (4, (.slice A877 l879.length c878)), (8, (pt g902)), (19, (.slice A632 (splitP p0 (⟨#[32]⟩ : ByteArray)).length c633)), (20, (iv ((splitP p0 (⟨#[32]⟩ : ByteArray)).length : Int))), (21, (iv x880))]) (fun t w1 => St NoS w w1 [cel ⟨2, 0, none⟩ (iv mG)] [rowO 40 enc_Tile A877 c878 l879, blk g902 (.cells #[(iv t.1), (iv t.2.1), (iv t.2.2.1), (iv t.2.2.2)] 108 (0, 0)), rowO 9 encStr A632 c633 (splitP p0 (⟨#[32]⟩ : ByteArray))] ∧ x969 = t) (fun Kx969 => ?_) ?_
    ·
     refine WC.block ?_
     refine WC.loop (T := Int × Int × Int × Int × Int) (fun t => [(0, (.string p0)), (4, (.slice A877 l879.length c878)), (8, (pt g902)), (19, (.slice A632 (splitP p0 (⟨#[32]⟩ : ByteArray)).length c633)), (20, (iv ((splitP p0 (⟨#[32]⟩ : ByteArray)).length : Int))), (21, (iv x880)), (35, (.slice A896 (splitP (rdD (splitP p0 (⟨#[32]⟩ : ByteArray)) x880 ByteArray.empty) (⟨#[46]⟩ : ByteArray)).length c897)), (36, (iv ((splitP (rdD (splitP p0 (⟨#[32]⟩ : ByteArray)) x880 ByteArray.empty) (⟨#[46]⟩ : ByteArray)).length : Int))), (37, (iv t.2.2.2.2))]) (fun n t w1 => St NoS w w1 [cel ⟨2, 0, none⟩ (iv mG)] [rowO 40 enc_Tile A877 c878 l879, blk g902 (.cells #[(iv t.1), (iv t.2.1), (iv t.2.2.1), (iv t.2.2.2.1)] 108 (0, 0)), rowO 9 encStr A632 c633 (splitP p0 (⟨#[32]⟩ : ByteArray)), rowO 9 encStr A896 c897 (splitP (rdD (splitP p0 (⟨#[32]⟩ : ByteArray)) x880 ByteArray.empty) (⟨#[46]⟩ : ByteArray))] ∧ tile_Parse.l1 n t.1 t.2.1 t.2.2.1 t.2.2.2.1 t.2.2.2.2 p0 x880 = some x969) k886 (0, 0, 0, 0, 0) [0, 4, 8, 19, 20, 21, 35, 36, 37] rfl ⟨(hS904.subR [0]).sub [2, 0, 3, 1] (by decide), hx970⟩ ?_
     rintro k971 ⟨x960, x961, x962, x963, x964⟩ w972 ⟨hS973, hl974⟩
     cases k971 with
     | zero => rw [tile_Parse.l1] at hl974; cases hl974
     | succ k971 =>
      rw [tile_Parse.l1] at hl974
      refine WC.seq ?_
      refine WC.region ?_
      refine seg 1 [] [0, 4, 8, 19, 20, 21, 35, 36, 37, 38] [(0, (.string p0)), (4, (.slice A877 l879.length c878)), (8, (pt g902)), (19, (.slice A632 (splitP p0 (⟨#[32]⟩ : ByteArray)).length c633)), (20, (iv ((splitP p0 (⟨#[32]⟩ : ByteArray)).length : Int))), (21, (iv x880)), (35, (.slice A896 (splitP (rdD (splitP p0 (⟨#[32]⟩ : ByteArray)) x880 ByteArray.empty) (⟨#[46]⟩ : ByteArray)).length c897)), (36, (iv ((splitP (rdD (splitP p0 (⟨#[32]⟩ : ByteArray)) x880 ByteArray.empty) (⟨#[46]⟩ : ByteArray)).length : Int))), (37, (iv x964)), (38, (.bool (decide (x964 < ((splitP (rdD (splitP p0 (⟨#[32]⟩ : ByteArray)) x880 ByteArray.empty) (⟨#[46]⟩ : ByteArray)).length : Int)))))] [] (fun fb => by kernel_rfl) rfl trivial ?_
      refine WL.done rfl ?_
      refine WX.next ?_
      refine WC.seq ?_
      rcases br_some hl974 with ⟨h975, hl974⟩ | ⟨h975, hl974⟩
      ·refine WC.condT2 (fun fb => by kernel_rfl) h975 ?_
       refine WC.skip ?_
       refine WX.next ?_
       refine WC.seq ?_
       refine WC.block ?_
       refine WC.seq ?_
       refine WC.region ?_
       refine seg 1 [] [0, 4, 8, 19, 20, 21, 35, 36, 37, 39] [(0, (.string p0)), (4, (.slice A877 l879.length c878)), (8, (pt g902)), (19, (.slice A632 (splitP p0 (⟨#[32]⟩ : ByteArray)).length c633)), (20, (iv ((splitP p0 (⟨#[32]⟩ : ByteArray)).length : Int))), (21, (iv x880)), (35, (.slice A896 (splitP (rdD (splitP p0 (⟨#[32]⟩ : ByteArray)) x880 ByteArray.empty) (⟨#[46]⟩ : ByteArray)).length c897)), (36, (iv ((splitP (rdD (splitP p0 (⟨#[32]⟩ : ByteArray)) x880 ByteArray.empty) (⟨#[46]⟩ : ByteArray)).length : Int))), (37, (iv x964)), (39, (iv x964))] [] (fun fb => by kernel_rfl) rfl trivial ?_
       obtain ⟨h976, hl974⟩ := as_some hl974
       refine seg 5 [.v (.string (rdD (splitP (rdD (splitP p0 (⟨#[32]⟩ : ByteArray)) x880 ByteArray.empty) (⟨#[46]⟩ : ByteArray)) x964 ByteArray.empty))] [0, 4, 8, 9, 10, 19, 20, 21, 35, 36, 37] [(0, (.string p0)), (4, (.slice A877 l879.length c878)), (8, (pt g902)), (9, (iv x964)), (10, (.string (rdD (splitP (rdD (splitP p0 (⟨#[32]⟩ : ByteArray)) x880 ByteArray.empty) (⟨#[46]⟩ : ByteArray)) x964 ByteArray.empty))), (19, (.slice A632 (splitP p0 (⟨#[32]⟩ : ByteArray)).length c633)), (20, (iv ((splitP p0 (⟨#[32]⟩ : ByteArray)).length : Int))), (21, (iv x880)), (35, (.slice A896 (splitP (rdD (splitP p0 (⟨#[32]⟩ : ByteArray)) x880 ByteArray.empty) (⟨#[46]⟩ : ByteArray)).length c897)), (36, (iv ((splitP (rdD (splitP p0 (⟨#[32]⟩ : ByteArray)) x880 ByteArray.empty) (⟨#[46]⟩ : ByteArray)).length : Int))), (37, (iv x964))] [.idx A896 x964 (splitP (rdD (splitP p0 (⟨#[32]⟩ : ByteArray)) x880 ByteArray.empty) (⟨#[46]⟩ : ByteArray)).length, .cell ((adr A896).add ((x964).toNat * 1)) (.string (rdD (splitP (rdD (splitP p0 (⟨#[32]⟩ : ByteArray)) x880 ByteArray.empty) (⟨#[46]⟩ : ByteArray)) x964 ByteArray.empty))] (fun fb => by kernel_rfl) rfl ⟨rowR.adr (rowO.rd (hS973.own 3).1) h976.1 h976.2, rowR.cell (rowO.rd (hS973.own 3).1) ByteArray.empty h976.1 h976.2 0 rfl, trivial⟩ ?_
       refine WL.done rfl ?_
       refine WX.next ?_
       refine WC.seq ?_
       refine WC.region ?_
       refine seg 1 [] [0, 4, 8, 9, 19, 20, 21, 35, 36, 37, 43] [(0, (.string p0)), (4, (.slice A877 l879.length c878)), (8, (pt g902)), (9, (iv x964)), (19, (.slice A632 (splitP p0 (⟨#[32]⟩ : ByteArray)).length c633)), (20, (iv ((splitP p0 (⟨#[32]⟩ : ByteArray)).length : Int))), (21, (iv x880)), (35, (.slice A896 (splitP (rdD (splitP p0 (⟨#[32]⟩ : ByteArray)) x880 ByteArray.empty) (⟨#[46]⟩ : ByteArray)).length c897)), (36, (iv ((splitP (rdD (splitP p0 (⟨#[32]⟩ : ByteArray)) x880 ByteArray.empty) (⟨#[46]⟩ : ByteArray)).length : Int))), (37, (iv x964)), (43, (.string (rdD (splitP (rdD (splitP p0 (⟨#[32]⟩ : ByteArray)) x880 ByteArray.empty) (⟨#[46]⟩ : ByteArray)) x964 ByteArray.empty)))] [] (fun fb => by kernel_rfl) rfl trivial ?_
       obtain ⟨t980, ht981, hl974⟩ := bind_some hl974
       refine WL.call (some 44) 78 #[(.string (rdD (splitP (rdD (splitP p0 (⟨#[32]⟩ : ByteArray)) x880 ByteArray.empty) (⟨#[46]⟩ : ByteArray)) x964 ByteArray.empty))] (fun fb => by kernel_rfl) (atoi_calls Tryd.strconv_Atoi_ok (rdD (splitP (rdD (splitP p0 (⟨#[32]⟩ : ByteArray)) x880 ByteArray.empty) (⟨#[46]⟩ : ByteArray)) x964 ByteArray.empty) t980 _ ht981) (fun v w978 hR977 => ?_)
       obtain ⟨rfl, hk_⟩ := hR977
       have hS979 := hS973.keepN hk_
       refine ⟨trivial, ?_⟩
       refine seg 7 [] [0, 4, 8, 9, 11, 12, 19, 20, 21, 35, 36, 37] [(0, (.string p0)), (4, (.slice A877 l879.length c878)), (8, (pt g902)), (9, (iv x964)), (11, (iv t980)), (12, .nilIface), (19, (.slice A632 (splitP p0 (⟨#[32]⟩ : ByteArray)).length c633)), (20, (iv ((splitP p0 (⟨#[32]⟩ : ByteArray)).length : Int))), (21, (iv x880)), (35, (.slice A896 (splitP (rdD (splitP p0 (⟨#[32]⟩ : ByteArray)) x880 ByteArray.empty) (⟨#[46]⟩ : ByteArray)).length c897)), (36, (iv ((splitP (rdD (splitP p0 (⟨#[32]⟩ : ByteArray)) x880 ByteArray.empty) (⟨#[46]⟩ : ByteArray)).length : Int))), (37, (iv x964))] [] (fun fb => by kernel_rfl) rfl trivial ?_
       refine WL.done rfl ?_
       refine WX.next ?_
       refine WC.seq ?_
       refine WC.seq ?_
       refine WC.region ?_
       refine seg 2 [] [0, 4, 8, 9, 11, 19, 20, 21, 35, 36, 37, 48] [(0, (.string p0)), (4, (.slice A877 l879.length c878)), (8, (pt g902)), (9, (iv x964)), (11, (iv t980)), (19, (.slice A632 (splitP p0 (⟨#[32]⟩ : ByteArray)).length c633)), (20, (iv ((splitP p0 (⟨#[32]⟩ : ByteArray)).length : Int))), (21, (iv x880)), (35, (.slice A896 (splitP (rdD (splitP p0 (⟨#[32]⟩ : ByteArray)) x880 ByteArray.empty) (⟨#[46]⟩ : ByteArray)).length c897)), (36, (iv ((splitP (rdD (splitP p0 (⟨#[32]⟩ : ByteArray)) x880 ByteArray.empty) (⟨#[46]⟩ : ByteArray)).length : Int))), (37, (iv x964)), (48, (.bool false))] [] (fun fb => by kernel_rfl) rfl trivial ?_
       refine WL.done rfl ?_
       refine WX.next ?_
       refine WC.condF (fun fb => by kernel_rfl) ?_
       refine WC.skip ?_
       refine WX.next ?_
       refine WC.region ?_
       refine seg 2 [] [0, 4, 8, 19, 20, 21, 35, 36, 37, 49, 50] [(0, (.string p0)), (4, (.slice A877 l879.length c878)), (8, (pt g902)), (19, (.slice A632 (splitP p0 (⟨#[32]⟩ : ByteArray)).length c633)), (20, (iv ((splitP p0 (⟨#[32]⟩ : ByteArray)).length : Int))), (21, (iv x880)), (35, (.slice A896 (splitP (rdD (splitP p0 (⟨#[32]⟩ : ByteArray)) x880 ByteArray.empty) (⟨#[46]⟩ : ByteArray)).length c897)), (36, (iv ((splitP (rdD (splitP p0 (⟨#[32]⟩ : ByteArray)) x880 ByteArray.empty) (⟨#[46]⟩ : ByteArray)).length : Int))), (37, (iv x964)), (49, (iv x964)), (50, (iv t980))] [] (fun fb => by kernel_rfl) rfl trivial ?_
       rcases br_some hl974 with ⟨h982, hl974⟩ | ⟨h982, hl974⟩
       ·
        refine WL.setI 49 (eq_of_beq h982) rfl ?_
        refine seg 3 [] [0, 4, 8, 19, 20, 21, 35, 36, 37, 50, 51] [(0, (.string p0)), (4, (.slice A877 l879.length c878)), (8, (pt g902)), (19, (.slice A632 (splitP p0 (⟨#[32]⟩ : ByteArray)).length c633)), (20, (iv ((splitP p0 (⟨#[32]⟩ : ByteArray)).length : Int))), (21, (iv x880)), (35, (.slice A896 (splitP (rdD (splitP p0 (⟨#[32]⟩ : ByteArray)) x880 ByteArray.empty) (⟨#[46]⟩ : ByteArray)).length c897)), (36, (iv ((splitP (rdD (splitP p0 (⟨#[32]⟩ : ByteArray)) x880 ByteArray.empty) (⟨#[46]⟩ : ByteArray)).length : Int))), (37, (iv x964)), (50, (iv t980)), (51, (pt g902))] [] (fun fb => by kernel_rfl) rfl trivial ?_
        refine WL.store hS979 1 rfl [(0, (iv t980))] #[(iv t980), (iv x961), (iv x962), (iv x963)] (fun fb => by kernel_rfl) (by kernel_rfl) rfl [0, 2, 3] (by decide) (by decide) (fun w983 hS984 => ?_)
        refine ⟨trivial, ?_⟩
        refine WL.done rfl ?_
        refine WX.blockN (WX.next ?_)
        refine WC.region ?_
        refine seg 2 [] [0, 4, 8, 19, 20, 21, 35, 36, 37] [(0, (.string p0)), (4, (.slice A877 l879.length c878)), (8, (pt g902)), (19, (.slice A632 (splitP p0 (⟨#[32]⟩ : ByteArray)).length c633)), (20, (iv ((splitP p0 (⟨#[32]⟩ : ByteArray)).length : Int))), (21, (iv x880)), (35, (.slice A896 (splitP (rdD (splitP p0 (⟨#[32]⟩ : ByteArray)) x880 ByteArray.empty) (⟨#[46]⟩ : ByteArray)).length c897)), (36, (iv ((splitP (rdD (splitP p0 (⟨#[32]⟩ : ByteArray)) x880 ByteArray.empty) (⟨#[46]⟩ : ByteArray)).length : Int))), (37, (iv (w64 (x964 + 1))))] [] (fun fb => by kernel_rfl) rfl trivial ?_
        refine WL.done rfl ?_
        exact WX.again k971 (Nat.lt_succ_self _) (t980, x961, x962, x963, w64 (x964 + 1)) [0, 4, 8, 19, 20, 21, 35, 36, 37] rfl ⟨(hS984.subR [0]).sub [1, 0, 2, 3] (by decide), hl974⟩
       rcases br_some hl974 with ⟨h985, hl974⟩ | ⟨h985, hl974⟩
       ·
        refine WL.setI 49 (eq_of_beq h985) rfl ?_
        refine seg 3 [] [0, 4, 8, 19, 20, 21, 35, 36, 37, 50, 51] [(0, (.string p0)), (4, (.slice A877 l879.length c878)), (8, (pt g902)), (19, (.slice A632 (splitP p0 (⟨#[32]⟩ : ByteArray)).length c633)), (20, (iv ((splitP p0 (⟨#[32]⟩ : ByteArray)).length : Int))), (21, (iv x880)), (35, (.slice A896 (splitP (rdD (splitP p0 (⟨#[32]⟩ : ByteArray)) x880 ByteArray.empty) (⟨#[46]⟩ : ByteArray)).length c897)), (36, (iv ((splitP (rdD (splitP p0 (⟨#[32]⟩ : ByteArray)) x880 ByteArray.empty) (⟨#[46]⟩ : ByteArray)).length : Int))), (37, (iv x964)), (50, (iv t980)), (51, (.pointer (some ⟨g902, 1, none⟩)))] [] (fun fb => by kernel_rfl) rfl trivial ?_
        refine WL.store hS979 1 rfl [(1, (iv t980))] #[(iv x960), (iv t980), (iv x962), (iv x963)] (fun fb => by kernel_rfl) (by kernel_rfl) rfl [0, 2, 3] (by decide) (by decide) (fun w986 hS987 => ?_)
        refine ⟨trivial, ?_⟩
        refine WL.done rfl ?_
        refine WX.blockN (WX.next ?_)
        refine WC.region ?_
        refine seg 2 [] [0, 4, 8, 19, 20, 21, 35, 36, 37] [(0, (.string p0)), (4, (.slice A877 l879.length c878)), (8, (pt g902)), (19, (.slice A632 (splitP p0 (⟨#[32]⟩ : ByteArray)).length c633)), (20, (iv ((splitP p0 (⟨#[32]⟩ : ByteArray)).length : Int))), (21, (iv x880)), (35, (.slice A896 (splitP (rdD (splitP p0 (⟨#[32]⟩ : ByteArray)) x880 ByteArray.empty) (⟨#[46]⟩ : ByteArray)).length c897)), (36, (iv ((splitP (rdD (splitP p0 (⟨#[32]⟩ : ByteArray)) x880 ByteArray.empty) (⟨#[46]⟩ : ByteArray)).length : Int))), (37, (iv (w64 (x964 + 1))))] [] (fun fb => by kernel_rfl) rfl trivial ?_
        refine WL.done rfl ?_
        exact WX.again k971 (Nat.lt_succ_self _) (x960, t980, x962, x963, w64 (x964 + 1)) [0, 4, 8, 19, 20, 21, 35, 36, 37] rfl ⟨(hS987.subR [0]).sub [1, 0, 2, 3] (by decide), hl974⟩
       rcases br_some hl974 with ⟨h988, hl974⟩ | ⟨h988, hl974⟩
       ·
        refine WL.setI 49 (eq_of_beq h988) rfl ?_
        refine seg 3 [] [0, 4, 8, 19, 20, 21, 35, 36, 37, 50, 51] [(0, (.string p0)), (4, (.slice A877 l879.length c878)), (8, (pt g902)), (19, (.slice A632 (splitP p0 (⟨#[32]⟩ : ByteArray)).length c633)), (20, (iv ((splitP p0 (⟨#[32]⟩ : ByteArray)).length : Int))), (21, (iv x880)), (35, (.slice A896 (splitP (rdD (splitP p0 (⟨#[32]⟩ : ByteArray)) x880 ByteArray.empty) (⟨#[46]⟩ : ByteArray)).length c897)), (36, (iv ((splitP (rdD (splitP p0 (⟨#[32]⟩ : ByteArray)) x880 ByteArray.empty) (⟨#[46]⟩ : ByteArray)).length : Int))), (37, (iv x964)), (50, (iv t980)), (51, (.pointer (some ⟨g902, 2, none⟩)))] [] (fun fb => by kernel_rfl) rfl trivial ?_
        refine WL.store hS979 1 rfl [(2, (iv t980))] #[(iv x960), (iv x961), (iv t980), (iv x963)] (fun fb => by kernel_rfl) (by kernel_rfl) rfl [0, 2, 3] (by decide) (by decide) (fun w989 hS990 => ?_)
        refine ⟨trivial, ?_⟩
        refine WL.done rfl ?_
        refine WX.blockN (WX.next ?_)
        refine WC.region ?_
        refine seg 2 [] [0, 4, 8, 19, 20, 21, 35, 36, 37] [(0, (.string p0)), (4, (.slice A877 l879.length c878)), (8, (pt g902)), (19, (.slice A632 (splitP p0 (⟨#[32]⟩ : ByteArray)).length c633)), (20, (iv ((splitP p0 (⟨#[32]⟩ : ByteArray)).length : Int))), (21, (iv x880)), (35, (.slice A896 (splitP (rdD (splitP p0 (⟨#[32]⟩ : ByteArray)) x880 ByteArray.empty) (⟨#[46]⟩ : ByteArray)).length c897)), (36, (iv ((splitP (rdD (splitP p0 (⟨#[32]⟩ : ByteArray)) x880 ByteArray.empty) (⟨#[46]⟩ : ByteArray)).length : Int))), (37, (iv (w64 (x964 + 1))))] [] (fun fb => by kernel_rfl) rfl trivial ?_
        refine WL.done rfl ?_
        exact WX.again k971 (Nat.lt_succ_self _) (x960, x961, t980, x963, w64 (x964 + 1)) [0, 4, 8, 19, 20, 21, 35, 36, 37] rfl ⟨(hS990.subR [0]).sub [1, 0, 2, 3] (by decide), hl974⟩
       rcases br_some hl974 with ⟨h991, hl974⟩ | ⟨h991, hl974⟩
       ·
        refine WL.setI 49 (eq_of_beq h991) rfl ?_
        refine seg 3 [] [0, 4, 8, 19, 20, 21, 35, 36, 37, 50, 51] [(0, (.string p0)), (4, (.slice A877 l879.length c878)), (8, (pt g902)), (19, (.slice A632 (splitP p0 (⟨#[32]⟩ : ByteArray)).length c633)), (20, (iv ((splitP p0 (⟨#[32]⟩ : ByteArray)).length : Int))), (21, (iv x880)), (35, (.slice A896 (splitP (rdD (splitP p0 (⟨#[32]⟩ : ByteArray)) x880 ByteArray.empty) (⟨#[46]⟩ : ByteArray)).length c897)), (36, (iv ((splitP (rdD (splitP p0 (⟨#[32]⟩ : ByteArray)) x880 ByteArray.empty) (⟨#[46]⟩ : ByteArray)).length : Int))), (37, (iv x964)), (50, (iv t980)), (51, (.pointer (some ⟨g902, 3, none⟩)))] [] (fun fb => by kernel_rfl) rfl trivial ?_
        refine WL.store hS979 1 rfl [(3, (iv t980))] #[(iv x960), (iv x961), (iv x962), (iv t980)] (fun fb => by kernel_rfl) (by kernel_rfl) rfl [0, 2, 3] (by decide) (by decide) (fun w992 hS993 => ?_)
        refine ⟨trivial, ?_⟩
        refine WL.done rfl ?_
        refine WX.blockN (WX.next ?_)
        refine WC.region ?_
        refine seg 2 [] [0, 4, 8, 19, 20, 21, 35, 36, 37] [(0, (.string p0)), (4, (.slice A877 l879.length c878)), (8, (pt g902)), (19, (.slice A632 (splitP p0 (⟨#[32]⟩ : ByteArray)).length c633)), (20, (iv ((splitP p0 (⟨#[32]⟩ : ByteArray)).length : Int))), (21, (iv x880)), (35, (.slice A896 (splitP (rdD (splitP p0 (⟨#[32]⟩ : ByteArray)) x880 ByteArray.empty) (⟨#[46]⟩ : ByteArray)).length c897)), (36, (iv ((splitP (rdD (splitP p0 (⟨#[32]⟩ : ByteArray)) x880 ByteArray.empty) (⟨#[46]⟩ : ByteArray)).length : Int))), (37, (iv (w64 (x964 + 1))))] [] (fun fb => by kernel_rfl) rfl trivial ?_
        refine WL.done rfl ?_
        exact WX.again k971 (Nat.lt_succ_self _) (x960, x961, x962, t980, w64 (x964 + 1)) [0, 4, 8, 19, 20, 21, 35, 36, 37] rfl ⟨(hS993.subR [0]).sub [1, 0, 2, 3] (by decide), hl974⟩
       cases hl974
      refine WC.condF2 (fun fb => by kernel_rfl) h975 ?_
      refine WC.exit ?_
      injection hl974 with hl974
      exact WX.thenX (WX.thenX (WX.blockHere (WX.to Kx969 (x960, x961, x962, x963) [0, 4, 8, 19, 20, 21] rfl ⟨(hS973.subR [0]).sub [0, 1, 2] (by decide), hl974.symm⟩)))
    rintro y997 w994 ⟨hS995, hq996⟩
    subst hq996
    refine WX.next ?_
    refine WC.region ?_
    refine seg 10 [.v (iv x969.1), .v (iv x969.2.1), .v (iv x969.2.2.1), .v (iv x969.2.2.2)] [0, 19, 20, 21, 53, 62] [(0, (.string p0)), (19, (.slice A632 (splitP p0 (⟨#[32]⟩ : ByteArray)).length c633)), (20, (iv ((splitP p0 (⟨#[32]⟩ : ByteArray)).length : Int))), (21, (iv x880)), (53, (.slice A877 l879.length c878)), (62, (.agg #[(iv x969.1), (iv x969.2.1), (iv x969.2.2.1), (iv x969.2.2.2)]))] [.cell ⟨g902, 0, none⟩ (iv x969.1), .cell ⟨g902, 1, none⟩ (iv x969.2.1), .cell ⟨g902, 2, none⟩ (iv x969.2.2.1), .cell ⟨g902, 3, none⟩ (iv x969.2.2.2)] (fun fb => by kernel_rfl) rfl ⟨hS995.cell 1 rfl 0 rfl, hS995.cell 1 rfl 1 rfl, hS995.cell 1 rfl 2 rfl, hS995.cell 1 rfl 3 rfl, trivial⟩ ?_
    refine WL.new hS995 63 [] (fun g => (.slice (some ⟨g, 0, none⟩) 1 1)) (.cells #[(iv x969.1), (iv x969.2.1), (iv x969.2.2.1), (iv x969.2.2.2)] 40 (0, 0)) [] (fun fb g => by kernel_rfl) trivial (fun g998 w999 hS1000 => ?_)
    refine ⟨trivial, ?_⟩
    have hS1002 : St NoS w w999 [cel ⟨2, 0, none⟩ (iv mG)] [rowO 40 enc_Tile (some ⟨g998, 0, none⟩) 1 [(Tile.mk x969.1 x969.2.1 x969.2.2.1 x969.2.2.2)], rowO 40 enc_Tile A877 c878 l879, blk g902 (.cells #[(iv x969.1), (iv x969.2.1), (iv x969.2.2.1), (iv x969.2.2.2)] 108 (0, 0)), rowO 9 encStr A632 c633 (splitP p0 (⟨#[32]⟩ : ByteArray))] := hS1000.map1 0 _ (fun h => rowO.ofBlk h rfl (Nat.le_of_ble_eq_true (by kernel_rfl))) (fun _ h => by obtain ⟨_, h1, h2⟩ := h; injection h1 with h1; subst h1; exact h2) [1, 2, 3] (by decide) (by decide)
    obtain ⟨h1003, hl889⟩ := as_some hl889
    refine WL.append hS1002 1 (d := 64) (tS := 22) (z := (.agg #[(iv 0), (iv 0), (iv 0), (iv 0)])) (bytes := 32) (c2 := 1) rfl (fun fb => by kernel_rfl) (rowO.rd (hS1002.own 0).1) (by kernel_rfl) (by kernel_rfl) rfl (by decide) h1003 (by decide) [0, 2, 3] (by decide) (by decide) (fun A1004 c1005 w1006 hS1007 => ?_)
    refine ⟨trivial, ?_⟩
    refine seg 13 [] [0, 4, 19, 20, 21] [(0, (.string p0)), (4, (.slice A1004 (l879 ++ [(Tile.mk x969.1 x969.2.1 x969.2.2.1 x969.2.2.2)]).length c1005)), (19, (.slice A632 (splitP p0 (⟨#[32]⟩ : ByteArray)).length c633)), (20, (iv ((splitP p0 (⟨#[32]⟩ : ByteArray)).length : Int))), (21, (iv x880))] [] (fun fb => by kernel_rfl) rfl trivial ?_
    refine WL.done rfl ?_
    refine WX.blockN (WX.next ?_)
    refine WC.region ?_
    refine seg 2 [] [0, 4, 19, 20, 21] [(0, (.string p0)), (4, (.slice A1004 (l879 ++ [(Tile.mk x969.1 x969.2.1 x969.2.2.1 x969.2.2.2)]).length c1005)), (19, (.slice A632 (splitP p0 (⟨#[32]⟩ : ByteArray)).length c633)), (20, (iv ((splitP p0 (⟨#[32]⟩ : ByteArray)).length : Int))), (21, (iv (w64 (x880 + 1))))] [] (fun fb => by kernel_rfl) rfl trivial ?_
    refine WL.done rfl ?_
    exact WX.again k886 (Nat.lt_succ_self _) ((l879 ++ [(Tile.mk x969.1 x969.2.1 x969.2.2.1 x969.2.2.2)], w64 (x880 + 1)), A1004, c1005) [0, 4, 19, 20, 21] rfl ⟨(hS1007.subR [0]).sub [0, 3] (by decide), hl889⟩
   refine WC.condF2 (fun fb => by kernel_rfl) h890 ?_
   refine WC.exit ?_
   injection hl889 with hl889
   exact WX.thenX (WX.thenX (WX.blockHere (WX.to Kx884 (l879, A877, c878) [0, 4] rfl ⟨(hS888.subR [0]).sub [0] (by decide), hl889.symm⟩)))
 rintro ⟨y1011, A881, c882⟩ w1008 ⟨hS1009, hq1010⟩
 subst hq1010
 have hf := sum_inr hf
 refine WX.next ?_
 refine WC.seq ?_
 refine WC.seq ?_
 refine WC.region ?_
 refine seg 1 [] [0, 4, 66] [(0, (.string p0)), (4, (.slice A881 y1011.length c882)), (66, (.slice A881 y1011.length c882))] [] (fun fb => by kernel_rfl) rfl trivial ?_
 obtain ⟨t1201, ht1202, hf⟩ := bind_some hf
 refine WL.call (some 67) 52 #[(.slice A881 y1011.length c882)] (fun fb => by kernel_rfl) (tile_Valid_calls _ y1011 A881 c882 t1201 _ (hS1009.ow 0).ofO ht1202) (fun v w1203 hR1204 => ?_)
 obtain ⟨rfl, hk_⟩ := hR1204
 have hS1205 := hS1009.keepN hk_
 refine ⟨trivial, ?_⟩
 refine seg 4 [] [0, 4, 69] [(0, (.string p0)), (4, (.slice A881 y1011.length c882)), (69, (.bool (!t1201)))] [] (fun fb => by kernel_rfl) rfl trivial ?_
 obtain ⟨x1820, hx1821, hf⟩ := bind_some hf
 refine WL.cutW (T := Bool) 9 (fun t => [(4, (.slice A881 y1011.length c882)), (74, (.bool t))]) (fun t w1 => (St NoS w w1 [cel ⟨2, 0, none⟩ (iv mG)] [rowO 40 enc_Tile A881 c882 y1011] ∧ x1820 = t) ∧ CellsOK [] w1) (fun K => ?_) ?_
 ·
  rcases br_some hx1821 with ⟨h1822, hx1821⟩ | ⟨h1822, hx1821⟩
  ·
   refine WL.setB 69 h1822 rfl ?_
   refine seg 9 [] [4, 74] [(4, (.slice A881 y1011.length c882)), (74, (.bool true))] [] (fun fb => by kernel_rfl) rfl trivial ?_
   injection hx1821 with hx1821
   exact WL.to K true [4, 74] rfl ⟨⟨(hS1205.subR [0]).sub [0] (by decide), hx1821.symm⟩, trivial⟩
  refine WL.setB 69 h1822 rfl ?_
  refine seg 5 [] [0, 4, 69, 70] [(0, (.string p0)), (4, (.slice A881 y1011.length c882)), (69, (.bool false)), (70, (.slice A881 y1011.length c882))] [] (fun fb => by kernel_rfl) rfl trivial ?_
  obtain ⟨t1823, ht1824, hx1821⟩ := bind_some hx1821
  refine WL.call (some 71) 79 #[(.slice A881 y1011.length c882)] (fun fb => by kernel_rfl) (tile_write_calls _ y1011 A881 c882 t1823 _ (hS1205.ow 0).ofO ht1824) (fun v w1825 hR1826 => ?_)
  obtain ⟨rfl, hk_⟩ := hR1826
  have hS1827 := hS1205.keepN hk_
  refine ⟨trivial, ?_⟩
  refine seg 7 [] [4, 69, 71, 72] [(4, (.slice A881 y1011.length c882)), (69, (.bool false)), (71, (.string t1823)), (72, (.string p0))] [] (fun fb => by kernel_rfl) rfl trivial ?_
  refine seg 8 [] [4, 69, 73] [(4, (.slice A881 y1011.length c882)), (69, (.bool false)), (73, (.bool (!(t1823.toList == p0.toList))))] [] (fun fb => by kernel_rfl) rfl trivial ?_
  refine WL.setB 73 (congrArg not (strEq_raw t1823 p0)) rfl ?_
  refine seg 9 [] [4, 74] [(4, (.slice A881 y1011.length c882)), (74, (.bool (!(strEq t1823 p0))))] [] (fun fb => by kernel_rfl) rfl trivial ?_
  injection hx1821 with hx1821
  exact WL.to K (!(strEq t1823 p0)) [4, 74] rfl ⟨⟨(hS1827.subR [0]).sub [0] (by decide), hx1821.symm⟩, trivial⟩
 rintro y1828 w1830 ⟨⟨hS1831, hq1829⟩, hF1832⟩
 subst hq1829
 refine WL.done rfl ?_
 refine WX.next ?_
 rcases br_some hf with ⟨h1833, hf⟩ | ⟨h1833, hf⟩
 ·refine WC.condT2 (fun fb => by kernel_rfl) h1833 ?_
  refine WC.seq ?_
  refine WC.region ?_
  refine seg 2 [] [2, 3] [(2, (.slice none 0 0)), (3, (iv 3))] [] (fun fb => by kernel_rfl) rfl trivial ?_
  refine WL.done rfl ?_
  refine WX.next ?_
  refine WC.ret ?_
  have hS1834 := hS1831.nilrow 40 enc_Tile
  injection hf with hf
  subst hf
  exact WX.thenR (WX.ret_ [] (.tuple #[(.slice none ([] : List Tile).length 0), (iv 3)]) [] (fun fb => by kernel_rfl) trivial ⟨_, rfl, none, 0, rfl, (hS1834.sub [0] (by decide)).noR⟩)
 refine WC.condF2 (fun fb => by kernel_rfl) h1833 ?_
 refine WC.skip ?_
 refine WX.next ?_
 refine WC.seq ?_
 refine WC.region ?_
 refine seg 3 [] [2, 3] [(2, (.slice A881 y1011.length c882)), (3, (iv 0))] [] (fun fb => by kernel_rfl) rfl trivial ?_
 refine WL.done rfl ?_
 refine WX.next ?_
 refine WC.ret ?_
 injection hf with hf
 subst hf
 exact WX.ret_ [] (.tuple #[(.slice A881 y1011.length c882), (iv 0)]) [] (fun fb => by kernel_rfl) trivial ⟨_, rfl, A881, c882, rfl, (hS1831.sub [0] (by decide)).noR⟩
theorem rows_Few_calls (k : Nat) (p0 : List Tile) (p1 : Int) (A_p0 : Option Addr) (c_p0 : Nat) (r : Bool) (w : World) (hR0 : RO NoS w (rowR enc_Tile A_p0 c_p0 p0)) (hf : rows_Few k p0 p1 = some r) :
  CallsR Tryd.prog 53 #[(.slice A_p0 p0.length c_p0), (iv p1)] w (fun v w' => v = (.bool r) ∧ Keeps NoS w w') := by
 have hS : St NoS w w [rowR enc_Tile A_p0 c_p0 p0] [] := St.init (ro_cons hR0 (ro_nil _ _))
 refine enter 17 Tryd.func53 rfl Tryd.ntmps53 rfl ?_
 unfold rows_Few at hf
 refine WC.seq ?_
 refine WC.region ?_
 refine seg 1 [] [0, 1] [(0, (.slice A_p0 p0.length c_p0)), (1, (iv p1))] [] (fun fb => by kernel_rfl) rfl trivial ?_
 refine WL.done rfl ?_
 refine WX.next ?_
 refine WC.seq ?_
 refine WC.region ?_
 refine seg 1 [] [0, 1, 5] [(0, (.slice A_p0 p0.length c_p0)), (1, (iv p1)), (5, (iv 1))] [] (fun fb => by kernel_rfl) rfl trivial ?_
 refine WL.done rfl ?_
 refine WX.next ?_
 refine WC.seq ?_
 refine WC.seq ?_
 refine WC.region ?_
 refine seg 2 [] [0, 5, 6, 7] [(0, (.slice A_p0 p0.length c_p0)), (5, (iv 1)), (6, (iv p1)), (7, (iv 0))] [] (fun fb => by kernel_rfl) rfl trivial ?_
 refine WL.done rfl ?_
 refine WX.next ?_
 obtain ⟨x1876, hx1877, hf⟩ := bind_some hf
 refine WC.cutN (T := Unit) (fun t => []) (fun t w1 => St NoS w w1 [rowR enc_Tile A_p0 c_p0 p0] [] ∧ x1876 = .inr t) (fun Kx1876 => ?_) ?_
 ·
  refine WC.block ?_
  refine WC.loop (T := Int × Int) (fun t => [(0, (.slice A_p0 p0.length c_p0)), (5, (iv t.1)), (6, (iv p1)), (7, (iv t.2))]) (fun n t w1 => St NoS w w1 [rowR enc_Tile A_p0 c_p0 p0] [] ∧ rows_Few.l0 n t.1 t.2 p0 p1 = some x1876) k (1, 0) [0, 5, 6, 7] rfl ⟨(hS.subR [0]).sub [] (by decide), hx1877⟩ ?_
  rintro k1878 ⟨x1874, x1875⟩ w1879 ⟨hS1880, hl1881⟩
  cases k1878 with
  | zero => rw [rows_Few.l0] at hl1881; cases hl1881
  | succ k1878 =>
   rw [rows_Few.l0] at hl1881
   refine WC.seq ?_
   refine WC.region ?_
   refine seg 1 [] [0, 5, 6, 7, 8] [(0, (.slice A_p0 p0.length c_p0)), (5, (iv x1874)), (6, (iv p1)), (7, (iv x1875)), (8, (.bool (decide (x1875 < p1))))] [] (fun fb => by kernel_rfl) rfl trivial ?_
   refine WL.done rfl ?_
   refine WX.next ?_
   refine WC.seq ?_
   rcases br_some hl1881 with ⟨h1882, hl1881⟩ | ⟨h1882, hl1881⟩
   ·refine WC.condT2 (fun fb => by kernel_rfl) h1882 ?_
    refine WC.skip ?_
    refine WX.next ?_
    refine WC.seq ?_
    refine WC.block ?_
    refine WC.seq ?_
    refine WC.region ?_
    refine seg 6 [] [0, 5, 6, 7] [(0, (.slice A_p0 p0.length c_p0)), (5, (iv (w64 (x1874 * (maxI (p0.length : Int) 1))))), (6, (iv p1)), (7, (iv x1875))] [] (fun fb => by kernel_rfl) rfl trivial ?_
    refine WL.done rfl ?_
    refine WX.next ?_
    refine WC.seq ?_
    refine WC.region ?_
    refine seg 2 [] [0, 5, 6, 7, 15] [(0, (.slice A_p0 p0.length c_p0)), (5, (iv (w64 (x1874 * (maxI (p0.length : Int) 1))))), (6, (iv p1)), (7, (iv x1875)), (15, (.bool (decide (w64 (x1874 * (maxI (p0.length : Int) 1)) > 5000))))] [] (fun fb => by kernel_rfl) rfl trivial ?_
    refine WL.done rfl ?_
    refine WX.next ?_
    rcases br_some hl1881 with ⟨h1883, hl1881⟩ | ⟨h1883, hl1881⟩
    ·refine WC.condT2 (fun fb => by kernel_rfl) h1883 ?_
     refine WC.seq ?_
     refine WC.region ?_
     refine seg 1 [] [4] [(4, (.bool false))] [] (fun fb => by kernel_rfl) rfl trivial ?_
     refine WL.done rfl ?_
     refine WX.next ?_
     refine WC.ret ?_
     injection hl1881 with hl1881
     subst hl1881
     injection hf with hf
     subst hf
     exact WX.blockR (WX.thenR (WX.thenR (WX.blockR (WX.thenR (WX.ret_ [] (.bool false) [] (fun fb => by kernel_rfl) trivial ⟨_, rfl, rfl, hS1880.keep⟩)))))
    refine WC.condF2 (fun fb => by kernel_rfl) h1883 ?_
    refine WC.skip ?_
    refine WX.blockN (WX.next ?_)
    refine WC.region ?_
    refine seg 2 [] [0, 5, 6, 7] [(0, (.slice A_p0 p0.length c_p0)), (5, (iv (w64 (x1874 * (maxI (p0.length : Int) 1))))), (6, (iv p1)), (7, (iv (w64 (x1875 + 1))))] [] (fun fb => by kernel_rfl) rfl trivial ?_
    refine WL.done rfl ?_
    exact WX.again k1878 (Nat.lt_succ_self _) (w64 (x1874 * (maxI (p0.length : Int) 1)), w64 (x1875 + 1)) [0, 5, 6, 7] rfl ⟨(hS1880.subR [0]).sub [] (by decide), hl1881⟩
   refine WC.condF2 (fun fb => by kernel_rfl) h1882 ?_
   refine WC.exit ?_
   injection hl1881 with hl1881
   exact WX.thenX (WX.thenX (WX.blockHere (WX.to Kx1876 () [] rfl ⟨(hS1880.subR [0]).sub [] (by decide), hl1881.symm⟩)))
 rintro y1887 w1884 ⟨hS1885, hq1886⟩
 subst hq1886
 have hf := sum_inr hf
 refine WX.next ?_
 refine WC.seq ?_
 refine WC.region ?_
 refine seg 1 [] [4] [(4, (.bool true))] [] (fun fb => by kernel_rfl) rfl trivial ?_
 refine WL.done rfl ?_
 refine WX.next ?_
 refine WC.ret ?_
 injection hf with hf
 subst hf
 exact WX.ret_ [] (.bool true) [] (fun fb => by kernel_rfl) trivial ⟨_, rfl, rfl, hS1885.keep⟩
theorem rows_rowOf_calls (k : Nat) (p0 : List Tile) (p1 : List Int) (A_p0 : Option Addr) (c_p0 : Nat) (A_p1 : Option Addr) (c_p1 : Nat) (r : Row) (w : World) (hR0 : RO NoS w (rowR enc_Tile A_p0 c_p0 p0)) (hR1 : RO NoS w (rowR encInt A_p1 c_p1 p1)) (hf : rows_rowOf k p0 p1 = some r) :
  CallsR Tryd.prog 98 #[(.slice A_p0 p0.length c_p0), (.slice A_p1 p1.length c_p1)] w (fun v w' => ∃ (A1_ : Option Addr), ∃ (c1_ : Nat), v = (.agg #[(.slice A1_ r.Cells.length c1_), (iv r.South.e0), (iv r.South.e1), (iv r.South.e2), (iv r.South.e3), (iv r.South.e4), (iv r.South.e5), (iv r.South.e6), (iv r.South.e7), (iv r.North.e0), (iv r.North.e1), (iv r.North.e2), (iv r.North.e3), (iv r.North.e4), (iv r.North.e5), (iv r.North.e6), (iv r.North.e7), (iv r.West), (iv r.East)]) ∧ St NoS w w' [] [rowO 3 encInt A1_ c1_ r.Cells]) := by
 have hS : St NoS w w [rowR enc_Tile A_p0 c_p0 p0, rowR encInt A_p1 c_p1 p1] [] := St.init (ro_cons hR0 (ro_cons hR1 (ro_nil _ _)))
 refine enter 55 Tryd.func98 rfl Tryd.ntmps98 rfl ?_
 unfold rows_rowOf at hf
 refine WC.seq ?_
 refine WC.region ?_
 refine WL.new hS 4 [] (fun g => (.pointer (some ⟨g, 0, none⟩))) (.cells #[(.slice none 0 0), (iv 0), (iv 0), (iv 0), (iv 0), (iv 0), (iv 0), (iv 0), (iv 0), (iv 0), (iv 0), (iv 0), (iv 0), (iv 0), (iv 0), (iv 0), (iv 0), (iv 0), (iv 0)] 85 (0, 0)) [] (fun fb g => by kernel_rfl) trivial (fun g1936 w1937 hS1938 => ?_)
 refine ⟨trivial, ?_⟩
 refine WL.done rfl ?_
 refine WX.next ?_
 refine WC.seq ?_
 refine WC.region ?_
 refine seg 1 [] [0, 1, 4, 8] [(0, (.slice A_p0 p0.length c_p0)), (1, (.slice A_p1 p1.length c_p1)), (4, (pt g1936)), (8, (.slice A_p1 p1.length c_p1))] [] (fun fb => by kernel_rfl) rfl trivial ?_
 have hS1940 := hS1938.nilrow 3 encInt
 obtain ⟨h1941, hf⟩ := as_some hf
 refine WL.append hS1940 0 (d := 9) (tS := 25) (z := (iv 0)) (bytes := 8) (c2 := c_p1) rfl (fun fb => by kernel_rfl) (hS1940.rd 1).1 (by kernel_rfl) (by kernel_rfl) rfl (by decide) h1941 (by decide) [1] (by decide) (by decide) (fun A1942 c1943 w1944 hS1945 => ?_)
 refine ⟨trivial, ?_⟩
 refine seg 3 [] [0, 1, 4, 10] [(0, (.slice A_p0 p0.length c_p0)), (1, (.slice A_p1 p1.length c_p1)), (4, (pt g1936)), (10, (.agg #[(.slice A1942 (([] : List Int) ++ p1).length c1943), (iv 0), (iv 0), (iv 0), (iv 0), (iv 0), (iv 0), (iv 0), (iv 0), (iv 0), (iv 0), (iv 0), (iv 0), (iv 0), (iv 0), (iv 0), (iv 0), (iv 0), (iv 0)]))] [] (fun fb => by kernel_rfl) rfl trivial ?_
 refine WL.new hS1945 5 [] (fun g => (.pointer (some ⟨g, 0, none⟩))) (.cells #[(.slice none 0 0), (iv 0), (iv 0), (iv 0), (iv 0), (iv 0), (iv 0), (iv 0), (iv 0), (iv 0), (iv 0), (iv 0), (iv 0), (iv 0), (iv 0), (iv 0), (iv 0), (iv 0), (iv 0)] 85 (0, 0)) [] (fun fb g => by kernel_rfl) trivial (fun g1946 w1947 hS1948 => ?_)
 refine ⟨trivial, ?_⟩
 refine WL.store hS1948 0 rfl [(0, (.slice A1942 (([] : List Int) ++ p1).length c1943)), (1, (iv 0)), (2, (iv 0)), (3, (iv 0)), (4, (iv 0)), (5, (iv 0)), (6, (iv 0)), (7, (iv 0)), (8, (iv 0)), (9, (iv 0)), (10, (iv 0)), (11, (iv 0)), (12, (iv 0)), (13, (iv 0)), (14, (iv 0)), (15, (iv 0)), (16, (iv 0)), (17, (iv 0)), (18, (iv 0))] #[(.slice A1942 (([] : List Int) ++ p1).length c1943), (iv 0), (iv 0), (iv 0), (iv 0), (iv 0), (iv 0), (iv 0), (iv 0), (iv 0), (iv 0), (iv 0), (iv 0), (iv 0), (iv 0), (iv 0), (iv 0), (iv 0), (iv 0)] (fun fb => by kernel_rfl) (by kernel_rfl) (by kernel_rfl) [1, 2] (by decide) (by decide) (fun w1950 hS1951 => ?_)
 refine ⟨trivial, ?_⟩
 refine WL.done rfl ?_
 refine WX.next ?_
 refine WC.seq ?_
 refine WC.seq ?_
 refine WC.region ?_
 refine seg 3 [] [0, 1, 4, 5, 11, 12, 13] [(0, (.slice A_p0 p0.length c_p0)), (1, (.slice A_p1 p1.length c_p1)), (4, (pt g1936)), (5, (pt g1946)), (11, (.slice A_p1 p1.length c_p1)), (12, (iv (p1.length : Int))), (13, (iv 0))] [] (fun fb => by kernel_rfl) rfl trivial ?_
 refine WL.done rfl ?_
 refine WX.next ?_
 obtain ⟨x2030, hx2031, hf⟩ := bind_some hf
 refine WC.cutN (T := A8_Int × A8_Int) (fun t => [(0, (.slice A_p0 p0.length c_p0)), (1, (.slice A_p1 p1.length c_p1)), (4, (pt g1936)), (5, (pt g1946))]) (fun t w1 => St NoS w w1 [rowR enc_Tile A_p0 c_p0 p0, rowR encInt A_p1 c_p1 p1] [blk g1936 (.cells #[(.slice none 0 0), (iv 0), (iv 0), (iv 0), (iv 0), (iv 0), (iv 0), (iv 0), (iv 0), (iv 0), (iv 0), (iv 0), (iv 0), (iv 0), (iv 0), (iv 0), (iv 0), (iv 0), (iv 0)] 85 (0, 0)), blk g1946 (.cells #[(.slice A1942 (([] : List Int) ++ p1).length c1943), (iv t.1.e0), (iv t.1.e1), (iv t.1.e2), (iv t.1.e3), (iv t.1.e4), (iv t.1.e5), (iv t.1.e6), (iv t.1.e7), (iv t.2.e0), (iv t.2.e1), (iv t.2.e2), (iv t.2.e3), (iv t.2.e4), (iv t.2.e5), (iv t.2.e6), (iv t.2.e7), (iv 0), (iv 0)] 85 (0, 0)), rowO 3 encInt A1942 c1943 (([] : List Int) ++ p1)] ∧ x2030 = t) (fun Kx2030 => ?_) ?_
 ·
  refine WC.block ?_
  refine WC.loop (T := A8_Int × A8_Int × Int) (fun t => [(0, (.slice A_p0 p0.length c_p0)), (1, (.slice A_p1 p1.length c_p1)), (4, (pt g1936)), (5, (pt g1946)), (11, (.slice A_p1 p1.length c_p1)), (12, (iv (p1.length : Int))), (13, (iv t.2.2))]) (fun n t w1 => St NoS w w1 [rowR enc_Tile A_p0 c_p0 p0, rowR encInt A_p1 c_p1 p1] [blk g1936 (.cells #[(.slice none 0 0), (iv 0), (iv 0), (iv 0), (iv 0), (iv 0), (iv 0), (iv 0), (iv 0), (iv 0), (iv 0), (iv 0), (iv 0), (iv 0), (iv 0), (iv 0), (iv 0), (iv 0), (iv 0)] 85 (0, 0)), blk g1946 (.cells #[(.slice A1942 (([] : List Int) ++ p1).length c1943), (iv t.1.e0), (iv t.1.e1), (iv t.1.e2), (iv t.1.e3), (iv t.1.e4), (iv t.1.e5), (iv t.1.e6), (iv t.1.e7), (iv t.2.1.e0), (iv t.2.1.e1), (iv t.2.1.e2), (iv t.2.1.e3), (iv t.2.1.e4), (iv t.2.1.e5), (iv t.2.1.e6), (iv t.2.1.e7), (iv 0), (iv 0)] 85 (0, 0)), rowO 3 encInt A1942 c1943 (([] : List Int) ++ p1)] ∧ rows_rowOf.l0 n t.1 t.2.1 t.2.2 p0 p1 = some x2030) k ((A8_Int.mk 0 0 0 0 0 0 0 0), (A8_Int.mk 0 0 0 0 0 0 0 0), 0) [0, 1, 4, 5, 11, 12, 13] rfl ⟨(hS1951.subR [0, 1]).sub [2, 0, 1] (by decide), hx2031⟩ ?_
  rintro k2032 ⟨a2025, a2026, x2027⟩ w2033 ⟨hS2034, hl2035⟩
  cases k2032 with
  | zero => rw [rows_rowOf.l0] at hl2035; cases hl2035
  | succ k2032 =>
   rw [rows_rowOf.l0] at hl2035
   refine WC.seq ?_
   refine WC.region ?_
   refine seg 1 [] [0, 1, 4, 5, 11, 12, 13, 14] [(0, (.slice A_p0 p0.length c_p0)), (1, (.slice A_p1 p1.length c_p1)), (4, (pt g1936)), (5, (pt g1946)), (11, (.slice A_p1 p1.length c_p1)), (12, (iv (p1.length : Int))), (13, (iv x2027)), (14, (.bool (decide (x2027 < (p1.length : Int)))))] [] (fun fb => by kernel_rfl) rfl trivial ?_
   refine WL.done rfl ?_
   refine WX.next ?_
   refine WC.seq ?_
   rcases br_some hl2035 with ⟨h2036, hl2035⟩ | ⟨h2036, hl2035⟩
   ·refine WC.condT2 (fun fb => by kernel_rfl) h2036 ?_
    refine WC.skip ?_
    refine WX.next ?_
    refine WC.seq ?_
    refine WC.block ?_
    refine WC.seq ?_
    refine WC.region ?_
    refine seg 1 [] [0, 1, 4, 5, 11, 12, 13, 15] [(0, (.slice A_p0 p0.length c_p0)), (1, (.slice A_p1 p1.length c_p1)), (4, (pt g1936)), (5, (pt g1946)), (11, (.slice A_p1 p1.length c_p1)), (12, (iv (p1.length : Int))), (13, (iv x2027)), (15, (iv x2027))] [] (fun fb => by kernel_rfl) rfl trivial ?_
    obtain ⟨h2037, hl2035⟩ := as_some hl2035
    refine seg 5 [.v (iv (rdD p1 x2027 0))] [0, 1, 4, 5, 6, 7, 11, 12, 13] [(0, (.slice A_p0 p0.length c_p0)), (1, (.slice A_p1 p1.length c_p1)), (4, (pt g1936)), (5, (pt g1946)), (6, (iv x2027)), (7, (iv (rdD p1 x2027 0))), (11, (.slice A_p1 p1.length c_p1)), (12, (iv (p1.length : Int))), (13, (iv x2027))] [.idx A_p1 x2027 p1.length, .cell ((adr A_p1).add ((x2027).toNat * 1)) (iv (rdD p1 x2027 0))] (fun fb => by kernel_rfl) rfl ⟨rowR.adr (hS2034.rd 1).1 h2037.1 h2037.2, rowR.cell (hS2034.rd 1).1 0 h2037.1 h2037.2 0 rfl, trivial⟩ ?_
    refine WL.done rfl ?_
    refine WX.next ?_
    obtain ⟨h2052, hl2035⟩ := as_some hl2035
    obtain ⟨h2053, hl2035⟩ := as_some hl2035
    refine WC.regionD ([(6, (((adr A_p0).add (((rdD p1 x2027 0)).toNat * 4)).add 2), (iv ((rdD p0 (rdD p1 x2027 0) z_Tile).S))), (11, ((adr A_p0).add (((rdD p1 x2027 0)).toNat * 4)), (iv ((rdD p0 (rdD p1 x2027 0) z_Tile).N)))], [0, 1, 2, 3, 4, 5, 6, 7, 8, 9, 10, 11, 12, 13, 15, 16], [[], [], [], [], [2, 3], [2, 3, 4], [2, 3, 4, 5], [], [], [7, 8], [7, 8, 9], [7, 8, 9, 10], [], [0, 2, 3, 4, 5, 6, 12], [0, 2, 3, 4, 5, 6, 12, 13], [], [0, 1, 2, 3, 4, 5, 6, 7, 8, 9, 10, 11, 12, 13, 14, 15], [0, 1, 2, 3, 4, 5, 6, 7, 8, 9, 10, 11, 12, 13, 14, 15, 16]]) [[0, 1, 2, 3, 4, 5, 6, 7, 8, 9, 10, 11, 12, 13, 15, 14, 16, 17]] (by kernel_rfl) (by kernel_rfl) (NoPanic.block (NoPanic.seq (NoPanic.seq (NoPanic.block (NoPanic.seq (NoPanic.body)))))) ?_
    have hS2049 := hS2034.drew
    revert hS2049
    generalize World.drew w2033 = w2048
    intro hS2049
    refine ⟨⟨rowR.cell (hS2049.rd 0).1 z_Tile h2052.1 h2052.2 2 rfl, rowR.cell (hS2049.rd 0).1 z_Tile h2052.1 h2052.2 0 rfl, trivial⟩, forallC ?_ (forallN)⟩
    refine segF 15 [.v (iv ((rdD p0 (rdD p1 x2027 0) z_Tile).S)), .v (iv ((rdD p0 (rdD p1 x2027 0) z_Tile).N))] [0, 1, 4, 5, 11, 12, 13, 19, 24, 29, 31, 32] [(0, (.slice A_p0 p0.length c_p0)), (1, (.slice A_p1 p1.length c_p1)), (4, (pt g1936)), (5, (pt g1946)), (11, (.slice A_p1 p1.length c_p1)), (12, (iv (p1.length : Int))), (13, (iv x2027)), (19, (iv x2027)), (24, (iv ((rdD p0 (rdD p1 x2027 0) z_Tile).S))), (29, (iv ((rdD p0 (rdD p1 x2027 0) z_Tile).N))), (31, (.pointer (some (flatA ⟨g1946, 1, none⟩ (x2027.toNat * 1))))), (32, (.pointer (some ⟨g1946, 9, none⟩)))] [.idx A_p0 (rdD p1 x2027 0) p0.length, .idx A_p0 (rdD p1 x2027 0) p0.length, .idx (some ⟨0, 0, none⟩) x2027 8] [0, 1] [(6, (((adr A_p0).add (((rdD p1 x2027 0)).toNat * 4)).add 2), (iv ((rdD p0 (rdD p1 x2027 0) z_Tile).S))), (11, ((adr A_p0).add (((rdD p1 x2027 0)).toNat * 4)), (iv ((rdD p0 (rdD p1 x2027 0) z_Tile).N)))] (fun fb => by kernel_rfl) rfl ⟨rowR.adr (hS2049.rd 0).1 h2052.1 h2052.2, rowR.adr (hS2049.rd 0).1 h2052.1 h2052.2, ⟨h2053.1, h2053.2, rfl⟩, trivial⟩ rfl ?_
    have h2056 := (cases8 (Q := fun z_ => (([(1 + z_.toNat * 1, (iv ((rdD p0 (rdD p1 x2027 0) z_Tile).S)))] : List (Nat × Value)).all fun p_ => Nat.blt p_.1 (#[(.slice A1942 (([] : List Int) ++ p1).length c1943), (iv a2025.e0), (iv a2025.e1), (iv a2025.e2), (iv a2025.e3), (iv a2025.e4), (iv a2025.e5), (iv a2025.e6), (iv a2025.e7), (iv a2026.e0), (iv a2026.e1), (iv a2026.e2), (iv a2026.e3), (iv a2026.e4), (iv a2026.e5), (iv a2026.e6), (iv a2026.e7), (iv 0), (iv 0)] : Array Value).size) = true) h2053 (by kernel_rfl) (by kernel_rfl) (by kernel_rfl) (by kernel_rfl) (by kernel_rfl) (by kernel_rfl) (by kernel_rfl) (by kernel_rfl))
    have h2057 := (cases8 (Q := fun z_ => wrc (#[(.slice A1942 (([] : List Int) ++ p1).length c1943), (iv a2025.e0), (iv a2025.e1), (iv a2025.e2), (iv a2025.e3), (iv a2025.e4), (iv a2025.e5), (iv a2025.e6), (iv a2025.e7), (iv a2026.e0), (iv a2026.e1), (iv a2026.e2), (iv a2026.e3), (iv a2026.e4), (iv a2026.e5), (iv a2026.e6), (iv a2026.e7), (iv 0), (iv 0)] : Array Value) [(1 + z_.toNat * 1, (iv ((rdD p0 (rdD p1 x2027 0) z_Tile).S)))] = (#[(.slice A1942 (([] : List Int) ++ p1).length c1943), (iv ((A8_Int.set a2025 z_ ((rdD p0 (rdD p1 x2027 0) z_Tile).S)).e0)), (iv ((A8_Int.set a2025 z_ ((rdD p0 (rdD p1 x2027 0) z_Tile).S)).e1)), (iv ((A8_Int.set a2025 z_ ((rdD p0 (rdD p1 x2027 0) z_Tile).S)).e2)), (iv ((A8_Int.set a2025 z_ ((rdD p0 (rdD p1 x2027 0) z_Tile).S)).e3)), (iv ((A8_Int.set a2025 z_ ((rdD p0 (rdD p1 x2027 0) z_Tile).S)).e4)), (iv ((A8_Int.set a2025 z_ ((rdD p0 (rdD p1 x2027 0) z_Tile).S)).e5)), (iv ((A8_Int.set a2025 z_ ((rdD p0 (rdD p1 x2027 0) z_Tile).S)).e6)), (iv ((A8_Int.set a2025 z_ ((rdD p0 (rdD p1 x2027 0) z_Tile).S)).e7)), (iv a2026.e0), (iv a2026.e1), (iv a2026.e2), (iv a2026.e3), (iv a2026.e4), (iv a2026.e5), (iv a2026.e6), (iv a2026.e7), (iv 0), (iv 0)] : Array Value)) h2053 (by kernel_rfl) (by kernel_rfl) (by kernel_rfl) (by kernel_rfl) (by kernel_rfl) (by kernel_rfl) (by kernel_rfl) (by kernel_rfl))
    refine WL.store hS2049 1 rfl [(1 + x2027.toNat * 1, (iv ((rdD p0 (rdD p1 x2027 0) z_Tile).S)))] #[(.slice A1942 (([] : List Int) ++ p1).length c1943), (iv ((A8_Int.set a2025 x2027 ((rdD p0 (rdD p1 x2027 0) z_Tile).S)).e0)), (iv ((A8_Int.set a2025 x2027 ((rdD p0 (rdD p1 x2027 0) z_Tile).S)).e1)), (iv ((A8_Int.set a2025 x2027 ((rdD p0 (rdD p1 x2027 0) z_Tile).S)).e2)), (iv ((A8_Int.set a2025 x2027 ((rdD p0 (rdD p1 x2027 0) z_Tile).S)).e3)), (iv ((A8_Int.set a2025 x2027 ((rdD p0 (rdD p1 x2027 0) z_Tile).S)).e4)), (iv ((A8_Int.set a2025 x2027 ((rdD p0 (rdD p1 x2027 0) z_Tile).S)).e5)), (iv ((A8_Int.set a2025 x2027 ((rdD p0 (rdD p1 x2027 0) z_Tile).S)).e6)), (iv ((A8_Int.set a2025 x2027 ((rdD p0 (rdD p1 x2027 0) z_Tile).S)).e7)), (iv a2026.e0), (iv a2026.e1), (iv a2026.e2), (iv a2026.e3), (iv a2026.e4), (iv a2026.e5), (iv a2026.e6), (iv a2026.e7), (iv 0), (iv 0)] (fun fb => by kernel_rfl) h2056 h2057 [0, 2] (by decide) (by decide) (fun w2054 hS2055 => ?_)
    refine ⟨⟨rowR.cell (hS2055.rd 0).1 z_Tile h2052.1 h2052.2 0 rfl, trivial⟩, ?_⟩
    refine seg 17 [] [0, 1, 4, 5, 11, 12, 13, 29, 33] [(0, (.slice A_p0 p0.length c_p0)), (1, (.slice A_p1 p1.length c_p1)), (4, (pt g1936)), (5, (pt g1946)), (11, (.slice A_p1 p1.length c_p1)), (12, (iv (p1.length : Int))), (13, (iv x2027)), (29, (iv ((rdD p0 (rdD p1 x2027 0) z_Tile).N))), (33, (.pointer (some (flatA ⟨g1946, 9, none⟩ (x2027.toNat * 1)))))] [.idx (some ⟨0, 0, none⟩) x2027 8] (fun fb => by kernel_rfl) rfl ⟨⟨h2053.1, h2053.2, rfl⟩, trivial⟩ ?_
    have h2060 := (cases8 (Q := fun z_ => (([(9 + z_.toNat * 1, (iv ((rdD p0 (rdD p1 x2027 0) z_Tile).N)))] : List (Nat × Value)).all fun p_ => Nat.blt p_.1 (#[(.slice A1942 (([] : List Int) ++ p1).length c1943), (iv ((A8_Int.set a2025 x2027 ((rdD p0 (rdD p1 x2027 0) z_Tile).S)).e0)), (iv ((A8_Int.set a2025 x2027 ((rdD p0 (rdD p1 x2027 0) z_Tile).S)).e1)), (iv ((A8_Int.set a2025 x2027 ((rdD p0 (rdD p1 x2027 0) z_Tile).S)).e2)), (iv ((A8_Int.set a2025 x2027 ((rdD p0 (rdD p1 x2027 0) z_Tile).S)).e3)), (iv ((A8_Int.set a2025 x2027 ((rdD p0 (rdD p1 x2027 0) z_Tile).S)).e4)), (iv ((A8_Int.set a2025 x2027 ((rdD p0 (rdD p1 x2027 0) z_Tile).S)).e5)), (iv ((A8_Int.set a2025 x2027 ((rdD p0 (rdD p1 x2027 0) z_Tile).S)).e6)), (iv ((A8_Int.set a2025 x2027 ((rdD p0 (rdD p1 x2027 0) z_Tile).S)).e7)), (iv a2026.e0), (iv a2026.e1), (iv a2026.e2), (iv a2026.e3), (iv a2026.e4), (iv a2026.e5), (iv a2026.e6), (iv a2026.e7), (iv 0), (iv 0)] : Array Value).size) = true) h2053 (by kernel_rfl) (by kernel_rfl) (by kernel_rfl) (by kernel_rfl) (by kernel_rfl) (by kernel_rfl) (by kernel_rfl) (by kernel_rfl))
    have h2061 := (cases8 (Q := fun z_ => wrc (#[(.slice A1942 (([] : List Int) ++ p1).length c1943), (iv ((A8_Int.set a2025 x2027 ((rdD p0 (rdD p1 x2027 0) z_Tile).S)).e0)), (iv ((A8_Int.set a2025 x2027 ((rdD p0 (rdD p1 x2027 0) z_Tile).S)).e1)), (iv ((A8_Int.set a2025 x2027 ((rdD p0 (rdD p1 x2027 0) z_Tile).S)).e2)), (iv ((A8_Int.set a2025 x2027 ((rdD p0 (rdD p1 x2027 0) z_Tile).S)).e3)), (iv ((A8_Int.set a2025 x2027 ((rdD p0 (rdD p1 x2027 0) z_Tile).S)).e4)), (iv ((A8_Int.set a2025 x2027 ((rdD p0 (rdD p1 x2027 0) z_Tile).S)).e5)), (iv ((A8_Int.set a2025 x2027 ((rdD p0 (rdD p1 x2027 0) z_Tile).S)).e6)), (iv ((A8_Int.set a2025 x2027 ((rdD p0 (rdD p1 x2027 0) z_Tile).S)).e7)), (iv a2026.e0), (iv a2026.e1), (iv a2026.e2), (iv a2026.e3), (iv a2026.e4), (iv a2026.e5), (iv a2026.e6), (iv a2026.e7), (iv 0), (iv 0)] : Array Value) [(9 + z_.toNat * 1, (iv ((rdD p0 (rdD p1 x2027 0) z_Tile).N)))] = (#[(.slice A1942 (([] : List Int) ++ p1).length c1943), (iv ((A8_Int.set a2025 x2027 ((rdD p0 (rdD p1 x2027 0) z_Tile).S)).e0)), (iv ((A8_Int.set a2025 x2027 ((rdD p0 (rdD p1 x2027 0) z_Tile).S)).e1)), (iv ((A8_Int.set a2025 x2027 ((rdD p0 (rdD p1 x2027 0) z_Tile).S)).e2)), (iv ((A8_Int.set a2025 x2027 ((rdD p0 (rdD p1 x2027 0) z_Tile).S)).e3)), (iv ((A8_Int.set a2025 x2027 ((rdD p0 (rdD p1 x2027 0) z_Tile).S)).e4)), (iv ((A8_Int.set a2025 x2027 ((rdD p0 (rdD p1 x2027 0) z_Tile).S)).e5)), (iv ((A8_Int.set a2025 x2027 ((rdD p0 (rdD p1 x2027 0) z_Tile).S)).e6)), (iv ((A8_Int.set a2025 x2027 ((rdD p0 (rdD p1 x2027 0) z_Tile).S)).e7)), (iv ((A8_Int.set a2026 z_ ((rdD p0 (rdD p1 x2027 0) z_Tile).N)).e0)), (iv ((A8_Int.set a2026 z_ ((rdD p0 (rdD p1 x2027 0) z_Tile).N)).e1)), (iv ((A8_Int.set a2026 z_ ((rdD p0 (rdD p1 x2027 0) z_Tile).N)).e2)), (iv ((A8_Int.set a2026 z_ ((rdD p0 (rdD p1 x2027 0) z_Tile).N)).e3)), (iv ((A8_Int.set a2026 z_ ((rdD p0 (rdD p1 x2027 0) z_Tile).N)).e4)), (iv ((A8_Int.set a2026 z_ ((rdD p0 (rdD p1 x2027 0) z_Tile).N)).e5)), (iv ((A8_Int.set a2026 z_ ((rdD p0 (rdD p1 x2027 0) z_Tile).N)).e6)), (iv ((A8_Int.set a2026 z_ ((rdD p0 (rdD p1 x2027 0) z_Tile).N)).e7)), (iv 0), (iv 0)] : Array Value)) h2053 (by kernel_rfl) (by kernel_rfl) (by kernel_rfl) (by kernel_rfl) (by kernel_rfl) (by kernel_rfl) (by kernel_rfl) (by kernel_rfl))
    refine WL.store hS2055 0 rfl [(9 + x2027.toNat * 1, (iv ((rdD p0 (rdD p1 x2027 0) z_Tile).N)))] #[(.slice A1942 (([] : List Int) ++ p1).length c1943), (iv ((A8_Int.set a2025 x2027 ((rdD p0 (rdD p1 x2027 0) z_Tile).S)).e0)), (iv ((A8_Int.set a2025 x2027 ((rdD p0 (rdD p1 x2027 0) z_Tile).S)).e1)), (iv ((A8_Int.set a2025 x2027 ((rdD p0 (rdD p1 x2027 0) z_Tile).S)).e2)), (iv ((A8_Int.set a2025 x2027 ((rdD p0 (rdD p1 x2027 0) z_Tile).S)).e3)), (iv ((A8_Int.set a2025 x2027 ((rdD p0 (rdD p1 x2027 0) z_Tile).S)).e4)), (iv ((A8_Int.set a2025 x2027 ((rdD p0 (rdD p1 x2027 0) z_Tile).S)).e5)), (iv ((A8_Int.set a2025 x2027 ((rdD p0 (rdD p1 x2027 0) z_Tile).S)).e6)), (iv ((A8_Int.set a2025 x2027 ((rdD p0 (rdD p1 x2027 0) z_Tile).S)).e7)), (iv ((A8_Int.set a2026 x2027 ((rdD p0 (rdD p1 x2027 0) z_Tile).N)).e0)), (iv ((A8_Int.set a2026 x2027 ((rdD p0 (rdD p1 x2027 0) z_Tile).N)).e1)), (iv ((A8_Int.set a2026 x2027 ((rdD p0 (rdD p1 x2027 0) z_Tile).N)).e2)), (iv ((A8_Int.set a2026 x2027 ((rdD p0 (rdD p1 x2027 0) z_Tile).N)).e3)), (iv ((A8_Int.set a2026 x2027 ((rdD p0 (rdD p1 x2027 0) z_Tile).N)).e4)), (iv ((A8_Int.set a2026 x2027 ((rdD p0 (rdD p1 x2027 0) z_Tile).N)).e5)), (iv ((A8_Int.set a2026 x2027 ((rdD p0 (rdD p1 x2027 0) z_Tile).N)).e6)), (iv ((A8_Int.set a2026 x2027 ((rdD p0 (rdD p1 x2027 0) z_Tile).N)).e7)), (iv 0), (iv 0)] (fun fb => by kernel_rfl) h2060 h2061 [1, 2] (by decide) (by decide) (fun w2058 hS2059 => ?_)
    refine ⟨trivial, ?_⟩
    refine WL.done rfl ?_
    refine WX.blockN (WX.next ?_)
    refine WC.region ?_
    refine seg 2 [] [0, 1, 4, 5, 11, 12, 13] [(0, (.slice A_p0 p0.length c_p0)), (1, (.slice A_p1 p1.length c_p1)), (4, (pt g1936)), (5, (pt g1946)), (11, (.slice A_p1 p1.length c_p1)), (12, (iv (p1.length : Int))), (13, (iv (w64 (x2027 + 1))))] [] (fun fb => by kernel_rfl) rfl trivial ?_
    refine WL.done rfl ?_
    exact WX.again k2032 (Nat.lt_succ_self _) ((A8_Int.set a2025 x2027 ((rdD p0 (rdD p1 x2027 0) z_Tile).S)), (A8_Int.set a2026 x2027 ((rdD p0 (rdD p1 x2027 0) z_Tile).N)), w64 (x2027 + 1)) [0, 1, 4, 5, 11, 12, 13] rfl ⟨(hS2059.subR [0, 1]).sub [1, 0, 2] (by decide), hl2035⟩
   refine WC.condF2 (fun fb => by kernel_rfl) h2036 ?_
   refine WC.exit ?_
   injection hl2035 with hl2035
   exact WX.thenX (WX.thenX (WX.blockHere (WX.to Kx2030 (a2025, a2026) [0, 1, 4, 5] rfl ⟨(hS2034.subR [0, 1]).sub [0, 1, 2] (by decide), hl2035.symm⟩)))
 rintro y2065 w2062 ⟨hS2063, hq2064⟩
 subst hq2064
 refine WX.next ?_
 refine WC.seq ?_
 obtain ⟨h2080, hf⟩ := as_some hf
 obtain ⟨h2081, hf⟩ := as_some hf
 obtain ⟨h2082, hf⟩ := as_some hf
 obtain ⟨h2083, hf⟩ := as_some hf
 refine WC.regionD ([(3, ((adr A_p1).add (((0 : Int)).toNat * 1)), (iv (rdD p1 (0 : Int) 0))), (6, (((adr A_p0).add (((rdD p1 (0 : Int) 0)).toNat * 4)).add 3), (iv ((rdD p0 (rdD p1 (0 : Int) 0) z_Tile).W))), (13, ((adr A_p1).add ((w64 ((p1.length : Int) - 1)).toNat * 1)), (iv (rdD p1 (w64 ((p1.length : Int) - 1)) 0))), (16, (((adr A_p0).add (((rdD p1 (w64 ((p1.length : Int) - 1)) 0)).toNat * 4)).add 1), (iv ((rdD p0 (rdD p1 (w64 ((p1.length : Int) - 1)) 0) z_Tile).E)))], [0, 1, 2, 3, 4, 5, 6, 7, 8, 9, 10, 11, 12, 13, 14, 15, 16, 17, 19], [[], [], [1], [1, 2], [0, 1, 2, 3], [0, 1, 2, 3, 4], [0, 1, 2, 3, 4, 5], [], [], [], [9], [9, 10], [8, 9, 10, 11], [8, 9, 10, 11, 12], [7, 8, 9, 10, 11, 12, 13], [7, 8, 9, 10, 11, 12, 13, 14], [7, 8, 9, 10, 11, 12, 13, 14, 15], [0, 1, 2, 3, 4, 5, 6], [0, 1, 2, 3, 4, 5, 6, 17], [0, 1, 2, 3, 4, 5, 6, 7, 8, 9, 10, 11, 12, 13, 14, 15, 16, 17, 18], [0, 1, 2, 3, 4, 5, 6, 7, 8, 9, 10, 11, 12, 13, 14, 15, 16, 17, 18, 19]]) [[0, 1, 2, 3, 4, 5, 6, 7, 8, 9, 10, 11, 12, 13, 14, 15, 16, 17, 18, 19, 20]] (by kernel_rfl) (by kernel_rfl) (NoPanic.seq (NoPanic.body)) ?_
 have hS2075 := hS2063.drew
 revert hS2075
 generalize World.drew w2062 = w2074
 intro hS2075
 refine ⟨⟨rowR.cell (hS2075.rd 1).1 0 h2080.1 h2080.2 0 rfl, rowR.cell (hS2075.rd 0).1 z_Tile h2081.1 h2081.2 3 rfl, rowR.cell (hS2075.rd 1).1 0 h2082.1 h2082.2 0 rfl, rowR.cell (hS2075.rd 0).1 z_Tile h2083.1 h2083.2 1 rfl, trivial⟩, forallC ?_ (forallN)⟩
 refine segF 18 [.v (iv (rdD p1 (0 : Int) 0)), .v (iv ((rdD p0 (rdD p1 (0 : Int) 0) z_Tile).W)), .v (iv (rdD p1 (w64 ((p1.length : Int) - 1)) 0)), .v (iv ((rdD p0 (rdD p1 (w64 ((p1.length : Int) - 1)) 0) z_Tile).E))] [4, 5, 41, 51, 52] [(4, (pt g1936)), (5, (pt g1946)), (41, (iv ((rdD p0 (rdD p1 (0 : Int) 0) z_Tile).W))), (51, (iv ((rdD p0 (rdD p1 (w64 ((p1.length : Int) - 1)) 0) z_Tile).E))), (52, (.pointer (some ⟨g1946, 17, none⟩)))] [.idx A_p1 (0 : Int) p1.length, .idx A_p0 (rdD p1 (0 : Int) 0) p0.length, .idx A_p1 (w64 ((p1.length : Int) - 1)) p1.length, .idx A_p0 (rdD p1 (w64 ((p1.length : Int) - 1)) 0) p0.length] [0, 1, 2, 3] [(3, ((adr A_p1).add (((0 : Int)).toNat * 1)), (iv (rdD p1 (0 : Int) 0))), (6, (((adr A_p0).add (((rdD p1 (0 : Int) 0)).toNat * 4)).add 3), (iv ((rdD p0 (rdD p1 (0 : Int) 0) z_Tile).W))), (13, ((adr A_p1).add ((w64 ((p1.length : Int) - 1)).toNat * 1)), (iv (rdD p1 (w64 ((p1.length : Int) - 1)) 0))), (16, (((adr A_p0).add (((rdD p1 (w64 ((p1.length : Int) - 1)) 0)).toNat * 4)).add 1), (iv ((rdD p0 (rdD p1 (w64 ((p1.length : Int) - 1)) 0) z_Tile).E)))] (fun fb => by kernel_rfl) rfl ⟨rowR.adr (hS2075.rd 1).1 h2080.1 h2080.2, rowR.adr (hS2075.rd 0).1 h2081.1 h2081.2, rowR.adr (hS2075.rd 1).1 h2082.1 h2082.2, rowR.adr (hS2075.rd 0).1 h2083.1 h2083.2, trivial⟩ rfl ?_
 refine WL.store hS2075 1 rfl [(17, (iv ((rdD p0 (rdD p1 (0 : Int) 0) z_Tile).W)))] #[(.slice A1942 (([] : List Int) ++ p1).length c1943), (iv x2030.1.e0), (iv x2030.1.e1), (iv x2030.1.e2), (iv x2030.1.e3), (iv x2030.1.e4), (iv x2030.1.e5), (iv x2030.1.e6), (iv x2030.1.e7), (iv x2030.2.e0), (iv x2030.2.e1), (iv x2030.2.e2), (iv x2030.2.e3), (iv x2030.2.e4), (iv x2030.2.e5), (iv x2030.2.e6), (iv x2030.2.e7), (iv ((rdD p0 (rdD p1 (0 : Int) 0) z_Tile).W)), (iv 0)] (fun fb => by kernel_rfl) (by kernel_rfl) (by kernel_rfl) [0, 2] (by decide) (by decide) (fun w2084 hS2085 => ?_)
 refine ⟨⟨rowR.cell (hS2085.rd 1).1 0 h2082.1 h2082.2 0 rfl, rowR.cell (hS2085.rd 0).1 z_Tile h2083.1 h2083.2 1 rfl, trivial⟩, ?_⟩
 refine seg 20 [] [4, 5, 51, 53] [(4, (pt g1936)), (5, (pt g1946)), (51, (iv ((rdD p0 (rdD p1 (w64 ((p1.length : Int) - 1)) 0) z_Tile).E))), (53, (.pointer (some ⟨g1946, 18, none⟩)))] [] (fun fb => by kernel_rfl) rfl trivial ?_
 refine WL.store hS2085 0 rfl [(18, (iv ((rdD p0 (rdD p1 (w64 ((p1.length : Int) - 1)) 0) z_Tile).E)))] #[(.slice A1942 (([] : List Int) ++ p1).length c1943), (iv x2030.1.e0), (iv x2030.1.e1), (iv x2030.1.e2), (iv x2030.1.e3), (iv x2030.1.e4), (iv x2030.1.e5), (iv x2030.1.e6), (iv x2030.1.e7), (iv x2030.2.e0), (iv x2030.2.e1), (iv x2030.2.e2), (iv x2030.2.e3), (iv x2030.2.e4), (iv x2030.2.e5), (iv x2030.2.e6), (iv x2030.2.e7), (iv ((rdD p0 (rdD p1 (0 : Int) 0) z_Tile).W)), (iv ((rdD p0 (rdD p1 (w64 ((p1.length : Int) - 1)) 0) z_Tile).E))] (fun fb => by kernel_rfl) (by kernel_rfl) (by kernel_rfl) [1, 2] (by decide) (by decide) (fun w2086 hS2087 => ?_)
 refine ⟨trivial, ?_⟩
 refine WL.done rfl ?_
 refine WX.next ?_
 refine WC.seq ?_
 refine WC.region ?_
 refine seg 1 [.v (.slice A1942 (([] : List Int) ++ p1).length c1943), .v (iv x2030.1.e0), .v (iv x2030.1.e1), .v (iv x2030.1.e2), .v (iv x2030.1.e3), .v (iv x2030.1.e4), .v (iv x2030.1.e5), .v (iv x2030.1.e6), .v (iv x2030.1.e7), .v (iv x2030.2.e0), .v (iv x2030.2.e1), .v (iv x2030.2.e2), .v (iv x2030.2.e3), .v (iv x2030.2.e4), .v (iv x2030.2.e5), .v (iv x2030.2.e6), .v (iv x2030.2.e7), .v (iv ((rdD p0 (rdD p1 (0 : Int) 0) z_Tile).W)), .v (iv ((rdD p0 (rdD p1 (w64 ((p1.length : Int) - 1)) 0) z_Tile).E))] [4, 54] [(4, (pt g1936)), (54, (.agg #[(.slice A1942 (([] : List Int) ++ p1).length c1943), (iv x2030.1.e0), (iv x2030.1.e1), (iv x2030.1.e2), (iv x2030.1.e3), (iv x2030.1.e4), (iv x2030.1.e5), (iv x2030.1.e6), (iv x2030.1.e7), (iv x2030.2.e0), (iv x2030.2.e1), (iv x2030.2.e2), (iv x2030.2.e3), (iv x2030.2.e4), (iv x2030.2.e5), (iv x2030.2.e6), (iv x2030.2.e7), (iv ((rdD p0 (rdD p1 (0 : Int) 0) z_Tile).W)), (iv ((rdD p0 (rdD p1 (w64 ((p1.length : Int) - 1)) 0) z_Tile).E))]))] [.cell ⟨g1946, 0, none⟩ (.slice A1942 (([] : List Int) ++ p1).length c1943), .cell ⟨g1946, 1, none⟩ (iv x2030.1.e0), .cell ⟨g1946, 2, none⟩ (iv x2030.1.e1), .cell ⟨g1946, 3, none⟩ (iv x2030.1.e2), .cell ⟨g1946, 4, none⟩ (iv x2030.1.e3), .cell ⟨g1946, 5, none⟩ (iv x2030.1.e4), .cell ⟨g1946, 6, none⟩ (iv x2030.1.e5), .cell ⟨g1946, 7, none⟩ (iv x2030.1.e6), .cell ⟨g1946, 8, none⟩ (iv x2030.1.e7), .cell ⟨g1946, 9, none⟩ (iv x2030.2.e0), .cell ⟨g1946, 10, none⟩ (iv x2030.2.e1), .cell ⟨g1946, 11, none⟩ (iv x2030.2.e2), .cell ⟨g1946, 12, none⟩ (iv x2030.2.e3), .cell ⟨g1946, 13, none⟩ (iv x2030.2.e4), .cell ⟨g1946, 14, none⟩ (iv x2030.2.e5), .cell ⟨g1946, 15, none⟩ (iv x2030.2.e6), .cell ⟨g1946, 16, none⟩ (iv x2030.2.e7), .cell ⟨g1946, 17, none⟩ (iv ((rdD p0 (rdD p1 (0 : Int) 0) z_Tile).W)), .cell ⟨g1946, 18, none⟩ (iv ((rdD p0 (rdD p1 (w64 ((p1.length : Int) - 1)) 0) z_Tile).E))] (fun fb => by kernel_rfl) rfl ⟨hS2087.cell 0 rfl 0 rfl, hS2087.cell 0 rfl 1 rfl, hS2087.cell 0 rfl 2 rfl, hS2087.cell 0 rfl 3 rfl, hS2087.cell 0 rfl 4 rfl, hS2087.cell 0 rfl 5 rfl, hS2087.cell 0 rfl 6 rfl, hS2087.cell 0 rfl 7 rfl, hS2087.cell 0 rfl 8 rfl, hS2087.cell 0 rfl 9 rfl, hS2087.cell 0 rfl 10 rfl, hS2087.cell 0 rfl 11 rfl, hS2087.cell 0 rfl 12 rfl, hS2087.cell 0 rfl 13 rfl, hS2087.cell 0 rfl 14 rfl, hS2087.cell 0 rfl 15 rfl, hS2087.cell 0 rfl 16 rfl, hS2087.cell 0 rfl 17 rfl, hS2087.cell 0 rfl 18 rfl, trivial⟩ ?_
 refine WL.store hS2087 1 rfl [(0, (.slice A1942 (([] : List Int) ++ p1).length c1943)), (1, (iv x2030.1.e0)), (2, (iv x2030.1.e1)), (3, (iv x2030.1.e2)), (4, (iv x2030.1.e3)), (5, (iv x2030.1.e4)), (6, (iv x2030.1.e5)), (7, (iv x2030.1.e6)), (8, (iv x2030.1.e7)), (9, (iv x2030.2.e0)), (10, (iv x2030.2.e1)), (11, (iv x2030.2.e2)), (12, (iv x2030.2.e3)), (13, (iv x2030.2.e4)), (14, (iv x2030.2.e5)), (15, (iv x2030.2.e6)), (16, (iv x2030.2.e7)), (17, (iv ((rdD p0 (rdD p1 (0 : Int) 0) z_Tile).W))), (18, (iv ((rdD p0 (rdD p1 (w64 ((p1.length : Int) - 1)) 0) z_Tile).E)))] #[(.slice A1942 (([] : List Int) ++ p1).length c1943), (iv x2030.1.e0), (iv x2030.1.e1), (iv x2030.1.e2), (iv x2030.1.e3), (iv x2030.1.e4), (iv x2030.1.e5), (iv x2030.1.e6), (iv x2030.1.e7), (iv x2030.2.e0), (iv x2030.2.e1), (iv x2030.2.e2), (iv x2030.2.e3), (iv x2030.2.e4), (iv x2030.2.e5), (iv x2030.2.e6), (iv x2030.2.e7), (iv ((rdD p0 (rdD p1 (0 : Int) 0) z_Tile).W)), (iv ((rdD p0 (rdD p1 (w64 ((p1.length : Int) - 1)) 0) z_Tile).E))] (fun fb => by kernel_rfl) (by kernel_rfl) (by kernel_rfl) [0, 2] (by decide) (by decide) (fun w2088 hS2089 => ?_)
 refine ⟨trivial, ?_⟩
 refine WL.done rfl ?_
 refine WX.next ?_
 refine WC.ret ?_
 injection hf with hf
 subst hf
 exact WX.ret_ [.v (.slice A1942 (([] : List Int) ++ p1).length c1943), .v (iv x2030.1.e0), .v (iv x2030.1.e1), .v (iv x2030.1.e2), .v (iv x2030.1.e3), .v (iv x2030.1.e4), .v (iv x2030.1.e5), .v (iv x2030.1.e6), .v (iv x2030.1.e7), .v (iv x2030.2.e0), .v (iv x2030.2.e1), .v (iv x2030.2.e2), .v (iv x2030.2.e3), .v (iv x2030.2.e4), .v (iv x2030.2.e5), .v (iv x2030.2.e6), .v (iv x2030.2.e7), .v (iv ((rdD p0 (rdD p1 (0 : Int) 0) z_Tile).W)), .v (iv ((rdD p0 (rdD p1 (w64 ((p1.length : Int) - 1)) 0) z_Tile).E))] (.agg #[(.slice A1942 (([] : List Int) ++ p1).length c1943), (iv x2030.1.e0), (iv x2030.1.e1), (iv x2030.1.e2), (iv x2030.1.e3), (iv x2030.1.e4), (iv x2030.1.e5), (iv x2030.1.e6), (iv x2030.1.e7), (iv x2030.2.e0), (iv x2030.2.e1), (iv x2030.2.e2), (iv x2030.2.e3), (iv x2030.2.e4), (iv x2030.2.e5), (iv x2030.2.e6), (iv x2030.2.e7), (iv ((rdD p0 (rdD p1 (0 : Int) 0) z_Tile).W)), (iv ((rdD p0 (rdD p1 (w64 ((p1.length : Int) - 1)) 0) z_Tile).E))]) [.cell ⟨g1936, 0, none⟩ (.slice A1942 (([] : List Int) ++ p1).length c1943), .cell ⟨g1936, 1, none⟩ (iv x2030.1.e0), .cell ⟨g1936, 2, none⟩ (iv x2030.1.e1), .cell ⟨g1936, 3, none⟩ (iv x2030.1.e2), .cell ⟨g1936, 4, none⟩ (iv x2030.1.e3), .cell ⟨g1936, 5, none⟩ (iv x2030.1.e4), .cell ⟨g1936, 6, none⟩ (iv x2030.1.e5), .cell ⟨g1936, 7, none⟩ (iv x2030.1.e6), .cell ⟨g1936, 8, none⟩ (iv x2030.1.e7), .cell ⟨g1936, 9, none⟩ (iv x2030.2.e0), .cell ⟨g1936, 10, none⟩ (iv x2030.2.e1), .cell ⟨g1936, 11, none⟩ (iv x2030.2.e2), .cell ⟨g1936, 12, none⟩ (iv x2030.2.e3), .cell ⟨g1936, 13, none⟩ (iv x2030.2.e4), .cell ⟨g1936, 14, none⟩ (iv x2030.2.e5), .cell ⟨g1936, 15, none⟩ (iv x2030.2.e6), .cell ⟨g1936, 16, none⟩ (iv x2030.2.e7), .cell ⟨g1936, 17, none⟩ (iv ((rdD p0 (rdD p1 (0 : Int) 0) z_Tile).W)), .cell ⟨g1936, 18, none⟩ (iv ((rdD p0 (rdD p1 (w64 ((p1.length : Int) - 1)) 0) z_Tile).E))] (fun fb => by kernel_rfl) ⟨hS2089.cell 0 rfl 0 rfl, hS2089.cell 0 rfl 1 rfl, hS2089.cell 0 rfl 2 rfl, hS2089.cell 0 rfl 3 rfl, hS2089.cell 0 rfl 4 rfl, hS2089.cell 0 rfl 5 rfl, hS2089.cell 0 rfl 6 rfl, hS2089.cell 0 rfl 7 rfl, hS2089.cell 0 rfl 8 rfl, hS2089.cell 0 rfl 9 rfl, hS2089.cell 0 rfl 10 rfl, hS2089.cell 0 rfl 11 rfl, hS2089.cell 0 rfl 12 rfl, hS2089.cell 0 rfl 13 rfl, hS2089.cell 0 rfl 14 rfl, hS2089.cell 0 rfl 15 rfl, hS2089.cell 0 rfl 16 rfl, hS2089.cell 0 rfl 17 rfl, hS2089.cell 0 rfl 18 rfl, trivial⟩ ⟨_, rfl, A1942, c1943, rfl, (hS2089.sub [2] (by decide)).noR⟩
theorem rows_All_1_calls : ∀ (k : Nat) (p0 : Int) (f0 : Int) (f1 : List Row) (f2 : List Tile) (f3 : List Int) (g_f0 : Nat) (g_f1 : Nat) (A_f1 : Option Addr) (c_f1 : Nat) (H_f1 : Nat → HF) (g_f2 : Nat) (A_f2 : Option Addr) (c_f2 : Nat) (g_f3 : Nat) (A_f3 : Option Addr) (c_f3 : Nat) (g_f4 : Nat) (r : (List Row) × (List Int)) (w : World) (hR0 : RO (fpL [blk g_f1 (.cells #[(.slice A_f1 f1.length c_f1)] 79 (0, 0)), rowO 85 encN_Row A_f1 c_f1 (tag H_f1 f1), poolO [nestO subN_Row H_f1 f1], blk g_f3 (.cells #[(.slice A_f3 f3.length c_f3)] 25 (0, 0)), rowO 3 encInt A_f3 c_f3 f3]) w (blk g_f0 (.cells #[(iv f0)] 3 (0, 0)))) (hR1 : RO (fpL [blk g_f1 (.cells #[(.slice A_f1 f1.length c_f1)] 79 (0, 0)), rowO 85 encN_Row A_f1 c_f1 (tag H_f1 f1), poolO [nestO subN_Row H_f1 f1], blk g_f3 (.cells #[(.slice A_f3 f3.length c_f3)] 25 (0, 0)), rowO 3 encInt A_f3 c_f3 f3]) w (blk g_f2 (.cells #[(.slice A_f2 f2.length c_f2)] 22 (0, 0)))) (hR2 : RO (fpL [blk g_f1 (.cells #[(.slice A_f1 f1.length c_f1)] 79 (0, 0)), rowO 85 encN_Row A_f1 c_f1 (tag H_f1 f1), poolO [nestO subN_Row H_f1 f1], blk g_f3 (.cells #[(.slice A_f3 f3.length c_f3)] 25 (0, 0)), rowO 3 encInt A_f3 c_f3 f3]) w (rowR enc_Tile A_f2 c_f2 f2)) (hR3 : RO (fpL [blk g_f1 (.cells #[(.slice A_f1 f1.length c_f1)] 79 (0, 0)), rowO 85 encN_Row A_f1 c_f1 (tag H_f1 f1), poolO [nestO subN_Row H_f1 f1], blk g_f3 (.cells #[(.slice A_f3 f3.length c_f3)] 25 (0, 0)), rowO 3 encInt A_f3 c_f3 f3]) w (blk g_f4 (.cells #[(.func (.func 97) #[] #[(.pointer (some ⟨g_f0, 0, none⟩)), (.pointer (some ⟨g_f1, 0, none⟩)), (.pointer (some ⟨g_f2, 0, none⟩)), (.pointer (some ⟨g_f3, 0, none⟩)), (.pointer (some ⟨g_f4, 0, none⟩))])] 129 (0, 0)))) (hI : IoOK w [blk g_f1 (.cells #[(.slice A_f1 f1.length c_f1)] 79 (0, 0)), rowO 85 encN_Row A_f1 c_f1 (tag H_f1 f1), poolO [nestO subN_Row H_f1 f1], blk g_f3 (.cells #[(.slice A_f3 f3.length c_f3)] 25 (0, 0)), rowO 3 encInt A_f3 c_f3 f3]) (hf : rows_All_1 k p0 f0 f1 f2 f3 = some r),
  CallsR Tryd.prog 97 #[(iv p0), (.pointer (some ⟨g_f0, 0, none⟩)), (.pointer (some ⟨g_f1, 0, none⟩)), (.pointer (some ⟨g_f2, 0, none⟩)), (.pointer (some ⟨g_f3, 0, none⟩)), (.pointer (some ⟨g_f4, 0, none⟩))] w (fun v w' => ∃ (A1_ : Option Addr), ∃ (c1_ : Nat), ∃ (h1_ : Nat → HF), ∃ (A2_ : Option Addr), ∃ (c2_ : Nat), v = (.tuple #[]) ∧ St (fpL [blk g_f1 (.cells #[(.slice A_f1 f1.length c_f1)] 79 (0, 0)), rowO 85 encN_Row A_f1 c_f1 (tag H_f1 f1), poolO [nestO subN_Row H_f1 f1], blk g_f3 (.cells #[(.slice A_f3 f3.length c_f3)] 25 (0, 0)), rowO 3 encInt A_f3 c_f3 f3]) w w' [] [blk g_f1 (.cells #[(.slice A1_ r.1.length c1_)] 79 (0, 0)), rowO 85 encN_Row A1_ c1_ (tag h1_ r.1), poolO [nestO subN_Row h1_ r.1], blk g_f3 (.cells #[(.slice A2_ r.2.length c2_)] 25 (0, 0)), rowO 3 encInt A2_ c2_ r.2]) := by
 intro k
 induction k with
 | zero => intro p0 f0 f1 f2 f3 g_f0 g_f1 A_f1 c_f1 H_f1 g_f2 A_f2 c_f2 g_f3 A_f3 c_f3 g_f4 r w hR0 hR1 hR2 hR3 hI hf; rw [rows_All_1] at hf; cases hf
 | succ k ih_ =>
 intro p0 f0 f1 f2 f3 g_f0 g_f1 A_f1 c_f1 H_f1 g_f2 A_f2 c_f2 g_f3 A_f3 c_f3 g_f4 r w hR0 hR1 hR2 hR3 hI hf
 have hS : St (fpL [blk g_f1 (.cells #[(.slice A_f1 f1.length c_f1)] 79 (0, 0)), rowO 85 encN_Row A_f1 c_f1 (tag H_f1 f1), poolO [nestO subN_Row H_f1 f1], blk g_f3 (.cells #[(.slice A_f3 f3.length c_f3)] 25 (0, 0)), rowO 3 encInt A_f3 c_f3 f3]) w w [blk g_f0 (.cells #[(iv f0)] 3 (0, 0)), blk g_f2 (.cells #[(.slice A_f2 f2.length c_f2)] 22 (0, 0)), rowR enc_Tile A_f2 c_f2 f2, blk g_f4 (.cells #[(.func (.func 97) #[] #[(.pointer (some ⟨g_f0, 0, none⟩)), (.pointer (some ⟨g_f1, 0, none⟩)), (.pointer (some ⟨g_f2, 0, none⟩)), (.pointer (some ⟨g_f3, 0, none⟩)), (.pointer (some ⟨g_f4, 0, none⟩))])] 129 (0, 0))] [blk g_f1 (.cells #[(.slice A_f1 f1.length c_f1)] 79 (0, 0)), rowO 85 encN_Row A_f1 c_f1 (tag H_f1 f1), poolO [nestO subN_Row H_f1 f1], blk g_f3 (.cells #[(.slice A_f3 f3.length c_f3)] 25 (0, 0)), rowO 3 encInt A_f3 c_f3 f3] := St.initIO (ro_cons hR0 (ro_cons hR1 (ro_cons hR2 (ro_cons hR3 (ro_nil _ _))))) hI
 rw [rows_All_1] at hf
 generalize rows_All_1 k = rc_ at hf ih_
 refine enter 50 Tryd.func97 rfl Tryd.ntmps97 rfl ?_
 refine WC.seq ?_
 refine WC.seq ?_
 refine WC.region ?_
 refine seg 3 [.v (iv f0)] [0, 2, 3, 4, 5, 11] [(0, (iv p0)), (2, (.pointer (some ⟨g_f1, 0, none⟩))), (3, (.pointer (some ⟨g_f2, 0, none⟩))), (4, (.pointer (some ⟨g_f3, 0, none⟩))), (5, (.pointer (some ⟨g_f4, 0, none⟩))), (11, (.bool (p0 == f0)))] [.cell ⟨g_f0, 0, none⟩ (iv f0)] (fun fb => by kernel_rfl) rfl ⟨blk_cell (hS.rd 0).1 0 rfl, trivial⟩ ?_
 refine WL.done rfl ?_
 refine WX.next ?_
 rcases br_some hf with ⟨h2269, hf⟩ | ⟨h2269, hf⟩
 ·refine WC.condT2 (fun fb => by kernel_rfl) h2269 ?_
  refine WC.seq ?_
  refine WC.regionD ([(0, ⟨g_f1, 0, none⟩, (.slice A_f1 f1.length c_f1)), (1, ⟨g_f2, 0, none⟩, (.slice A_f2 f2.length c_f2)), (2, ⟨g_f3, 0, none⟩, (.slice A_f3 f3.length c_f3))], [0, 1, 2], [[], [], [], [1, 2], [1, 2, 3], [0, 1, 2, 3, 4], [0, 1, 2, 3, 4, 5]]) [[0, 1, 2, 3, 4, 5, 6]] (by kernel_rfl) (by kernel_rfl) (NoPanic.seq (NoPanic.seq (NoPanic.body))) ?_
  have hS2291 := hS.drew
  revert hS2291
  generalize World.drew w = w2290
  intro hS2291
  refine ⟨⟨hS2291.cell 0 rfl 0 rfl, blk_cell (hS2291.rd 1).1 0 rfl, hS2291.cell 3 rfl 0 rfl, trivial⟩, forallC ?_ (forallN)⟩
  refine segF 3 [.v (.slice A_f1 f1.length c_f1), .v (.slice A_f2 f2.length c_f2), .v (.slice A_f3 f3.length c_f3)] [2, 4, 12, 13, 14] [(2, (.pointer (some ⟨g_f1, 0, none⟩))), (4, (.pointer (some ⟨g_f3, 0, none⟩))), (12, (.slice A_f1 f1.length c_f1)), (13, (.slice A_f2 f2.length c_f2)), (14, (.slice A_f3 f3.length c_f3))] [] [0, 1, 2] [(0, ⟨g_f1, 0, none⟩, (.slice A_f1 f1.length c_f1)), (1, ⟨g_f2, 0, none⟩, (.slice A_f2 f2.length c_f2)), (2, ⟨g_f3, 0, none⟩, (.slice A_f3 f3.length c_f3))] (fun fb => by kernel_rfl) rfl trivial rfl ?_
  obtain ⟨t2292, ht2293, hf⟩ := bind_some hf
  refine WL.call (some 15) 98 #[(.slice A_f2 f2.length c_f2), (.slice A_f3 f3.length c_f3)] (fun fb => by kernel_rfl) (rows_rowOf_calls _ f2 f3 A_f2 c_f2 A_f3 c_f3 t2292 _ (hS2291.rd 2) (hS2291.ow 4).ofO ht2293) (fun v w2294 hR2295 => ?_)
  obtain ⟨A2297, c2298, rfl, hk_⟩ := hR2295
  have hS2296 : St (fpL [blk g_f1 (.cells #[(.slice A_f1 f1.length c_f1)] 79 (0, 0)), rowO 85 encN_Row A_f1 c_f1 (tag H_f1 f1), poolO [nestO subN_Row H_f1 f1], blk g_f3 (.cells #[(.slice A_f3 f3.length c_f3)] 25 (0, 0)), rowO 3 encInt A_f3 c_f3 f3]) w w2294 [blk g_f0 (.cells #[(iv f0)] 3 (0, 0)), blk g_f2 (.cells #[(.slice A_f2 f2.length c_f2)] 22 (0, 0)), rowR enc_Tile A_f2 c_f2 f2, blk g_f4 (.cells #[(.func (.func 97) #[] #[(.pointer (some ⟨g_f0, 0, none⟩)), (.pointer (some ⟨g_f1, 0, none⟩)), (.pointer (some ⟨g_f2, 0, none⟩)), (.pointer (some ⟨g_f3, 0, none⟩)), (.pointer (some ⟨g_f4, 0, none⟩))])] 129 (0, 0))] [rowO 3 encInt A2297 c2298 t2292.Cells, blk g_f1 (.cells #[(.slice A_f1 f1.length c_f1)] 79 (0, 0)), rowO 85 encN_Row A_f1 c_f1 (tag H_f1 f1), poolO [nestO subN_Row H_f1 f1], blk g_f3 (.cells #[(.slice A_f3 f3.length c_f3)] 25 (0, 0)), rowO 3 encInt A_f3 c_f3 f3] := hS2291.call hk_ [] [0, 1, 2, 3, 4] (fun g hg => hg.elim) (by simp) (by decide)
  refine ⟨⟨hS2296.cell 1 rfl 0 rfl, trivial⟩, ?_⟩
  refine WL.new hS2296 16 [] (fun g => (.slice (some ⟨g, 0, none⟩) 1 1)) (.cells #[(.slice A2297 t2292.Cells.length c2298), (iv t2292.South.e0), (iv t2292.South.e1), (iv t2292.South.e2), (iv t2292.South.e3), (iv t2292.South.e4), (iv t2292.South.e5), (iv t2292.South.e6), (iv t2292.South.e7), (iv t2292.North.e0), (iv t2292.North.e1), (iv t2292.North.e2), (iv t2292.North.e3), (iv t2292.North.e4), (iv t2292.North.e5), (iv t2292.North.e6), (iv t2292.North.e7), (iv t2292.West), (iv t2292.East)] 85 (0, 0)) [] (fun fb g => by kernel_rfl) trivial (fun g2299 w2300 hS2301 => ?_)
  refine ⟨⟨hS2301.cell 2 rfl 0 rfl, trivial⟩, ?_⟩
  have hS2303 : St (fpL [blk g_f1 (.cells #[(.slice A_f1 f1.length c_f1)] 79 (0, 0)), rowO 85 encN_Row A_f1 c_f1 (tag H_f1 f1), poolO [nestO subN_Row H_f1 f1], blk g_f3 (.cells #[(.slice A_f3 f3.length c_f3)] 25 (0, 0)), rowO 3 encInt A_f3 c_f3 f3]) w w2300 [blk g_f0 (.cells #[(iv f0)] 3 (0, 0)), blk g_f2 (.cells #[(.slice A_f2 f2.length c_f2)] 22 (0, 0)), rowR enc_Tile A_f2 c_f2 f2, blk g_f4 (.cells #[(.func (.func 97) #[] #[(.pointer (some ⟨g_f0, 0, none⟩)), (.pointer (some ⟨g_f1, 0, none⟩)), (.pointer (some ⟨g_f2, 0, none⟩)), (.pointer (some ⟨g_f3, 0, none⟩)), (.pointer (some ⟨g_f4, 0, none⟩))])] 129 (0, 0))] [rowO 85 encN_Row (some ⟨g2299, 0, none⟩) 1 [((hd1 A2297 c2298), t2292)], rowO 3 encInt A2297 c2298 t2292.Cells, blk g_f1 (.cells #[(.slice A_f1 f1.length c_f1)] 79 (0, 0)), rowO 85 encN_Row A_f1 c_f1 (tag H_f1 f1), poolO [nestO subN_Row H_f1 f1], blk g_f3 (.cells #[(.slice A_f3 f3.length c_f3)] 25 (0, 0)), rowO 3 encInt A_f3 c_f3 f3] := hS2301.map1 0 _ (fun h => rowO.ofBlk h rfl (Nat.le_of_ble_eq_true (by kernel_rfl))) (fun _ h => by obtain ⟨_, h1, h2⟩ := h; injection h1 with h1; subst h1; exact h2) [1, 2, 3, 4, 5, 6] (by decide) (by decide)
  obtain ⟨h2304, hf⟩ := as_some hf
  refine WL.appendN hS2303 3 (d := 17) (tS := 79) (z := (.agg #[(.slice none 0 0), (iv 0), (iv 0), (iv 0), (iv 0), (iv 0), (iv 0), (iv 0), (iv 0), (iv 0), (iv 0), (iv 0), (iv 0), (iv 0), (iv 0), (iv 0), (iv 0), (iv 0), (iv 0)])) (bytes := 168) (c2 := 1) (hx := (hd1 A2297 c2298)) (x := t2292) rfl (fun fb => by kernel_rfl) (rowO.rd (hS2303.own 0).1) (by kernel_rfl) (by kernel_rfl) rfl (by decide) h2304 (by decide) [0, 1, 2, 4, 5, 6] (by decide) (by decide) (fun A2305 c2306 w2307 hS2308 => ?_)
  have hS2309 : St (fpL [blk g_f1 (.cells #[(.slice A_f1 f1.length c_f1)] 79 (0, 0)), rowO 85 encN_Row A_f1 c_f1 (tag H_f1 f1), poolO [nestO subN_Row H_f1 f1], blk g_f3 (.cells #[(.slice A_f3 f3.length c_f3)] 25 (0, 0)), rowO 3 encInt A_f3 c_f3 f3]) w w2307 [blk g_f0 (.cells #[(iv f0)] 3 (0, 0)), blk g_f2 (.cells #[(.slice A_f2 f2.length c_f2)] 22 (0, 0)), rowR enc_Tile A_f2 c_f2 f2, blk g_f4 (.cells #[(.func (.func 97) #[] #[(.pointer (some ⟨g_f0, 0, none⟩)), (.pointer (some ⟨g_f1, 0, none⟩)), (.pointer (some ⟨g_f2, 0, none⟩)), (.pointer (some ⟨g_f3, 0, none⟩)), (.pointer (some ⟨g_f4, 0, none⟩))])] 129 (0, 0))] [poolO [nestO subN_Row (updH H_f1 f1.length (hd1 A2297 c2298)) (f1 ++ [t2292])], rowO 85 encN_Row A2305 c2306 (tag (updH H_f1 f1.length (hd1 A2297 c2298)) (f1 ++ [t2292])), rowO 85 encN_Row (some ⟨g2299, 0, none⟩) 1 [((hd1 A2297 c2298), t2292)], blk g_f1 (.cells #[(.slice A_f1 f1.length c_f1)] 79 (0, 0)), blk g_f3 (.cells #[(.slice A_f3 f3.length c_f3)] 25 (0, 0)), rowO 3 encInt A_f3 c_f3 f3] := hS2308.poolPush 4 rfl 0 (by simp) rfl (hd1 A2297 c2298) t2292 (hS2308.ow 2).ofO [2] (fun g hg => ⟨2, by simp, rowO.fpR (hS2308.own 2).1 g hg⟩) _ rfl [0, 1, 3, 5, 6] (by decide) (by decide)
  refine ⟨trivial, ?_⟩
  refine WL.store hS2309 3 rfl [(0, (.slice A2305 (f1 ++ [t2292]).length c2306))] #[(.slice A2305 (f1 ++ [t2292]).length c2306)] (fun fb => by kernel_rfl) (by kernel_rfl) rfl [0, 1, 2, 4, 5] (by decide) (by decide) (fun w2310 hS2311 => ?_)
  refine ⟨trivial, ?_⟩
  refine WL.done rfl ?_
  refine WX.next ?_
  refine WC.ret ?_
  injection hf with hf
  subst hf
  exact WX.thenR (WX.ret_ [] (.tuple #[]) [] (fun fb => by kernel_rfl) trivial ⟨_, rfl, A2305, c2306, (updH H_f1 f1.length (hd1 A2297 c2298)), A_f3, c_f3, rfl, (hS2311.sub [0, 2, 1, 4, 5] (by decide)).noR⟩)
 refine WC.condF2 (fun fb => by kernel_rfl) h2269 ?_
 refine WC.skip ?_
 refine WX.next ?_
 refine WC.seq ?_
 refine WC.region ?_
 refine seg 3 [.v (.slice A_f2 f2.length c_f2)] [0, 2, 3, 4, 5, 18, 19, 20] [(0, (iv p0)), (2, (.pointer (some ⟨g_f1, 0, none⟩))), (3, (.pointer (some ⟨g_f2, 0, none⟩))), (4, (.pointer (some ⟨g_f3, 0, none⟩))), (5, (.pointer (some ⟨g_f4, 0, none⟩))), (18, (.slice A_f2 f2.length c_f2)), (19, (iv (f2.length : Int))), (20, (iv 0))] [.cell ⟨g_f2, 0, none⟩ (.slice A_f2 f2.length c_f2)] (fun fb => by kernel_rfl) rfl ⟨blk_cell (hS.rd 1).1 0 rfl, trivial⟩ ?_
 refine WL.done rfl ?_
 refine WX.next ?_
 obtain ⟨x2495, hx2496, hf⟩ := bind_some hf
 refine WC.cutN (T := ((List Row) × (List Int)) × (Option Addr) × Nat × (Nat → HF) × (Option Addr) × Nat) (fun t => [(2, (.pointer (some ⟨g_f1, 0, none⟩))), (4, (.pointer (some ⟨g_f3, 0, none⟩)))]) (fun t w1 => St (fpL [blk g_f1 (.cells #[(.slice A_f1 f1.length c_f1)] 79 (0, 0)), rowO 85 encN_Row A_f1 c_f1 (tag H_f1 f1), poolO [nestO subN_Row H_f1 f1], blk g_f3 (.cells #[(.slice A_f3 f3.length c_f3)] 25 (0, 0)), rowO 3 encInt A_f3 c_f3 f3]) w w1 [blk g_f0 (.cells #[(iv f0)] 3 (0, 0)), blk g_f2 (.cells #[(.slice A_f2 f2.length c_f2)] 22 (0, 0)), rowR enc_Tile A_f2 c_f2 f2, blk g_f4 (.cells #[(.func (.func 97) #[] #[(.pointer (some ⟨g_f0, 0, none⟩)), (.pointer (some ⟨g_f1, 0, none⟩)), (.pointer (some ⟨g_f2, 0, none⟩)), (.pointer (some ⟨g_f3, 0, none⟩)), (.pointer (some ⟨g_f4, 0, none⟩))])] 129 (0, 0))] [blk g_f1 (.cells #[(.slice t.2.1 t.1.1.length t.2.2.1)] 79 (0, 0)), rowO 85 encN_Row t.2.1 t.2.2.1 (tag t.2.2.2.1 t.1.1), poolO [nestO subN_Row t.2.2.2.1 t.1.1], blk g_f3 (.cells #[(.slice t.2.2.2.2.1 t.1.2.length t.2.2.2.2.2)] 25 (0, 0)), rowO 3 encInt t.2.2.2.2.1 t.2.2.2.2.2 t.1.2] ∧ x2495 = t.1) (fun Kx2495 => ?_) ?_
 ·
  refine WC.block ?_
  refine WC.loop (T := ((List Row) × (List Int) × Int) × (Option Addr) × Nat × (Nat → HF) × (Option Addr) × Nat) (fun t => [(0, (iv p0)), (2, (.pointer (some ⟨g_f1, 0, none⟩))), (3, (.pointer (some ⟨g_f2, 0, none⟩))), (4, (.pointer (some ⟨g_f3, 0, none⟩))), (5, (.pointer (some ⟨g_f4, 0, none⟩))), (18, (.slice A_f2 f2.length c_f2)), (19, (iv (f2.length : Int))), (20, (iv t.1.2.2))]) (fun n t w1 => St (fpL [blk g_f1 (.cells #[(.slice A_f1 f1.length c_f1)] 79 (0, 0)), rowO 85 encN_Row A_f1 c_f1 (tag H_f1 f1), poolO [nestO subN_Row H_f1 f1], blk g_f3 (.cells #[(.slice A_f3 f3.length c_f3)] 25 (0, 0)), rowO 3 encInt A_f3 c_f3 f3]) w w1 [blk g_f0 (.cells #[(iv f0)] 3 (0, 0)), blk g_f2 (.cells #[(.slice A_f2 f2.length c_f2)] 22 (0, 0)), rowR enc_Tile A_f2 c_f2 f2, blk g_f4 (.cells #[(.func (.func 97) #[] #[(.pointer (some ⟨g_f0, 0, none⟩)), (.pointer (some ⟨g_f1, 0, none⟩)), (.pointer (some ⟨g_f2, 0, none⟩)), (.pointer (some ⟨g_f3, 0, none⟩)), (.pointer (some ⟨g_f4, 0, none⟩))])] 129 (0, 0))] [blk g_f1 (.cells #[(.slice t.2.1 t.1.1.length t.2.2.1)] 79 (0, 0)), rowO 85 encN_Row t.2.1 t.2.2.1 (tag t.2.2.2.1 t.1.1), poolO [nestO subN_Row t.2.2.2.1 t.1.1], blk g_f3 (.cells #[(.slice t.2.2.2.2.1 t.1.2.1.length t.2.2.2.2.2)] 25 (0, 0)), rowO 3 encInt t.2.2.2.2.1 t.2.2.2.2.2 t.1.2.1] ∧ rows_All_1.l0 n t.1.1 t.1.2.1 t.1.2.2 p0 f0 f2 rc_ = some x2495) k ((f1, f3, 0), A_f1, c_f1, H_f1, A_f3, c_f3) [0, 2, 3, 4, 5, 18, 19, 20] rfl ⟨(hS.subR [0, 1, 2, 3]).sub [0, 1, 2, 3, 4] (by decide), hx2496⟩ ?_
  rintro k2497 ⟨⟨l2482, l2486, x2487⟩, A2480, c2481, H2483, A2484, c2485⟩ w2498 ⟨hS2499, hl2500⟩
  cases k2497 with
  | zero => rw [rows_All_1.l0] at hl2500; cases hl2500
  | succ k2497 =>
   rw [rows_All_1.l0] at hl2500
   refine WC.seq ?_
   refine WC.region ?_
   refine seg 1 [] [0, 2, 3, 4, 5, 18, 19, 20, 21] [(0, (iv p0)), (2, (.pointer (some ⟨g_f1, 0, none⟩))), (3, (.pointer (some ⟨g_f2, 0, none⟩))), (4, (.pointer (some ⟨g_f3, 0, none⟩))), (5, (.pointer (some ⟨g_f4, 0, none⟩))), (18, (.slice A_f2 f2.length c_f2)), (19, (iv (f2.length : Int))), (20, (iv x2487)), (21, (.bool (decide (x2487 < (f2.length : Int)))))] [] (fun fb => by kernel_rfl) rfl trivial ?_
   refine WL.done rfl ?_
   refine WX.next ?_
   refine WC.seq ?_
   rcases br_some hl2500 with ⟨h2501, hl2500⟩ | ⟨h2501, hl2500⟩
   ·refine WC.condT2 (fun fb => by kernel_rfl) h2501 ?_
    refine WC.skip ?_
    refine WX.next ?_
    refine WC.seq ?_
    refine WC.block ?_
    refine WC.seq ?_
    refine WC.region ?_
    refine seg 1 [] [0, 2, 3, 4, 5, 18, 19, 20, 22] [(0, (iv p0)), (2, (.pointer (some ⟨g_f1, 0, none⟩))), (3, (.pointer (some ⟨g_f2, 0, none⟩))), (4, (.pointer (some ⟨g_f3, 0, none⟩))), (5, (.pointer (some ⟨g_f4, 0, none⟩))), (18, (.slice A_f2 f2.length c_f2)), (19, (iv (f2.length : Int))), (20, (iv x2487)), (22, (iv x2487))] [] (fun fb => by kernel_rfl) rfl trivial ?_
    obtain ⟨h2502, hl2500⟩ := as_some hl2500
    refine seg 3 [.v (iv ((rdD f2 x2487 z_Tile).N)), .v (iv ((rdD f2 x2487 z_Tile).E)), .v (iv ((rdD f2 x2487 z_Tile).S)), .v (iv ((rdD f2 x2487 z_Tile).W))] [0, 2, 3, 4, 5, 18, 19, 20, 22, 24] [(0, (iv p0)), (2, (.pointer (some ⟨g_f1, 0, none⟩))), (3, (.pointer (some ⟨g_f2, 0, none⟩))), (4, (.pointer (some ⟨g_f3, 0, none⟩))), (5, (.pointer (some ⟨g_f4, 0, none⟩))), (18, (.slice A_f2 f2.length c_f2)), (19, (iv (f2.length : Int))), (20, (iv x2487)), (22, (iv x2487)), (24, (.agg #[(iv ((rdD f2 x2487 z_Tile).N)), (iv ((rdD f2 x2487 z_Tile).E)), (iv ((rdD f2 x2487 z_Tile).S)), (iv ((rdD f2 x2487 z_Tile).W))]))] [.idx A_f2 x2487 f2.length, .cell ((adr A_f2).add ((x2487).toNat * 4)) (iv ((rdD f2 x2487 z_Tile).N)), .cell (((adr A_f2).add ((x2487).toNat * 4)).add 1) (iv ((rdD f2 x2487 z_Tile).E)), .cell (((adr A_f2).add ((x2487).toNat * 4)).add 2) (iv ((rdD f2 x2487 z_Tile).S)), .cell (((adr A_f2).add ((x2487).toNat * 4)).add 3) (iv ((rdD f2 x2487 z_Tile).W))] (fun fb => by kernel_rfl) rfl ⟨rowR.adr (hS2499.rd 2).1 h2502.1 h2502.2, rowR.cell (hS2499.rd 2).1 z_Tile h2502.1 h2502.2 0 rfl, rowR.cell (hS2499.rd 2).1 z_Tile h2502.1 h2502.2 1 rfl, rowR.cell (hS2499.rd 2).1 z_Tile h2502.1 h2502.2 2 rfl, rowR.cell (hS2499.rd 2).1 z_Tile h2502.1 h2502.2 3 rfl, trivial⟩ ?_
    refine WL.new hS2499 8 [] (fun g => (.pointer (some ⟨g, 0, none⟩))) (.cells #[(iv 0), (iv 0), (iv 0), (iv 0)] 40 (0, 0)) [] (fun fb g => by kernel_rfl) trivial (fun g2503 w2504 hS2505 => ?_)
    refine ⟨trivial, ?_⟩
    refine seg 5 [] [0, 2, 3, 4, 5, 7, 8, 18, 19, 20, 24] [(0, (iv p0)), (2, (.pointer (some ⟨g_f1, 0, none⟩))), (3, (.pointer (some ⟨g_f2, 0, none⟩))), (4, (.pointer (some ⟨g_f3, 0, none⟩))), (5, (.pointer (some ⟨g_f4, 0, none⟩))), (7, (iv x2487)), (8, (pt g2503)), (18, (.slice A_f2 f2.length c_f2)), (19, (iv (f2.length : Int))), (20, (iv x2487)), (24, (.agg #[(iv ((rdD f2 x2487 z_Tile).N)), (iv ((rdD f2 x2487 z_Tile).E)), (iv ((rdD f2 x2487 z_Tile).S)), (iv ((rdD f2 x2487 z_Tile).W))]))] [] (fun fb => by kernel_rfl) rfl trivial ?_
    refine WL.store hS2505 0 rfl [(0, (iv ((rdD f2 x2487 z_Tile).N))), (1, (iv ((rdD f2 x2487 z_Tile).E))), (2, (iv ((rdD f2 x2487 z_Tile).S))), (3, (iv ((rdD f2 x2487 z_Tile).W)))] #[(iv ((rdD f2 x2487 z_Tile).N)), (iv ((rdD f2 x2487 z_Tile).E)), (iv ((rdD f2 x2487 z_Tile).S)), (iv ((rdD f2 x2487 z_Tile).W))] (fun fb => by kernel_rfl) (by kernel_rfl) rfl [1, 2, 3, 4, 5] (by decide) (by decide) (fun w2507 hS2508 => ?_)
    refine ⟨trivial, ?_⟩
    refine WL.done rfl ?_
    refine WX.next ?_
    refine WC.seq ?_
    obtain ⟨x2521, hx2522, hl2500⟩ := bind_some hl2500
    refine WC.cutN (T := Bool) (fun t => [(0, (iv p0)), (2, (.pointer (some ⟨g_f1, 0, none⟩))), (3, (.pointer (some ⟨g_f2, 0, none⟩))), (4, (.pointer (some ⟨g_f3, 0, none⟩))), (5, (.pointer (some ⟨g_f4, 0, none⟩))), (7, (iv x2487)), (18, (.slice A_f2 f2.length c_f2)), (19, (iv (f2.length : Int))), (20, (iv x2487)), (40, (.bool t))]) (fun t w1 => St (fpL [blk g_f1 (.cells #[(.slice A_f1 f1.length c_f1)] 79 (0, 0)), rowO 85 encN_Row A_f1 c_f1 (tag H_f1 f1), poolO [nestO subN_Row H_f1 f1], blk g_f3 (.cells #[(.slice A_f3 f3.length c_f3)] 25 (0, 0)), rowO 3 encInt A_f3 c_f3 f3]) w w1 [blk g_f0 (.cells #[(iv f0)] 3 (0, 0)), blk g_f2 (.cells #[(.slice A_f2 f2.length c_f2)] 22 (0, 0)), rowR enc_Tile A_f2 c_f2 f2, blk g_f4 (.cells #[(.func (.func 97) #[] #[(.pointer (some ⟨g_f0, 0, none⟩)), (.pointer (some ⟨g_f1, 0, none⟩)), (.pointer (some ⟨g_f2, 0, none⟩)), (.pointer (some ⟨g_f3, 0, none⟩)), (.pointer (some ⟨g_f4, 0, none⟩))])] 129 (0, 0))] [blk g_f1 (.cells #[(.slice A2480 l2482.length c2481)] 79 (0, 0)), rowO 85 encN_Row A2480 c2481 (tag H2483 l2482), poolO [nestO subN_Row H2483 l2482], blk g_f3 (.cells #[(.slice A2484 l2486.length c2485)] 25 (0, 0)), rowO 3 encInt A2484 c2485 l2486] ∧ x2521 = t) (fun Kx2521 => ?_) ?_
    ·
     rcases br_some hx2522 with ⟨h2523, hx2522⟩ | ⟨h2523, hx2522⟩
     ·
      refine WC.regionD ([], [0, 1, 2, 3, 4, 5, 6, 7, 8, 9, 10, 11, 12, 13, 14, 15], [[], [0], [0, 1], [0, 1, 2], [0, 1, 2], [0, 1, 2], [0, 1, 2, 5], [0, 1, 2, 4, 5, 6], [0, 1, 2, 4, 5, 6, 7], [0, 1, 2, 3, 4, 5, 6, 7, 8], [0, 1, 2, 3, 4, 5, 6, 7, 8, 9], [0, 1, 2, 3, 4, 5, 6, 7, 8, 9, 10], [0, 1, 2], [0, 1, 2, 12], [0, 1, 2, 3, 4, 5, 6, 7, 8, 9, 10, 11, 12, 13], [0, 1, 2, 3, 4, 5, 6, 7, 8, 9, 10, 11, 12, 13, 14]]) [[0, 1, 2, 3, 4, 5, 6, 7, 8, 9, 10, 11, 12, 13, 14, 15]] (by kernel_rfl) (by kernel_rfl) (NoPanic.seq (NoPanic.block (NoPanic.seq (NoPanic.seq (NoPanic.block (NoPanic.body)))))) ?_
      have hS2525 := hS2508.drew
      revert hS2525
      generalize World.drew w2507 = w2524
      intro hS2525
      refine ⟨trivial, forallC ?_ (forallN)⟩
      refine seg 3 [] [0, 2, 3, 4, 5, 7, 8, 18, 19, 20, 27] [(0, (iv p0)), (2, (.pointer (some ⟨g_f1, 0, none⟩))), (3, (.pointer (some ⟨g_f2, 0, none⟩))), (4, (.pointer (some ⟨g_f3, 0, none⟩))), (5, (.pointer (some ⟨g_f4, 0, none⟩))), (7, (iv x2487)), (8, (pt g2503)), (18, (.slice A_f2 f2.length c_f2)), (19, (iv (f2.length : Int))), (20, (iv x2487)), (27, (.bool (p0 == 0)))] [] (fun fb => by kernel_rfl) rfl trivial ?_
      refine WL.setB 27 h2523 rfl ?_
      refine seg 16 [] [0, 2, 3, 4, 5, 7, 18, 19, 20, 40] [(0, (iv p0)), (2, (.pointer (some ⟨g_f1, 0, none⟩))), (3, (.pointer (some ⟨g_f2, 0, none⟩))), (4, (.pointer (some ⟨g_f3, 0, none⟩))), (5, (.pointer (some ⟨g_f4, 0, none⟩))), (7, (iv x2487)), (18, (.slice A_f2 f2.length c_f2)), (19, (iv (f2.length : Int))), (20, (iv x2487)), (40, (.bool true))] [] (fun fb => by kernel_rfl) rfl trivial ?_
      refine WL.done rfl ?_
      injection hx2522 with hx2522
      exact WX.to Kx2521 true [0, 2, 3, 4, 5, 7, 18, 19, 20, 40] rfl ⟨(hS2525.subR [0, 1, 2, 3]).sub [1, 2, 3, 4, 5] (by decide), hx2522.symm⟩
     obtain ⟨h2532, hx2522⟩ := as_some hx2522
     obtain ⟨h2533, hx2522⟩ := as_some hx2522
     refine WC.regionD ([(3, ⟨g_f2, 0, none⟩, (.slice A_f2 f2.length c_f2)), (4, ⟨g_f3, 0, none⟩, (.slice A2484 l2486.length c2485)), (8, ((adr A2484).add ((w64 (p0 - 1)).toNat * 1)), (iv (rdD l2486 (w64 (p0 - 1)) 0))), (11, (((adr A_f2).add (((rdD l2486 (w64 (p0 - 1)) 0)).toNat * 4)).add 1), (iv ((rdD f2 (rdD l2486 (w64 (p0 - 1)) 0) z_Tile).E))), (13, ⟨g2503, 3, none⟩, (iv ((rdD f2 x2487 z_Tile).W)))], [0, 1, 2, 3, 4, 5, 6, 7, 8, 9, 10, 11, 12, 13, 14, 15], [[], [0], [0, 1], [0, 1, 2], [0, 1, 2], [0, 1, 2], [0, 1, 2, 5], [0, 1, 2, 4, 5, 6], [0, 1, 2, 4, 5, 6, 7], [0, 1, 2, 3, 4, 5, 6, 7, 8], [0, 1, 2, 3, 4, 5, 6, 7, 8, 9], [0, 1, 2, 3, 4, 5, 6, 7, 8, 9, 10], [0, 1, 2], [0, 1, 2, 12], [0, 1, 2, 3, 4, 5, 6, 7, 8, 9, 10, 11, 12, 13], [0, 1, 2, 3, 4, 5, 6, 7, 8, 9, 10, 11, 12, 13, 14]]) [[0, 1, 2, 3, 4, 5, 6, 7, 8, 9, 10, 11, 12, 13, 14, 15]] (by kernel_rfl) (by kernel_rfl) (NoPanic.seq (NoPanic.block (NoPanic.seq (NoPanic.seq (NoPanic.block (NoPanic.body)))))) ?_
     have hS2529 := hS2508.drew
     revert hS2529
     generalize World.drew w2507 = w2528
     intro hS2529
     refine ⟨⟨blk_cell (hS2529.rd 1).1 0 rfl, hS2529.cell 4 rfl 0 rfl, rowR.cell (rowO.rd (hS2529.own 5).1) 0 h2532.1 h2532.2 0 rfl, rowR.cell (hS2529.rd 2).1 z_Tile h2533.1 h2533.2 1 rfl, hS2529.cell 0 rfl 3 rfl, trivial⟩, forallC ?_ (forallN)⟩
     refine seg 3 [] [0, 2, 3, 4, 5, 7, 8, 18, 19, 20, 27] [(0, (iv p0)), (2, (.pointer (some ⟨g_f1, 0, none⟩))), (3, (.pointer (some ⟨g_f2, 0, none⟩))), (4, (.pointer (some ⟨g_f3, 0, none⟩))), (5, (.pointer (some ⟨g_f4, 0, none⟩))), (7, (iv x2487)), (8, (pt g2503)), (18, (.slice A_f2 f2.length c_f2)), (19, (iv (f2.length : Int))), (20, (iv x2487)), (27, (.bool (p0 == 0)))] [] (fun fb => by kernel_rfl) rfl trivial ?_
     refine WL.setB 27 h2523 rfl ?_
     refine segF 16 [.v (.slice A_f2 f2.length c_f2), .v (.slice A2484 l2486.length c2485), .v (iv (rdD l2486 (w64 (p0 - 1)) 0)), .v (iv ((rdD f2 (rdD l2486 (w64 (p0 - 1)) 0) z_Tile).E)), .v (iv ((rdD f2 x2487 z_Tile).W))] [0, 2, 3, 4, 5, 7, 18, 19, 20, 40] [(0, (iv p0)), (2, (.pointer (some ⟨g_f1, 0, none⟩))), (3, (.pointer (some ⟨g_f2, 0, none⟩))), (4, (.pointer (some ⟨g_f3, 0, none⟩))), (5, (.pointer (some ⟨g_f4, 0, none⟩))), (7, (iv x2487)), (18, (.slice A_f2 f2.length c_f2)), (19, (iv (f2.length : Int))), (20, (iv x2487)), (40, (.bool (((rdD f2 (rdD l2486 (w64 (p0 - 1)) 0) z_Tile).E) == ((rdD f2 x2487 z_Tile).W))))] [.idx A2484 (w64 (p0 - 1)) l2486.length, .idx A_f2 (rdD l2486 (w64 (p0 - 1)) 0) f2.length] [0, 1, 2, 3, 4] [(3, ⟨g_f2, 0, none⟩, (.slice A_f2 f2.length c_f2)), (4, ⟨g_f3, 0, none⟩, (.slice A2484 l2486.length c2485)), (8, ((adr A2484).add ((w64 (p0 - 1)).toNat * 1)), (iv (rdD l2486 (w64 (p0 - 1)) 0))), (11, (((adr A_f2).add (((rdD l2486 (w64 (p0 - 1)) 0)).toNat * 4)).add 1), (iv ((rdD f2 (rdD l2486 (w64 (p0 - 1)) 0) z_Tile).E))), (13, ⟨g2503, 3, none⟩, (iv ((rdD f2 x2487 z_Tile).W)))] (fun fb => by kernel_rfl) rfl ⟨rowR.adr (rowO.rd (hS2529.own 5).1) h2532.1 h2532.2, rowR.adr (hS2529.rd 2).1 h2533.1 h2533.2, trivial⟩ rfl ?_
     refine WL.done rfl ?_
     injection hx2522 with hx2522
     exact WX.to Kx2521 (((rdD f2 (rdD l2486 (w64 (p0 - 1)) 0) z_Tile).E) == ((rdD f2 x2487 z_Tile).W)) [0, 2, 3, 4, 5, 7, 18, 19, 20, 40] rfl ⟨(hS2529.subR [0, 1, 2, 3]).sub [1, 2, 3, 4, 5] (by decide), hx2522.symm⟩
    rintro y2537 w2534 ⟨hS2535, hq2536⟩
    subst hq2536
    refine WX.next ?_
    obtain ⟨x2560, hx2561, hl2500⟩ := bind_some hl2500
    refine WC.cutN (T := ((List Row) × (List Int)) × (Option Addr) × Nat × (Nat → HF) × (Option Addr) × Nat) (fun t => [(0, (iv p0)), (2, (.pointer (some ⟨g_f1, 0, none⟩))), (3, (.pointer (some ⟨g_f2, 0, none⟩))), (4, (.pointer (some ⟨g_f3, 0, none⟩))), (5, (.pointer (some ⟨g_f4, 0, none⟩))), (18, (.slice A_f2 f2.length c_f2)), (19, (iv (f2.length : Int))), (20, (iv x2487))]) (fun t w1 => St (fpL [blk g_f1 (.cells #[(.slice A_f1 f1.length c_f1)] 79 (0, 0)), rowO 85 encN_Row A_f1 c_f1 (tag H_f1 f1), poolO [nestO subN_Row H_f1 f1], blk g_f3 (.cells #[(.slice A_f3 f3.length c_f3)] 25 (0, 0)), rowO 3 encInt A_f3 c_f3 f3]) w w1 [blk g_f0 (.cells #[(iv f0)] 3 (0, 0)), blk g_f2 (.cells #[(.slice A_f2 f2.length c_f2)] 22 (0, 0)), rowR enc_Tile A_f2 c_f2 f2, blk g_f4 (.cells #[(.func (.func 97) #[] #[(.pointer (some ⟨g_f0, 0, none⟩)), (.pointer (some ⟨g_f1, 0, none⟩)), (.pointer (some ⟨g_f2, 0, none⟩)), (.pointer (some ⟨g_f3, 0, none⟩)), (.pointer (some ⟨g_f4, 0, none⟩))])] 129 (0, 0))] [blk g_f1 (.cells #[(.slice t.2.1 t.1.1.length t.2.2.1)] 79 (0, 0)), rowO 85 encN_Row t.2.1 t.2.2.1 (tag t.2.2.2.1 t.1.1), poolO [nestO subN_Row t.2.2.2.1 t.1.1], blk g_f3 (.cells #[(.slice t.2.2.2.2.1 t.1.2.length t.2.2.2.2.2)] 25 (0, 0)), rowO 3 encInt t.2.2.2.2.1 t.2.2.2.2.2 t.1.2] ∧ x2560 = t.1) (fun Kx2560 => ?_) ?_
    ·
     rcases br_some hx2561 with ⟨h2562, hx2561⟩ | ⟨h2562, hx2561⟩
     ·refine WC.condT2 (fun fb => by kernel_rfl) h2562 ?_
      refine WC.seq ?_
      refine WC.region ?_
      refine seg 3 [.v (.slice A2484 l2486.length c2485)] [0, 2, 3, 4, 5, 18, 19, 20, 41, 42, 43] [(0, (iv p0)), (2, (.pointer (some ⟨g_f1, 0, none⟩))), (3, (.pointer (some ⟨g_f2, 0, none⟩))), (4, (.pointer (some ⟨g_f3, 0, none⟩))), (5, (.pointer (some ⟨g_f4, 0, none⟩))), (18, (.slice A_f2 f2.length c_f2)), (19, (iv (f2.length : Int))), (20, (iv x2487)), (41, (.slice A2484 l2486.length c2485)), (42, (iv p0)), (43, (iv x2487))] [.cell ⟨g_f3, 0, none⟩ (.slice A2484 l2486.length c2485)] (fun fb => by kernel_rfl) rfl ⟨hS2535.cell 3 rfl 0 rfl, trivial⟩ ?_
      obtain ⟨h2563, hx2561⟩ := as_some hx2561
      refine seg 4 [] [0, 2, 3, 4, 5, 18, 19, 20, 43, 44] [(0, (iv p0)), (2, (.pointer (some ⟨g_f1, 0, none⟩))), (3, (.pointer (some ⟨g_f2, 0, none⟩))), (4, (.pointer (some ⟨g_f3, 0, none⟩))), (5, (.pointer (some ⟨g_f4, 0, none⟩))), (18, (.slice A_f2 f2.length c_f2)), (19, (iv (f2.length : Int))), (20, (iv x2487)), (43, (iv x2487)), (44, (.pointer (some ((adr A2484).add ((p0).toNat * 1)))))] [.idx A2484 p0 l2486.length] (fun fb => by kernel_rfl) rfl ⟨rowR.adr (rowO.rd (hS2535.own 4).1) h2563.1 h2563.2, trivial⟩ ?_
      refine WL.storeRow hS2535 4 rfl (p0) (x2487) (0) [(0, (iv x2487))] (fun fb => by kernel_rfl) h2563.1 h2563.2 (by kernel_rfl) rfl [0, 1, 2, 3] (by decide) (by decide) (fun w2564 hS2565 => ?_)
      refine ⟨trivial, ?_⟩
      have hS2566 : St (fpL [blk g_f1 (.cells #[(.slice A_f1 f1.length c_f1)] 79 (0, 0)), rowO 85 encN_Row A_f1 c_f1 (tag H_f1 f1), poolO [nestO subN_Row H_f1 f1], blk g_f3 (.cells #[(.slice A_f3 f3.length c_f3)] 25 (0, 0)), rowO 3 encInt A_f3 c_f3 f3]) w w2564 [blk g_f0 (.cells #[(iv f0)] 3 (0, 0)), blk g_f2 (.cells #[(.slice A_f2 f2.length c_f2)] 22 (0, 0)), rowR enc_Tile A_f2 c_f2 f2, blk g_f4 (.cells #[(.func (.func 97) #[] #[(.pointer (some ⟨g_f0, 0, none⟩)), (.pointer (some ⟨g_f1, 0, none⟩)), (.pointer (some ⟨g_f2, 0, none⟩)), (.pointer (some ⟨g_f3, 0, none⟩)), (.pointer (some ⟨g_f4, 0, none⟩))])] 129 (0, 0))] [rowO 3 encInt A2484 c2485 (l2486.set (p0).toNat x2487), blk g_f1 (.cells #[(.slice A2480 l2482.length c2481)] 79 (0, 0)), rowO 85 encN_Row A2480 c2481 (tag H2483 l2482), poolO [nestO subN_Row H2483 l2482], blk g_f3 (.cells #[(.slice A2484 (l2486.set (p0).toNat x2487).length c2485)] 25 (0, 0))] := by simpa only [List.length_set] using (show St (fpL [blk g_f1 (.cells #[(.slice A_f1 f1.length c_f1)] 79 (0, 0)), rowO 85 encN_Row A_f1 c_f1 (tag H_f1 f1), poolO [nestO subN_Row H_f1 f1], blk g_f3 (.cells #[(.slice A_f3 f3.length c_f3)] 25 (0, 0)), rowO 3 encInt A_f3 c_f3 f3]) w w2564 [blk g_f0 (.cells #[(iv f0)] 3 (0, 0)), blk g_f2 (.cells #[(.slice A_f2 f2.length c_f2)] 22 (0, 0)), rowR enc_Tile A_f2 c_f2 f2, blk g_f4 (.cells #[(.func (.func 97) #[] #[(.pointer (some ⟨g_f0, 0, none⟩)), (.pointer (some ⟨g_f1, 0, none⟩)), (.pointer (some ⟨g_f2, 0, none⟩)), (.pointer (some ⟨g_f3, 0, none⟩)), (.pointer (some ⟨g_f4, 0, none⟩))])] 129 (0, 0))] [rowO 3 encInt A2484 c2485 (l2486.set (p0).toNat x2487), blk g_f1 (.cells #[(.slice A2480 l2482.length c2481)] 79 (0, 0)), rowO 85 encN_Row A2480 c2481 (tag H2483 l2482), poolO [nestO subN_Row H2483 l2482], blk g_f3 (.cells #[(.slice A2484 l2486.length c2485)] 25 (0, 0))] from hS2565)
      refine WL.done rfl ?_
      refine WX.next ?_
      refine WC.region ?_
      refine seg 3 [.v (.func (.func 97) #[] #[(.pointer (some ⟨g_f0, 0, none⟩)), (.pointer (some ⟨g_f1, 0, none⟩)), (.pointer (some ⟨g_f2, 0, none⟩)), (.pointer (some ⟨g_f3, 0, none⟩)), (.pointer (some ⟨g_f4, 0, none⟩))])] [0, 2, 3, 4, 5, 18, 19, 20, 45, 47] [(0, (iv p0)), (2, (.pointer (some ⟨g_f1, 0, none⟩))), (3, (.pointer (some ⟨g_f2, 0, none⟩))), (4, (.pointer (some ⟨g_f3, 0, none⟩))), (5, (.pointer (some ⟨g_f4, 0, none⟩))), (18, (.slice A_f2 f2.length c_f2)), (19, (iv (f2.length : Int))), (20, (iv x2487)), (45, (.func (.func 97) #[] #[(.pointer (some ⟨g_f0, 0, none⟩)), (.pointer (some ⟨g_f1, 0, none⟩)), (.pointer (some ⟨g_f2, 0, none⟩)), (.pointer (some ⟨g_f3, 0, none⟩)), (.pointer (some ⟨g_f4, 0, none⟩))])), (47, (iv (w64 (p0 + 1))))] [.cell ⟨g_f4, 0, none⟩ (.func (.func 97) #[] #[(.pointer (some ⟨g_f0, 0, none⟩)), (.pointer (some ⟨g_f1, 0, none⟩)), (.pointer (some ⟨g_f2, 0, none⟩)), (.pointer (some ⟨g_f3, 0, none⟩)), (.pointer (some ⟨g_f4, 0, none⟩))])] (fun fb => by kernel_rfl) rfl ⟨blk_cell (hS2566.rd 3).1 0 rfl, trivial⟩ ?_
      obtain ⟨t2567, ht2568, hx2561⟩ := bind_some hx2561
      refine WL.call (some 48) 97 #[(iv (w64 (p0 + 1))), (.pointer (some ⟨g_f0, 0, none⟩)), (.pointer (some ⟨g_f1, 0, none⟩)), (.pointer (some ⟨g_f2, 0, none⟩)), (.pointer (some ⟨g_f3, 0, none⟩)), (.pointer (some ⟨g_f4, 0, none⟩))] (fun fb => by kernel_rfl) (ih_ (w64 (p0 + 1)) f0 l2482 f2 (l2486.set (p0).toNat x2487) g_f0 g_f1 A2480 c2481 H2483 g_f2 A_f2 c_f2 g_f3 A2484 c2485 g_f4 t2567 _ (hS2566.rdT [1, 2, 3, 4, 0] 0) (hS2566.rdT [1, 2, 3, 4, 0] 1) (hS2566.rdT [1, 2, 3, 4, 0] 2) (hS2566.rdT [1, 2, 3, 4, 0] 3) (hS2566.io [1, 2, 3, 4, 0] (by decide)) ht2568) (fun v w2569 hR2570 => ?_)
      obtain ⟨A2572, c2573, H2574, A2575, c2576, rfl, hk_⟩ := hR2570
      have hS2571 : St (fpL [blk g_f1 (.cells #[(.slice A_f1 f1.length c_f1)] 79 (0, 0)), rowO 85 encN_Row A_f1 c_f1 (tag H_f1 f1), poolO [nestO subN_Row H_f1 f1], blk g_f3 (.cells #[(.slice A_f3 f3.length c_f3)] 25 (0, 0)), rowO 3 encInt A_f3 c_f3 f3]) w w2569 [blk g_f0 (.cells #[(iv f0)] 3 (0, 0)), blk g_f2 (.cells #[(.slice A_f2 f2.length c_f2)] 22 (0, 0)), rowR enc_Tile A_f2 c_f2 f2, blk g_f4 (.cells #[(.func (.func 97) #[] #[(.pointer (some ⟨g_f0, 0, none⟩)), (.pointer (some ⟨g_f1, 0, none⟩)), (.pointer (some ⟨g_f2, 0, none⟩)), (.pointer (some ⟨g_f3, 0, none⟩)), (.pointer (some ⟨g_f4, 0, none⟩))])] 129 (0, 0))] [blk g_f1 (.cells #[(.slice A2572 t2567.1.length c2573)] 79 (0, 0)), rowO 85 encN_Row A2572 c2573 (tag H2574 t2567.1), poolO [nestO subN_Row H2574 t2567.1], blk g_f3 (.cells #[(.slice A2575 t2567.2.length c2576)] 25 (0, 0)), rowO 3 encInt A2575 c2576 t2567.2] := hS2566.call hk_ [1, 2, 3, 4, 0] [] (fun g hg => fpL_sel g hg) (by decide) (by decide)
      refine ⟨trivial, ?_⟩
      refine WL.done rfl ?_
      injection hx2561 with hx2561
      exact WX.to Kx2560 ((t2567.1, t2567.2), A2572, c2573, H2574, A2575, c2576) [0, 2, 3, 4, 5, 18, 19, 20] rfl ⟨(hS2571.subR [0, 1, 2, 3]).sub [0, 1, 2, 3, 4] (by decide), hx2561.symm⟩
     refine WC.condF2 (fun fb => by kernel_rfl) h2562 ?_
     refine WC.skip ?_
     injection hx2561 with hx2561
     exact WX.to Kx2560 ((l2482, l2486), A2480, c2481, H2483, A2484, c2485) [0, 2, 3, 4, 5, 18, 19, 20] rfl ⟨(hS2535.subR [0, 1, 2, 3]).sub [0, 1, 2, 3, 4] (by decide), hx2561.symm⟩
    rintro ⟨y2580, A2553, c2554, H2556, A2557, c2558⟩ w2577 ⟨hS2578, hq2579⟩
    subst hq2579
    refine WX.blockN (WX.next ?_)
    refine WC.region ?_
    refine seg 2 [] [0, 2, 3, 4, 5, 18, 19, 20] [(0, (iv p0)), (2, (.pointer (some ⟨g_f1, 0, none⟩))), (3, (.pointer (some ⟨g_f2, 0, none⟩))), (4, (.pointer (some ⟨g_f3, 0, none⟩))), (5, (.pointer (some ⟨g_f4, 0, none⟩))), (18, (.slice A_f2 f2.length c_f2)), (19, (iv (f2.length : Int))), (20, (iv (w64 (x2487 + 1))))] [] (fun fb => by kernel_rfl) rfl trivial ?_
    refine WL.done rfl ?_
    exact WX.again k2497 (Nat.lt_succ_self _) ((x2560.1, x2560.2, w64 (x2487 + 1)), A2553, c2554, H2556, A2557, c2558) [0, 2, 3, 4, 5, 18, 19, 20] rfl ⟨(hS2578.subR [0, 1, 2, 3]).sub [0, 1, 2, 3, 4] (by decide), hl2500⟩
   refine WC.condF2 (fun fb => by kernel_rfl) h2501 ?_
   refine WC.exit ?_
   injection hl2500 with hl2500
   exact WX.thenX (WX.thenX (WX.blockHere (WX.to Kx2495 ((l2482, l2486), A2480, c2481, H2483, A2484, c2485) [2, 4] rfl ⟨(hS2499.subR [0, 1, 2, 3]).sub [0, 1, 2, 3, 4] (by decide), hl2500.symm⟩)))
 rintro ⟨y2584, A2488, c2489, H2491, A2492, c2493⟩ w2581 ⟨hS2582, hq2583⟩
 subst hq2583
 injection hf with hf
 subst hf
 exact WX.end_ [] (.tuple #[]) [] (fun fb => by kernel_rfl) trivial ⟨_, rfl, A2488, c2489, H2491, A2492, c2493, rfl, (hS2582.sub [0, 1, 2, 3, 4] (by decide)).noR⟩
theorem rows_All_calls (k : Nat) (p0 : List Tile) (p1 : Int) (A_p0 : Option Addr) (c_p0 : Nat) (r : (List Row)) (w : World) (hR0 : RO NoS w (rowR enc_Tile A_p0 c_p0 p0)) (hf : rows_All k p0 p1 = some r) :
  CallsR Tryd.prog 83 #[(.slice A_p0 p0.length c_p0), (iv p1)] w (fun v w' => ∃ (A1_ : Option Addr), ∃ (c1_ : Nat), ∃ (h1_ : Nat → HF), v = (.slice A1_ r.length c1_) ∧ St NoS w w' [] [rowO 85 encN_Row A1_ c1_ (tag h1_ r), poolO [nestO subN_Row h1_ r]]) := by
 have hS : St NoS w w [rowR enc_Tile A_p0 c_p0 p0] [] := St.init (ro_cons hR0 (ro_nil _ _))
 refine enter 14 Tryd.func83 rfl Tryd.ntmps83 rfl ?_
 unfold rows_All at hf
 refine WC.seq ?_
 refine WC.region ?_
 refine WL.new hS 2 [] (fun g => (.pointer (some ⟨g, 0, none⟩))) (.cells #[(.slice A_p0 p0.length c_p0)] 22 (0, 0)) [] (fun fb g => by kernel_rfl) trivial (fun g1907 w1908 hS1909 => ?_)
 refine ⟨trivial, ?_⟩
 refine WL.new hS1909 3 [] (fun g => (.pointer (some ⟨g, 0, none⟩))) (.cells #[(iv p1)] 3 (0, 0)) [] (fun fb g => by kernel_rfl) trivial (fun g1911 w1912 hS1913 => ?_)
 refine ⟨trivial, ?_⟩
 refine seg 3 [] [2, 3] [(2, (pt g1907)), (3, (pt g1911))] [] (fun fb => by kernel_rfl) rfl trivial ?_
 refine WL.done rfl ?_
 refine WX.next ?_
 refine WC.seq ?_
 refine WC.region ?_
 refine WL.new hS1913 5 [] (fun g => (.pointer (some ⟨g, 0, none⟩))) (.cells #[(.slice none 0 0)] 79 (0, 0)) [] (fun fb g => by kernel_rfl) trivial (fun g1915 w1916 hS1917 => ?_)
 refine ⟨trivial, ?_⟩
 refine WL.done rfl ?_
 refine WX.next ?_
 refine WC.seq ?_
 refine WC.region ?_
 refine seg 1 [.v (iv p1)] [2, 3, 5, 8] [(2, (pt g1907)), (3, (pt g1911)), (5, (pt g1915)), (8, (iv p1))] [.cell ⟨g1911, 0, none⟩ (iv p1)] (fun fb => by kernel_rfl) rfl ⟨hS1917.cell 1 rfl 0 rfl, trivial⟩ ?_
 obtain ⟨h1919, hf⟩ := as_some hf
 refine WL.make hS1917 (e := encInt) (T := 3) (tS := 25) (z := (iv 0)) (bytes := 8) (d := 9) (0 : Int) p1 (fun fb => by kernel_rfl) (by kernel_rfl) (by kernel_rfl) rfl (by decide) h1919 (by decide) (fun g1920 w1921 hS1922 => ?_)
 refine ⟨trivial, ?_⟩
 refine WL.new hS1922 6 [] (fun g => (.pointer (some ⟨g, 0, none⟩))) (.cells #[(.slice none 0 0)] 25 (0, 0)) [] (fun fb g => by kernel_rfl) trivial (fun g1923 w1924 hS1925 => ?_)
 refine ⟨trivial, ?_⟩
 refine WL.store hS1925 0 rfl [(0, (.slice (some ⟨g1920, 0, none⟩) (List.replicate p1.toNat (0 : Int)).length p1.toNat))] #[(.slice (some ⟨g1920, 0, none⟩) (List.replicate p1.toNat (0 : Int)).length p1.toNat)] (fun fb => by kernel_rfl) (by kernel_rfl) rfl [1, 2, 3, 4] (by decide) (by decide) (fun w1927 hS1928 => ?_)
 refine ⟨trivial, ?_⟩
 refine WL.done rfl ?_
 refine WX.next ?_
 refine WC.seq ?_
 refine WC.region ?_
 refine WL.new hS1928 7 [] (fun g => (.pointer (some ⟨g, 0, none⟩))) (.cells #[.nilFunc] 129 (0, 0)) [] (fun fb g => by kernel_rfl) trivial (fun g1929 w1930 hS1931 => ?_)
 refine ⟨trivial, ?_⟩
 refine WL.done rfl ?_
 refine WX.next ?_
 refine WC.seq ?_
 refine WC.region ?_
 refine seg 1 [] [5, 7, 10] [(5, (pt g1915)), (7, (pt g1929)), (10, (.func (.func 97) #[] #[(pt g1911), (pt g1915), (pt g1907), (pt g1923), (pt g1929)]))] [] (fun fb => by kernel_rfl) rfl trivial ?_
 refine WL.store hS1931 0 rfl [(0, (.func (.func 97) #[] #[(pt g1911), (pt g1915), (pt g1907), (pt g1923), (pt g1929)]))] #[(.func (.func 97) #[] #[(pt g1911), (pt g1915), (pt g1907), (pt g1923), (pt g1929)])] (fun fb => by kernel_rfl) (by kernel_rfl) rfl [1, 2, 3, 4, 5] (by decide) (by decide) (fun w1933 hS1934 => ?_)
 refine ⟨trivial, ?_⟩
 refine WL.done rfl ?_
 refine WX.next ?_
 refine WC.seq ?_
 refine WC.region ?_
 refine seg 1 [.v (.func (.func 97) #[] #[(pt g1911), (pt g1915), (pt g1907), (pt g1923), (pt g1929)])] [5, 11] [(5, (pt g1915)), (11, (.func (.func 97) #[] #[(pt g1911), (pt g1915), (pt g1907), (pt g1923), (pt g1929)]))] [.cell ⟨g1929, 0, none⟩ (.func (.func 97) #[] #[(pt g1911), (pt g1915), (pt g1907), (pt g1923), (pt g1929)])] (fun fb => by kernel_rfl) rfl ⟨hS1934.cell 0 rfl 0 rfl, trivial⟩ ?_
 have hS2585 : St NoS w w1933 [rowR enc_Tile A_p0 c_p0 p0] [rowO 85 encN_Row none 0 (tag h0 ([] : List Row)), blk g1929 (.cells #[(.func (.func 97) #[] #[(pt g1911), (pt g1915), (pt g1907), (pt g1923), (pt g1929)])] 129 (0, 0)), blk g1923 (.cells #[(.slice (some ⟨g1920, 0, none⟩) (List.replicate p1.toNat (0 : Int)).length p1.toNat)] 25 (0, 0)), rowO 3 encInt (some ⟨g1920, 0, none⟩) p1.toNat (List.replicate p1.toNat (0 : Int)), blk g1915 (.cells #[(.slice none 0 0)] 79 (0, 0)), blk g1911 (.cells #[(iv p1)] 3 (0, 0)), blk g1907 (.cells #[(.slice A_p0 p0.length c_p0)] 22 (0, 0))] := hS1934.nilrow 85 encN_Row
 have hS2586 := hS2585.poolNil subN_Row h0
 obtain ⟨t2587, ht2588, hf⟩ := bind_some hf
 refine WL.call (some 12) 97 #[(iv 0), (pt g1911), (pt g1915), (pt g1907), (pt g1923), (pt g1929)] (fun fb => by kernel_rfl) (rows_All_1_calls _ 0 p1 ([] : List Row) p0 (List.replicate p1.toNat (0 : Int)) g1911 g1915 none 0 h0 g1907 A_p0 c_p0 g1923 (some ⟨g1920, 0, none⟩) p1.toNat g1929 t2587 _ (hS2586.owT [5, 1, 0, 3, 4] 6 (by decide)) (hS2586.owT [5, 1, 0, 3, 4] 7 (by decide)) (hS2586.rdT [5, 1, 0, 3, 4] 0) (hS2586.owT [5, 1, 0, 3, 4] 2 (by decide)) (hS2586.io [5, 1, 0, 3, 4] (by decide)) ht2588) (fun v w2589 hR2590 => ?_)
 obtain ⟨A2592, c2593, H2594, A2595, c2596, rfl, hk_⟩ := hR2590
 have hS2591 : St NoS w w2589 [rowR enc_Tile A_p0 c_p0 p0] [blk g1915 (.cells #[(.slice A2592 t2587.1.length c2593)] 79 (0, 0)), rowO 85 encN_Row A2592 c2593 (tag H2594 t2587.1), poolO [nestO subN_Row H2594 t2587.1], blk g1923 (.cells #[(.slice A2595 t2587.2.length c2596)] 25 (0, 0)), rowO 3 encInt A2595 c2596 t2587.2, blk g1929 (.cells #[(.func (.func 97) #[] #[(pt g1911), (pt g1915), (pt g1907), (pt g1923), (pt g1929)])] 129 (0, 0)), blk g1911 (.cells #[(iv p1)] 3 (0, 0)), blk g1907 (.cells #[(.slice A_p0 p0.length c_p0)] 22 (0, 0))] := hS2586.call hk_ [5, 1, 0, 3, 4] [2, 6, 7] (fun g hg => fpL_sel g hg) (by decide) (by decide)
 refine ⟨trivial, ?_⟩
 refine WL.done rfl ?_
 refine WX.next ?_
 refine WC.seq ?_
 refine WC.region ?_
 refine seg 2 [.v (.slice A2592 t2587.1.length c2593)] [4] [(4, (.slice A2592 t2587.1.length c2593))] [.cell ⟨g1915, 0, none⟩ (.slice A2592 t2587.1.length c2593)] (fun fb => by kernel_rfl) rfl ⟨hS2591.cell 0 rfl 0 rfl, trivial⟩ ?_
 refine WL.done rfl ?_
 refine WX.next ?_
 refine WC.ret ?_
 injection hf with hf
 subst hf
 exact WX.ret_ [] (.slice A2592 t2587.1.length c2593) [] (fun fb => by kernel_rfl) trivial ⟨_, rfl, A2592, c2593, H2594, rfl, (hS2591.sub [1, 2] (by decide)).noR⟩
theorem torus_rings_calls (k : Nat) (p0 : List Tile) (p1 : Int) (A_p0 : Option Addr) (c_p0 : Nat) (r : (List Row)) (w : World) (hR0 : RO NoS w (rowR enc_Tile A_p0 c_p0 p0)) (hf : torus_rings k p0 p1 = some r) :
  CallsR Tryd.prog 81 #[(.slice A_p0 p0.length c_p0), (iv p1)] w (fun v w' => ∃ (A1_ : Option Addr), ∃ (c1_ : Nat), ∃ (h1_ : Nat → HF), v = (.slice A1_ r.length c1_) ∧ St NoS w w' [] [rowO 85 encN_Row A1_ c1_ (tag h1_ r), poolO [nestO subN_Row h1_ r]]) := by
 have hS : St NoS w w [rowR enc_Tile A_p0 c_p0 p0] [] := St.init (ro_cons hR0 (ro_nil _ _))
 refine enter 27 Tryd.func81 rfl Tryd.ntmps81 rfl ?_
 unfold torus_rings at hf
 refine WC.seq ?_
 refine WC.region ?_
 refine seg 1 [] [0, 1] [(0, (.slice A_p0 p0.length c_p0)), (1, (iv p1))] [] (fun fb => by kernel_rfl) rfl trivial ?_
 refine WL.done rfl ?_
 refine WX.next ?_
 refine WC.seq ?_
 refine WC.region ?_
 refine seg 1 [] [0, 1, 5] [(0, (.slice A_p0 p0.length c_p0)), (1, (iv p1)), (5, (.slice none 0 0))] [] (fun fb => by kernel_rfl) rfl trivial ?_
 refine WL.done rfl ?_
 refine WX.next ?_
 refine WC.seq ?_
 refine WC.seq ?_
 refine WC.region ?_
 refine seg 2 [] [5, 8, 9] [(5, (.slice none 0 0)), (8, (.slice A_p0 p0.length c_p0)), (9, (iv p1))] [] (fun fb => by kernel_rfl) rfl trivial ?_
 obtain ⟨t2597, ht2598, hf⟩ := bind_some hf
 refine WL.call (some 10) 83 #[(.slice A_p0 p0.length c_p0), (iv p1)] (fun fb => by kernel_rfl) (rows_All_calls _ p0 p1 A_p0 c_p0 t2597 _ (hS.rd 0) ht2598) (fun v w2599 hR2600 => ?_)
 obtain ⟨A2602, c2603, H2604, rfl, hk_⟩ := hR2600
 have hS2601 : St NoS w w2599 [rowR enc_Tile A_p0 c_p0 p0] [rowO 85 encN_Row A2602 c2603 (tag H2604 t2597), poolO [nestO subN_Row H2604 t2597]] := hS.call hk_ [] [] (fun g hg => hg.elim) (by simp) (by decide)
 refine ⟨trivial, ?_⟩
 refine seg 5 [] [5, 10, 11, 12] [(5, (.slice none 0 0)), (10, (.slice A2602 t2597.length c2603)), (11, (iv (t2597.length : Int))), (12, (iv 0))] [] (fun fb => by kernel_rfl) rfl trivial ?_
 refine WL.done rfl ?_
 refine WX.next ?_
 have hS2706 : St NoS w w2599 [rowR enc_Tile A_p0 c_p0 p0] [rowO 85 encN_Row none 0 (tag h0 ([] : List Row)), rowO 85 encN_Row A2602 c2603 (tag H2604 t2597), poolO [nestO subN_Row H2604 t2597]] := hS2601.nilrow 85 encN_Row
 have hS2707 := hS2706.poolNil subN_Row h0
 have hS2708 : St NoS w w2599 [rowR enc_Tile A_p0 c_p0 p0] [poolO [nestO subN_Row h0 ([] : List Row), nestO subN_Row H2604 t2597], rowO 85 encN_Row none 0 (tag h0 ([] : List Row)), rowO 85 encN_Row A2602 c2603 (tag H2604 t2597)] := hS2707.poolMerge 0 3 rfl rfl [1, 2] (by decide) (by decide)
 obtain ⟨x2718, hx2719, hf⟩ := bind_some hf
 refine WC.cutN (T := (List Row) × (Option Addr) × Nat × (Nat → HF)) (fun t => [(5, (.slice t.2.1 t.1.length t.2.2.1))]) (fun t w1 => St NoS w w1 [rowR enc_Tile A_p0 c_p0 p0] [rowO 85 encN_Row t.2.1 t.2.2.1 (tag t.2.2.2 t.1), poolO [nestO subN_Row t.2.2.2 t.1]] ∧ x2718 = t.1) (fun Kx2718 => ?_) ?_
 ·
  refine WC.block ?_
  refine WC.loop (T := ((List Row) × Int) × (Option Addr) × Nat × (Nat → HF)) (fun t => [(5, (.slice t.2.1 t.1.1.length t.2.2.1)), (10, (.slice A2602 t2597.length c2603)), (11, (iv (t2597.length : Int))), (12, (iv t.1.2))]) (fun n t w1 => St NoS w w1 [rowR enc_Tile A_p0 c_p0 p0] [rowO 85 encN_Row t.2.1 t.2.2.1 (tag t.2.2.2 t.1.1), poolO [nestO subN_Row t.2.2.2 t.1.1, nestO subN_Row H2604 t2597], rowO 85 encN_Row A2602 c2603 (tag H2604 t2597)] ∧ torus_rings.l0 n t.1.1 t.1.2 t2597 = some x2718) k ((([] : List Row), 0), none, 0, h0) [5, 10, 11, 12] rfl ⟨(hS2708.subR [0]).sub [1, 0, 2] (by decide), hx2719⟩ ?_
  rintro k2720 ⟨⟨l2711, x2713⟩, A2709, c2710, H2712⟩ w2721 ⟨hS2722, hl2723⟩
  cases k2720 with
  | zero => rw [torus_rings.l0] at hl2723; cases hl2723
  | succ k2720 =>
   rw [torus_rings.l0] at hl2723
   refine WC.seq ?_
   refine WC.region ?_
   refine seg 1 [] [5, 10, 11, 12, 13] [(5, (.slice A2709 l2711.length c2710)), (10, (.slice A2602 t2597.length c2603)), (11, (iv (t2597.length : Int))), (12, (iv x2713)), (13, (.bool (decide (x2713 < (t2597.length : Int)))))] [] (fun fb => by kernel_rfl) rfl trivial ?_
   refine WL.done rfl ?_
   refine WX.next ?_
   refine WC.seq ?_
   rcases br_some hl2723 with ⟨h2724, hl2723⟩ | ⟨h2724, hl2723⟩
   ·refine WC.condT2 (fun fb => by kernel_rfl) h2724 ?_
    refine WC.skip ?_
    refine WX.next ?_
    refine WC.seq ?_
    refine WC.block ?_
    refine WC.seq ?_
    refine WC.region ?_
    obtain ⟨h2725, hl2723⟩ := as_some hl2723
    refine seg 2 [.v (.slice ((H2604 x2713.toNat 0).1) ((rdD t2597 x2713 z_Row).Cells).length ((H2604 x2713.toNat 0).2)), .v (iv (((rdD t2597 x2713 z_Row).South).e0)), .v (iv (((rdD t2597 x2713 z_Row).South).e1)), .v (iv (((rdD t2597 x2713 z_Row).South).e2)), .v (iv (((rdD t2597 x2713 z_Row).South).e3)), .v (iv (((rdD t2597 x2713 z_Row).South).e4)), .v (iv (((rdD t2597 x2713 z_Row).South).e5)), .v (iv (((rdD t2597 x2713 z_Row).South).e6)), .v (iv (((rdD t2597 x2713 z_Row).South).e7)), .v (iv (((rdD t2597 x2713 z_Row).North).e0)), .v (iv (((rdD t2597 x2713 z_Row).North).e1)), .v (iv (((rdD t2597 x2713 z_Row).North).e2)), .v (iv (((rdD t2597 x2713 z_Row).North).e3)), .v (iv (((rdD t2597 x2713 z_Row).North).e4)), .v (iv (((rdD t2597 x2713 z_Row).North).e5)), .v (iv (((rdD t2597 x2713 z_Row).North).e6)), .v (iv (((rdD t2597 x2713 z_Row).North).e7)), .v (iv ((rdD t2597 x2713 z_Row).West)), .v (iv ((rdD t2597 x2713 z_Row).East))] [5, 10, 11, 12, 15] [(5, (.slice A2709 l2711.length c2710)), (10, (.slice A2602 t2597.length c2603)), (11, (iv (t2597.length : Int))), (12, (iv x2713)), (15, (.agg #[(.slice ((H2604 x2713.toNat 0).1) ((rdD t2597 x2713 z_Row).Cells).length ((H2604 x2713.toNat 0).2)), (iv (((rdD t2597 x2713 z_Row).South).e0)), (iv (((rdD t2597 x2713 z_Row).South).e1)), (iv (((rdD t2597 x2713 z_Row).South).e2)), (iv (((rdD t2597 x2713 z_Row).South).e3)), (iv (((rdD t2597 x2713 z_Row).South).e4)), (iv (((rdD t2597 x2713 z_Row).South).e5)), (iv (((rdD t2597 x2713 z_Row).South).e6)), (iv (((rdD t2597 x2713 z_Row).South).e7)), (iv (((rdD t2597 x2713 z_Row).North).e0)), (iv (((rdD t2597 x2713 z_Row).North).e1)), (iv (((rdD t2597 x2713 z_Row).North).e2)), (iv (((rdD t2597 x2713 z_Row).North).e3)), (iv (((rdD t2597 x2713 z_Row).North).e4)), (iv (((rdD t2597 x2713 z_Row).North).e5)), (iv (((rdD t2597 x2713 z_Row).North).e6)), (iv (((rdD t2597 x2713 z_Row).North).e7)), (iv ((rdD t2597 x2713 z_Row).West)), (iv ((rdD t2597 x2713 z_Row).East))]))] [.idx A2602 x2713 t2597.length, .cell ((adr A2602).add ((x2713).toNat * 19)) (.slice ((H2604 x2713.toNat 0).1) ((rdD t2597 x2713 z_Row).Cells).length ((H2604 x2713.toNat 0).2)), .cell (((adr A2602).add ((x2713).toNat * 19)).add 1) (iv (((rdD t2597 x2713 z_Row).South).e0)), .cell (((adr A2602).add ((x2713).toNat * 19)).add 2) (iv (((rdD t2597 x2713 z_Row).South).e1)), .cell (((adr A2602).add ((x2713).toNat * 19)).add 3) (iv (((rdD t2597 x2713 z_Row).South).e2)), .cell (((adr A2602).add ((x2713).toNat * 19)).add 4) (iv (((rdD t2597 x2713 z_Row).South).e3)), .cell (((adr A2602).add ((x2713).toNat * 19)).add 5) (iv (((rdD t2597 x2713 z_Row).South).e4)), .cell (((adr A2602).add ((x2713).toNat * 19)).add 6) (iv (((rdD t2597 x2713 z_Row).South).e5)), .cell (((adr A2602).add ((x2713).toNat * 19)).add 7) (iv (((rdD t2597 x2713 z_Row).South).e6)), .cell (((adr A2602).add ((x2713).toNat * 19)).add 8) (iv (((rdD t2597 x2713 z_Row).South).e7)), .cell (((adr A2602).add ((x2713).toNat * 19)).add 9) (iv (((rdD t2597 x2713 z_Row).North).e0)), .cell (((adr A2602).add ((x2713).toNat * 19)).add 10) (iv (((rdD t2597 x2713 z_Row).North).e1)), .cell (((adr A2602).add ((x2713).toNat * 19)).add 11) (iv (((rdD t2597 x2713 z_Row).North).e2)), .cell (((adr A2602).add ((x2713).toNat * 19)).add 12) (iv (((rdD t2597 x2713 z_Row).North).e3)), .cell (((adr A2602).add ((x2713).toNat * 19)).add 13) (iv (((rdD t2597 x2713 z_Row).North).e4)), .cell (((adr A2602).add ((x2713).toNat * 19)).add 14) (iv (((rdD t2597 x2713 z_Row).North).e5)), .cell (((adr A2602).add ((x2713).toNat * 19)).add 15) (iv (((rdD t2597 x2713 z_Row).North).e6)), .cell (((adr A2602).add ((x2713).toNat * 19)).add 16) (iv (((rdD t2597 x2713 z_Row).North).e7)), .cell (((adr A2602).add ((x2713).toNat * 19)).add 17) (iv ((rdD t2597 x2713 z_Row).West)), .cell (((adr A2602).add ((x2713).toNat * 19)).add 18) (iv ((rdD t2597 x2713 z_Row).East))] (fun fb => by kernel_rfl) rfl ⟨nrow_adr (rowO.rd (hS2722.own 2).1) h2725.1 h2725.2, nrow_cell (rowO.rd (hS2722.own 2).1) z_Row h2725.1 h2725.2 0 rfl, nrow_cell (rowO.rd (hS2722.own 2).1) z_Row h2725.1 h2725.2 1 rfl, nrow_cell (rowO.rd (hS2722.own 2).1) z_Row h2725.1 h2725.2 2 rfl, nrow_cell (rowO.rd (hS2722.own 2).1) z_Row h2725.1 h2725.2 3 rfl, nrow_cell (rowO.rd (hS2722.own 2).1) z_Row h2725.1 h2725.2 4 rfl, nrow_cell (rowO.rd (hS2722.own 2).1) z_Row h2725.1 h2725.2 5 rfl, nrow_cell (rowO.rd (hS2722.own 2).1) z_Row h2725.1 h2725.2 6 rfl, nrow_cell (rowO.rd (hS2722.own 2).1) z_Row h2725.1 h2725.2 7 rfl, nrow_cell (rowO.rd (hS2722.own 2).1) z_Row h2725.1 h2725.2 8 rfl, nrow_cell (rowO.rd (hS2722.own 2).1) z_Row h2725.1 h2725.2 9 rfl, nrow_cell (rowO.rd (hS2722.own 2).1) z_Row h2725.1 h2725.2 10 rfl, nrow_cell (rowO.rd (hS2722.own 2).1) z_Row h2725.1 h2725.2 11 rfl, nrow_cell (rowO.rd (hS2722.own 2).1) z_Row h2725.1 h2725.2 12 rfl, nrow_cell (rowO.rd (hS2722.own 2).1) z_Row h2725.1 h2725.2 13 rfl, nrow_cell (rowO.rd (hS2722.own 2).1) z_Row h2725.1 h2725.2 14 rfl, nrow_cell (rowO.rd (hS2722.own 2).1) z_Row h2725.1 h2725.2 15 rfl, nrow_cell (rowO.rd (hS2722.own 2).1) z_Row h2725.1 h2725.2 16 rfl, nrow_cell (rowO.rd (hS2722.own 2).1) z_Row h2725.1 h2725.2 17 rfl, nrow_cell (rowO.rd (hS2722.own 2).1) z_Row h2725.1 h2725.2 18 rfl, trivial⟩ ?_
    refine WL.new hS2722 7 [] (fun g => (.pointer (some ⟨g, 0, none⟩))) (.cells #[(.slice none 0 0), (iv 0), (iv 0), (iv 0), (iv 0), (iv 0), (iv 0), (iv 0), (iv 0), (iv 0), (iv 0), (iv 0), (iv 0), (iv 0), (iv 0), (iv 0), (iv 0), (iv 0), (iv 0)] 85 (0, 0)) [] (fun fb g => by kernel_rfl) trivial (fun g2726 w2727 hS2728 => ?_)
    refine ⟨trivial, ?_⟩
    refine WL.store hS2728 0 rfl [(0, (.slice ((H2604 x2713.toNat 0).1) ((rdD t2597 x2713 z_Row).Cells).length ((H2604 x2713.toNat 0).2))), (1, (iv (((rdD t2597 x2713 z_Row).South).e0))), (2, (iv (((rdD t2597 x2713 z_Row).South).e1))), (3, (iv (((rdD t2597 x2713 z_Row).South).e2))), (4, (iv (((rdD t2597 x2713 z_Row).South).e3))), (5, (iv (((rdD t2597 x2713 z_Row).South).e4))), (6, (iv (((rdD t2597 x2713 z_Row).South).e5))), (7, (iv (((rdD t2597 x2713 z_Row).South).e6))), (8, (iv (((rdD t2597 x2713 z_Row).South).e7))), (9, (iv (((rdD t2597 x2713 z_Row).North).e0))), (10, (iv (((rdD t2597 x2713 z_Row).North).e1))), (11, (iv (((rdD t2597 x2713 z_Row).North).e2))), (12, (iv (((rdD t2597 x2713 z_Row).North).e3))), (13, (iv (((rdD t2597 x2713 z_Row).North).e4))), (14, (iv (((rdD t2597 x2713 z_Row).North).e5))), (15, (iv (((rdD t2597 x2713 z_Row).North).e6))), (16, (iv (((rdD t2597 x2713 z_Row).North).e7))), (17, (iv ((rdD t2597 x2713 z_Row).West))), (18, (iv ((rdD t2597 x2713 z_Row).East)))] #[(.slice ((H2604 x2713.toNat 0).1) ((rdD t2597 x2713 z_Row).Cells).length ((H2604 x2713.toNat 0).2)), (iv (((rdD t2597 x2713 z_Row).South).e0)), (iv (((rdD t2597 x2713 z_Row).South).e1)), (iv (((rdD t2597 x2713 z_Row).South).e2)), (iv (((rdD t2597 x2713 z_Row).South).e3)), (iv (((rdD t2597 x2713 z_Row).South).e4)), (iv (((rdD t2597 x2713 z_Row).South).e5)), (iv (((rdD t2597 x2713 z_Row).South).e6)), (iv (((rdD t2597 x2713 z_Row).South).e7)), (iv (((rdD t2597 x2713 z_Row).North).e0)), (iv (((rdD t2597 x2713 z_Row).North).e1)), (iv (((rdD t2597 x2713 z_Row).North).e2)), (iv (((rdD t2597 x2713 z_Row).North).e3)), (iv (((rdD t2597 x2713 z_Row).North).e4)), (iv (((rdD t2597 x2713 z_Row).North).e5)), (iv (((rdD t2597 x2713 z_Row).North).e6)), (iv (((rdD t2597 x2713 z_Row).North).e7)), (iv ((rdD t2597 x2713 z_Row).West)), (iv ((rdD t2597 x2713 z_Row).East))] (fun fb => by kernel_rfl) (by kernel_rfl) (by kernel_rfl) [1, 2, 3] (by decide) (by decide) (fun w2730 hS2731 => ?_)
    refine ⟨trivial, ?_⟩
    refine WL.done rfl ?_
    refine WX.next ?_
    refine WC.seq ?_
    refine WC.region ?_
    refine seg 5 [.v (iv ((rdD t2597 x2713 z_Row).West)), .v (iv ((rdD t2597 x2713 z_Row).East))] [5, 7, 10, 11, 12, 20] [(5, (.slice A2709 l2711.length c2710)), (7, (pt g2726)), (10, (.slice A2602 t2597.length c2603)), (11, (iv (t2597.length : Int))), (12, (iv x2713)), (20, (.bool (((rdD t2597 x2713 z_Row).West) == ((rdD t2597 x2713 z_Row).East))))] [.cell ⟨g2726, 17, none⟩ (iv ((rdD t2597 x2713 z_Row).West)), .cell ⟨g2726, 18, none⟩ (iv ((rdD t2597 x2713 z_Row).East))] (fun fb => by kernel_rfl) rfl ⟨hS2731.cell 0 rfl 17 rfl, hS2731.cell 0 rfl 18 rfl, trivial⟩ ?_
    refine WL.done rfl ?_
    refine WX.next ?_
    obtain ⟨x2748, hx2749, hl2723⟩ := bind_some hl2723
    refine WC.cutN (T := (List Row) × (Option Addr) × Nat × (Nat → HF)) (fun t => [(5, (.slice t.2.1 t.1.length t.2.2.1)), (10, (.slice A2602 t2597.length c2603)), (11, (iv (t2597.length : Int))), (12, (iv x2713))]) (fun t w1 => St NoS w w1 [rowR enc_Tile A_p0 c_p0 p0] [rowO 85 encN_Row t.2.1 t.2.2.1 (tag t.2.2.2 t.1), poolO [nestO subN_Row t.2.2.2 t.1, nestO subN_Row H2604 t2597], rowO 85 encN_Row A2602 c2603 (tag H2604 t2597)] ∧ x2748 = t.1) (fun Kx2748 => ?_) ?_
    ·
     rcases br_some hx2749 with ⟨h2750, hx2749⟩ | ⟨h2750, hx2749⟩
     ·refine WC.condT2 (fun fb => by kernel_rfl) h2750 ?_
      refine WC.region ?_
      refine seg 2 [.v (.slice ((H2604 x2713.toNat 0).1) ((rdD t2597 x2713 z_Row).Cells).length ((H2604 x2713.toNat 0).2)), .v (iv (((rdD t2597 x2713 z_Row).South).e0)), .v (iv (((rdD t2597 x2713 z_Row).South).e1)), .v (iv (((rdD t2597 x2713 z_Row).South).e2)), .v (iv (((rdD t2597 x2713 z_Row).South).e3)), .v (iv (((rdD t2597 x2713 z_Row).South).e4)), .v (iv (((rdD t2597 x2713 z_Row).South).e5)), .v (iv (((rdD t2597 x2713 z_Row).South).e6)), .v (iv (((rdD t2597 x2713 z_Row).South).e7)), .v (iv (((rdD t2597 x2713 z_Row).North).e0)), .v (iv (((rdD t2597 x2713 z_Row).North).e1)), .v (iv (((rdD t2597 x2713 z_Row).North).e2)), .v (iv (((rdD t2597 x2713 z_Row).North).e3)), .v (iv (((rdD t2597 x2713 z_Row).North).e4)), .v (iv (((rdD t2597 x2713 z_Row).North).e5)), .v (iv (((rdD t2597 x2713 z_Row).North).e6)), .v (iv (((rdD t2597 x2713 z_Row).North).e7)), .v (iv ((rdD t2597 x2713 z_Row).West)), .v (iv ((rdD t2597 x2713 z_Row).East))] [10, 11, 12, 21, 22] [(10, (.slice A2602 t2597.length c2603)), (11, (iv (t2597.length : Int))), (12, (iv x2713)), (21, (.slice A2709 l2711.length c2710)), (22, (.agg #[(.slice ((H2604 x2713.toNat 0).1) ((rdD t2597 x2713 z_Row).Cells).length ((H2604 x2713.toNat 0).2)), (iv (((rdD t2597 x2713 z_Row).South).e0)), (iv (((rdD t2597 x2713 z_Row).South).e1)), (iv (((rdD t2597 x2713 z_Row).South).e2)), (iv (((rdD t2597 x2713 z_Row).South).e3)), (iv (((rdD t2597 x2713 z_Row).South).e4)), (iv (((rdD t2597 x2713 z_Row).South).e5)), (iv (((rdD t2597 x2713 z_Row).South).e6)), (iv (((rdD t2597 x2713 z_Row).South).e7)), (iv (((rdD t2597 x2713 z_Row).North).e0)), (iv (((rdD t2597 x2713 z_Row).North).e1)), (iv (((rdD t2597 x2713 z_Row).North).e2)), (iv (((rdD t2597 x2713 z_Row).North).e3)), (iv (((rdD t2597 x2713 z_Row).North).e4)), (iv (((rdD t2597 x2713 z_Row).North).e5)), (iv (((rdD t2597 x2713 z_Row).North).e6)), (iv (((rdD t2597 x2713 z_Row).North).e7)), (iv ((rdD t2597 x2713 z_Row).West)), (iv ((rdD t2597 x2713 z_Row).East))]))] [.cell ⟨g2726, 0, none⟩ (.slice ((H2604 x2713.toNat 0).1) ((rdD t2597 x2713 z_Row).Cells).length ((H2604 x2713.toNat 0).2)), .cell ⟨g2726, 1, none⟩ (iv (((rdD t2597 x2713 z_Row).South).e0)), .cell ⟨g2726, 2, none⟩ (iv (((rdD t2597 x2713 z_Row).South).e1)), .cell ⟨g2726, 3, none⟩ (iv (((rdD t2597 x2713 z_Row).South).e2)), .cell ⟨g2726, 4, none⟩ (iv (((rdD t2597 x2713 z_Row).South).e3)), .cell ⟨g2726, 5, none⟩ (iv (((rdD t2597 x2713 z_Row).South).e4)), .cell ⟨g2726, 6, none⟩ (iv (((rdD t2597 x2713 z_Row).South).e5)), .cell ⟨g2726, 7, none⟩ (iv (((rdD t2597 x2713 z_Row).South).e6)), .cell ⟨g2726, 8, none⟩ (iv (((rdD t2597 x2713 z_Row).South).e7)), .cell ⟨g2726, 9, none⟩ (iv (((rdD t2597 x2713 z_Row).North).e0)), .cell ⟨g2726, 10, none⟩ (iv (((rdD t2597 x2713 z_Row).North).e1)), .cell ⟨g2726, 11, none⟩ (iv (((rdD t2597 x2713 z_Row).North).e2)), .cell ⟨g2726, 12, none⟩ (iv (((rdD t2597 x2713 z_Row).North).e3)), .cell ⟨g2726, 13, none⟩ (iv (((rdD t2597 x2713 z_Row).North).e4)), .cell ⟨g2726, 14, none⟩ (iv (((rdD t2597 x2713 z_Row).North).e5)), .cell ⟨g2726, 15, none⟩ (iv (((rdD t2597 x2713 z_Row).North).e6)), .cell ⟨g2726, 16, none⟩ (iv (((rdD t2597 x2713 z_Row).North).e7)), .cell ⟨g2726, 17, none⟩ (iv ((rdD t2597 x2713 z_Row).West)), .cell ⟨g2726, 18, none⟩ (iv ((rdD t2597 x2713 z_Row).East))] (fun fb => by kernel_rfl) rfl ⟨hS2731.cell 0 rfl 0 rfl, hS2731.cell 0 rfl 1 rfl, hS2731.cell 0 rfl 2 rfl, hS2731.cell 0 rfl 3 rfl, hS2731.cell 0 rfl 4 rfl, hS2731.cell 0 rfl 5 rfl, hS2731.cell 0 rfl 6 rfl, hS2731.cell 0 rfl 7 rfl, hS2731.cell 0 rfl 8 rfl, hS2731.cell 0 rfl 9 rfl, hS2731.cell 0 rfl 10 rfl, hS2731.cell 0 rfl 11 rfl, hS2731.cell 0 rfl 12 rfl, hS2731.cell 0 rfl 13 rfl, hS2731.cell 0 rfl 14 rfl, hS2731.cell 0 rfl 15 rfl, hS2731.cell 0 rfl 16 rfl, hS2731.cell 0 rfl 17 rfl, hS2731.cell 0 rfl 18 rfl, trivial⟩ ?_
      refine WL.new hS2731 23 [] (fun g => (.slice (some ⟨g, 0, none⟩) 1 1)) (.cells #[(.slice ((H2604 x2713.toNat 0).1) ((rdD t2597 x2713 z_Row).Cells).length ((H2604 x2713.toNat 0).2)), (iv (((rdD t2597 x2713 z_Row).South).e0)), (iv (((rdD t2597 x2713 z_Row).South).e1)), (iv (((rdD t2597 x2713 z_Row).South).e2)), (iv (((rdD t2597 x2713 z_Row).South).e3)), (iv (((rdD t2597 x2713 z_Row).South).e4)), (iv (((rdD t2597 x2713 z_Row).South).e5)), (iv (((rdD t2597 x2713 z_Row).South).e6)), (iv (((rdD t2597 x2713 z_Row).South).e7)), (iv (((rdD t2597 x2713 z_Row).North).e0)), (iv (((rdD t2597 x2713 z_Row).North).e1)), (iv (((rdD t2597 x2713 z_Row).North).e2)), (iv (((rdD t2597 x2713 z_Row).North).e3)), (iv (((rdD t2597 x2713 z_Row).North).e4)), (iv (((rdD t2597 x2713 z_Row).North).e5)), (iv (((rdD t2597 x2713 z_Row).North).e6)), (iv (((rdD t2597 x2713 z_Row).North).e7)), (iv ((rdD t2597 x2713 z_Row).West)), (iv ((rdD t2597 x2713 z_Row).East))] 85 (0, 0)) [] (fun fb g => by kernel_rfl) trivial (fun g2751 w2752 hS2753 => ?_)
      refine ⟨trivial, ?_⟩
      have hS2755 : St NoS w w2752 [rowR enc_Tile A_p0 c_p0 p0] [rowO 85 encN_Row (some ⟨g2751, 0, none⟩) 1 [((hd1 ((H2604 x2713.toNat 0).1) ((H2604 x2713.toNat 0).2)), (rdD t2597 x2713 z_Row))], blk g2726 (.cells #[(.slice ((H2604 x2713.toNat 0).1) ((rdD t2597 x2713 z_Row).Cells).length ((H2604 x2713.toNat 0).2)), (iv (((rdD t2597 x2713 z_Row).South).e0)), (iv (((rdD t2597 x2713 z_Row).South).e1)), (iv (((rdD t2597 x2713 z_Row).South).e2)), (iv (((rdD t2597 x2713 z_Row).South).e3)), (iv (((rdD t2597 x2713 z_Row).South).e4)), (iv (((rdD t2597 x2713 z_Row).South).e5)), (iv (((rdD t2597 x2713 z_Row).South).e6)), (iv (((rdD t2597 x2713 z_Row).South).e7)), (iv (((rdD t2597 x2713 z_Row).North).e0)), (iv (((rdD t2597 x2713 z_Row).North).e1)), (iv (((rdD t2597 x2713 z_Row).North).e2)), (iv (((rdD t2597 x2713 z_Row).North).e3)), (iv (((rdD t2597 x2713 z_Row).North).e4)), (iv (((rdD t2597 x2713 z_Row).North).e5)), (iv (((rdD t2597 x2713 z_Row).North).e6)), (iv (((rdD t2597 x2713 z_Row).North).e7)), (iv ((rdD t2597 x2713 z_Row).West)), (iv ((rdD t2597 x2713 z_Row).East))] 85 (0, 0)), rowO 85 encN_Row A2709 c2710 (tag H2712 l2711), poolO [nestO subN_Row H2712 l2711, nestO subN_Row H2604 t2597], rowO 85 encN_Row A2602 c2603 (tag H2604 t2597)] := hS2753.map1 0 _ (fun h => rowO.ofBlk h rfl (Nat.le_of_ble_eq_true (by kernel_rfl))) (fun _ h => by obtain ⟨_, h1, h2⟩ := h; injection h1 with h1; subst h1; exact h2) [1, 2, 3, 4] (by decide) (by decide)
      obtain ⟨h2756, hx2749⟩ := as_some hx2749
      refine WL.appendN hS2755 2 (d := 24) (tS := 79) (z := (.agg #[(.slice none 0 0), (iv 0), (iv 0), (iv 0), (iv 0), (iv 0), (iv 0), (iv 0), (iv 0), (iv 0), (iv 0), (iv 0), (iv 0), (iv 0), (iv 0), (iv 0), (iv 0), (iv 0), (iv 0)])) (bytes := 168) (c2 := 1) (hx := (hd1 ((H2604 x2713.toNat 0).1) ((H2604 x2713.toNat 0).2))) (x := (rdD t2597 x2713 z_Row)) rfl (fun fb => by kernel_rfl) (rowO.rd (hS2755.own 0).1) (by kernel_rfl) (by kernel_rfl) rfl (by decide) h2756 (by decide) [0, 1, 3, 4] (by decide) (by decide) (fun A2757 c2758 w2759 hS2760 => ?_)
      have hS2761 : St NoS w w2759 [rowR enc_Tile A_p0 c_p0 p0] [poolO [nestO subN_Row (updH H2712 l2711.length (hd1 ((H2604 x2713.toNat 0).1) ((H2604 x2713.toNat 0).2))) (l2711 ++ [(rdD t2597 x2713 z_Row)]), nestO subN_Row H2604 t2597], rowO 85 encN_Row A2757 c2758 (tag (updH H2712 l2711.length (hd1 ((H2604 x2713.toNat 0).1) ((H2604 x2713.toNat 0).2))) (l2711 ++ [(rdD t2597 x2713 z_Row)])), rowO 85 encN_Row (some ⟨g2751, 0, none⟩) 1 [((hd1 ((H2604 x2713.toNat 0).1) ((H2604 x2713.toNat 0).2)), (rdD t2597 x2713 z_Row))], blk g2726 (.cells #[(.slice ((H2604 x2713.toNat 0).1) ((rdD t2597 x2713 z_Row).Cells).length ((H2604 x2713.toNat 0).2)), (iv (((rdD t2597 x2713 z_Row).South).e0)), (iv (((rdD t2597 x2713 z_Row).South).e1)), (iv (((rdD t2597 x2713 z_Row).South).e2)), (iv (((rdD t2597 x2713 z_Row).South).e3)), (iv (((rdD t2597 x2713 z_Row).South).e4)), (iv (((rdD t2597 x2713 z_Row).South).e5)), (iv (((rdD t2597 x2713 z_Row).South).e6)), (iv (((rdD t2597 x2713 z_Row).South).e7)), (iv (((rdD t2597 x2713 z_Row).North).e0)), (iv (((rdD t2597 x2713 z_Row).North).e1)), (iv (((rdD t2597 x2713 z_Row).North).e2)), (iv (((rdD t2597 x2713 z_Row).North).e3)), (iv (((rdD t2597 x2713 z_Row).North).e4)), (iv (((rdD t2597 x2713 z_Row).North).e5)), (iv (((rdD t2597 x2713 z_Row).North).e6)), (iv (((rdD t2597 x2713 z_Row).North).e7)), (iv ((rdD t2597 x2713 z_Row).West)), (iv ((rdD t2597 x2713 z_Row).East))] 85 (0, 0)), rowO 85 encN_Row A2602 c2603 (tag H2604 t2597)] := hS2760.poolPush 3 rfl 0 (by simp) rfl (hd1 ((H2604 x2713.toNat 0).1) ((H2604 x2713.toNat 0).2)) (rdD t2597 x2713 z_Row) (nestO.ro (poolO.ro (hS2760.ow 3) 1) z_Row h2725.1 h2725.2) [] (fun g hg => ⟨3, by simp, ⟨1, ⟨_, _, rdD_at (d := z_Row) h2725.1 h2725.2, hg⟩⟩⟩) _ rfl [0, 1, 2, 4] (by decide) (by decide)
      refine ⟨trivial, ?_⟩
      refine seg 5 [] [5, 10, 11, 12] [(5, (.slice A2757 (l2711 ++ [(rdD t2597 x2713 z_Row)]).length c2758)), (10, (.slice A2602 t2597.length c2603)), (11, (iv (t2597.length : Int))), (12, (iv x2713))] [] (fun fb => by kernel_rfl) rfl trivial ?_
      refine WL.done rfl ?_
      injection hx2749 with hx2749
      exact WX.to Kx2748 (l2711 ++ [(rdD t2597 x2713 z_Row)], A2757, c2758, (updH H2712 l2711.length (hd1 ((H2604 x2713.toNat 0).1) ((H2604 x2713.toNat 0).2)))) [5, 10, 11, 12] rfl ⟨(hS2761.subR [0]).sub [1, 0, 4] (by decide), hx2749.symm⟩
     refine WC.condF2 (fun fb => by kernel_rfl) h2750 ?_
     refine WC.skip ?_
     injection hx2749 with hx2749
     exact WX.to Kx2748 (l2711, A2709, c2710, H2712) [5, 10, 11, 12] rfl ⟨(hS2731.subR [0]).sub [1, 2, 3] (by decide), hx2749.symm⟩
    rintro ⟨y2765, A2744, c2745, H2747⟩ w2762 ⟨hS2763, hq2764⟩
    subst hq2764
    refine WX.blockN (WX.next ?_)
    refine WC.region ?_
    refine seg 2 [] [5, 10, 11, 12] [(5, (.slice A2744 x2748.length c2745)), (10, (.slice A2602 t2597.length c2603)), (11, (iv (t2597.length : Int))), (12, (iv (w64 (x2713 + 1))))] [] (fun fb => by kernel_rfl) rfl trivial ?_
    refine WL.done rfl ?_
    exact WX.again k2720 (Nat.lt_succ_self _) ((x2748, w64 (x2713 + 1)), A2744, c2745, H2747) [5, 10, 11, 12] rfl ⟨(hS2763.subR [0]).sub [0, 1, 2] (by decide), hl2723⟩
   refine WC.condF2 (fun fb => by kernel_rfl) h2724 ?_
   refine WC.exit ?_
   have hS2766 : St NoS w w2721 [rowR enc_Tile A_p0 c_p0 p0] [poolO [nestO subN_Row H2712 l2711], rowO 85 encN_Row A2709 c2710 (tag H2712 l2711), rowO 85 encN_Row A2602 c2603 (tag H2604 t2597)] := hS2722.poolSub 1 rfl [0] [0, 2] (by decide) (by decide)
   injection hl2723 with hl2723
   exact WX.thenX (WX.thenX (WX.blockHere (WX.to Kx2718 (l2711, A2709, c2710, H2712) [5] rfl ⟨(hS2766.subR [0]).sub [1, 0] (by decide), hl2723.symm⟩)))
 rintro ⟨y2770, A2714, c2715, H2717⟩ w2767 ⟨hS2768, hq2769⟩
 subst hq2769
 refine WX.next ?_
 refine WC.seq ?_
 refine WC.region ?_
 refine seg 2 [] [4] [(4, (.slice A2714 x2718.length c2715))] [] (fun fb => by kernel_rfl) rfl trivial ?_
 refine WL.done rfl ?_
 refine WX.next ?_
 refine WC.ret ?_
 injection hf with hf
 subst hf
 exact WX.ret_ [] (.slice A2714 x2718.length c2715) [] (fun fb => by kernel_rfl) trivial ⟨_, rfl, A2714, c2715, H2717, rfl, (hS2768.sub [0, 1] (by decide)).noR⟩
end Gp
