/- Walks: each function of the program computes its plain function. -/
import Derived.Test.YtjfmjfheeijfiaaDoorGx1
set_option linter.unusedVariables false
set_option linter.unusedSimpArgs false
set_option maxHeartbeats 4000000
namespace Gp
open Go Gw Go.Proofs
theorem ref01_Of_calls (k : Nat) (p0 : List Tile) (p1 : Pattern) (A_p0 : Option Addr) (c_p0 : Nat) (A_p1_Cells : Option Addr) (c_p1_Cells : Nat) (r : Bool) (w : World) (hR0 : RO NoS w (rowR enc_Tile A_p0 c_p0 p0)) (hR1 : RO NoS w (rowR encInt A_p1_Cells c_p1_Cells p1.Cells)) (hf : ref01_Of k p0 p1 = some r) :
  CallsR Tryd.prog 65 #[(.slice A_p0 p0.length c_p0), (.agg #[(iv p1.Width), (iv p1.Height), (.slice A_p1_Cells p1.Cells.length c_p1_Cells)])] w (fun v w' => v = (.bool r) ∧ Keeps NoS w w') := by
 have hS : St NoS w w [rowR enc_Tile A_p0 c_p0 p0, rowR encInt A_p1_Cells c_p1_Cells p1.Cells] [] := St.init (ro_cons hR0 (ro_cons hR1 (ro_nil _ _)))
 refine enter 94 Tryd.func65 rfl Tryd.ntmps65 rfl ?_
 unfold ref01_Of at hf
 refine WC.seq ?_
 refine WC.region ?_
 refine WL.new hS 3 [] (fun g => (.pointer (some ⟨g, 0, none⟩))) (.cells #[(iv p1.Width), (iv p1.Height), (.slice A_p1_Cells p1.Cells.length c_p1_Cells)] 27 (0, 0)) [] (fun fb g => by kernel_rfl) trivial (fun g5742 w5743 hS5744 => ?_)
 refine ⟨trivial, ?_⟩
 refine seg 2 [] [0, 3] [(0, (.slice A_p0 p0.length c_p0)), (3, (pt g5742))] [] (fun fb => by kernel_rfl) rfl trivial ?_
 refine WL.done rfl ?_
 refine WX.next ?_
 refine WC.seq ?_
 refine WC.seq ?_
 refine WC.region ?_
 refine seg 1 [.v (iv p1.Width), .v (iv p1.Height), .v (.slice A_p1_Cells p1.Cells.length c_p1_Cells)] [0, 3, 9] [(0, (.slice A_p0 p0.length c_p0)), (3, (pt g5742)), (9, (.agg #[(iv p1.Width), (iv p1.Height), (.slice A_p1_Cells p1.Cells.length c_p1_Cells)]))] [.cell ⟨g5742, 0, none⟩ (iv p1.Width), .cell ⟨g5742, 1, none⟩ (iv p1.Height), .cell ⟨g5742, 2, none⟩ (.slice A_p1_Cells p1.Cells.length c_p1_Cells)] (fun fb => by kernel_rfl) rfl ⟨hS5744.cell 0 rfl 0 rfl, hS5744.cell 0 rfl 1 rfl, hS5744.cell 0 rfl 2 rfl, trivial⟩ ?_
 obtain ⟨t5760, ht5761, hf⟩ := bind_some hf
 refine WL.call (some 10) 86 #[(.agg #[(iv p1.Width), (iv p1.Height), (.slice A_p1_Cells p1.Cells.length c_p1_Cells)])] (fun fb => by kernel_rfl) (ref01_Form_calls p1 A_p1_Cells c_p1_Cells t5760 _ (hS5744.rd 1) ht5761) (fun v w5762 hR5763 => ?_)
 obtain ⟨rfl, hk_⟩ := hR5763
 have hS5764 := hS5744.keepN hk_
 refine ⟨trivial, ?_⟩
 refine seg 3 [] [0, 3, 11] [(0, (.slice A_p0 p0.length c_p0)), (3, (pt g5742)), (11, (.bool (!t5760)))] [] (fun fb => by kernel_rfl) rfl trivial ?_
 refine WL.done rfl ?_
 refine WX.next ?_
 rcases br_some hf with ⟨h5765, hf⟩ | ⟨h5765, hf⟩
 ·refine WC.condT2 (fun fb => by kernel_rfl) h5765 ?_
  refine WC.seq ?_
  refine WC.region ?_
  refine seg 1 [] [4] [(4, (.bool false))] [] (fun fb => by kernel_rfl) rfl trivial ?_
  refine WL.done rfl ?_
  refine WX.next ?_
  refine WC.ret ?_
  injection hf with hf
  subst hf
  exact WX.thenR (WX.ret_ [] (.bool false) [] (fun fb => by kernel_rfl) trivial ⟨_, rfl, rfl, hS5764.keep⟩)
 refine WC.condF2 (fun fb => by kernel_rfl) h5765 ?_
 refine WC.skip ?_
 refine WX.next ?_
 refine WC.seq ?_
 refine WC.seq ?_
 refine WC.region ?_
 refine seg 1 [] [0, 3, 5] [(0, (.slice A_p0 p0.length c_p0)), (3, (pt g5742)), (5, (iv 0))] [] (fun fb => by kernel_rfl) rfl trivial ?_
 refine WL.done rfl ?_
 refine WX.next ?_
 obtain ⟨x5778, hx5779, hf⟩ := bind_some hf
 refine WC.cutN (T := Unit) (fun t => [(0, (.slice A_p0 p0.length c_p0)), (3, (pt g5742))]) (fun t w1 => St NoS w w1 [rowR enc_Tile A_p0 c_p0 p0, rowR encInt A_p1_Cells c_p1_Cells p1.Cells] [blk g5742 (.cells #[(iv p1.Width), (iv p1.Height), (.slice A_p1_Cells p1.Cells.length c_p1_Cells)] 27 (0, 0))] ∧ x5778 = .inr t) (fun Kx5778 => ?_) ?_
 ·
  refine WC.block ?_
  refine WC.loop (T := Int) (fun t => [(0, (.slice A_p0 p0.length c_p0)), (3, (pt g5742)), (5, (iv t))]) (fun n t w1 => St NoS w w1 [rowR enc_Tile A_p0 c_p0 p0, rowR encInt A_p1_Cells c_p1_Cells p1.Cells] [blk g5742 (.cells #[(iv p1.Width), (iv p1.Height), (.slice A_p1_Cells p1.Cells.length c_p1_Cells)] 27 (0, 0))] ∧ ref01_Of.l0 n t p0 p1 = some x5778) k 0 [0, 3, 5] rfl ⟨(hS5764.subR [0, 1]).sub [0] (by decide), hx5779⟩ ?_
  rintro k5780 x5777 w5781 ⟨hS5782, hl5783⟩
  cases k5780 with
  | zero => rw [ref01_Of.l0] at hl5783; cases hl5783
  | succ k5780 =>
   rw [ref01_Of.l0] at hl5783
   refine WC.seq ?_
   refine WC.seq ?_
   refine WC.region ?_
   refine seg 5 [.v (.slice A_p1_Cells p1.Cells.length c_p1_Cells)] [0, 3, 5, 16] [(0, (.slice A_p0 p0.length c_p0)), (3, (pt g5742)), (5, (iv x5777)), (16, (.bool (decide (x5777 < (p1.Cells.length : Int)))))] [.cell ⟨g5742, 2, none⟩ (.slice A_p1_Cells p1.Cells.length c_p1_Cells)] (fun fb => by kernel_rfl) rfl ⟨hS5782.cell 0 rfl 2 rfl, trivial⟩ ?_
   refine WL.done rfl ?_
   refine WX.next ?_
   rcases br_some hl5783 with ⟨h5784, hl5783⟩ | ⟨h5784, hl5783⟩
   ·refine WC.condT2 (fun fb => by kernel_rfl) h5784 ?_
    refine WC.skip ?_
    refine WX.next ?_
    refine WC.seq ?_
    refine WC.block ?_
    refine WC.seq ?_
    refine WC.region ?_
    refine seg 3 [.v (.slice A_p1_Cells p1.Cells.length c_p1_Cells)] [0, 3, 5, 20, 21] [(0, (.slice A_p0 p0.length c_p0)), (3, (pt g5742)), (5, (iv x5777)), (20, (.slice A_p1_Cells p1.Cells.length c_p1_Cells)), (21, (iv x5777))] [.cell ⟨g5742, 2, none⟩ (.slice A_p1_Cells p1.Cells.length c_p1_Cells)] (fun fb => by kernel_rfl) rfl ⟨hS5782.cell 0 rfl 2 rfl, trivial⟩ ?_
    obtain ⟨h5785, hl5783⟩ := as_some hl5783
    refine seg 7 [.v (iv (rdD p1.Cells x5777 0))] [0, 3, 5, 25] [(0, (.slice A_p0 p0.length c_p0)), (3, (pt g5742)), (5, (iv x5777)), (25, (.bool (decide ((rdD p1.Cells x5777 0) < 0))))] [.idx A_p1_Cells x5777 p1.Cells.length, .cell ((adr A_p1_Cells).add ((x5777).toNat * 1)) (iv (rdD p1.Cells x5777 0))] (fun fb => by kernel_rfl) rfl ⟨rowR.adr (hS5782.rd 1).1 h5785.1 h5785.2, rowR.cell (hS5782.rd 1).1 0 h5785.1 h5785.2 0 rfl, trivial⟩ ?_
    refine WL.cutV (T := Bool) 16 (fun t => [(34, (.bool t)), (0, (.slice A_p0 p0.length c_p0)), (3, (pt g5742)), (5, (iv x5777))]) (fun t => ((decide ((rdD p1.Cells x5777 0) < 0)) || (decide ((rdD p1.Cells x5777 0) ≥ (p0.length : Int)))) = t) (fun K => ?_) ?_
    ·
     rcases Bool.eq_false_or_eq_true (decide ((rdD p1.Cells x5777 0) < 0)) with h5786 | h5786
     ·
      refine WL.setB 25 h5786 rfl ?_
      refine seg 16 [] [0, 3, 5, 34] [(0, (.slice A_p0 p0.length c_p0)), (3, (pt g5742)), (5, (iv x5777)), (34, (.bool true))] [] (fun fb => by kernel_rfl) rfl trivial ?_
      exact WL.toV K true [34, 0, 3, 5] rfl (by first | (rw [h5786]; done) | (rw [h5786]; rfl))
     refine WL.setB 25 h5786 rfl ?_
     refine seg 16 [.v (.slice A_p1_Cells p1.Cells.length c_p1_Cells), .v (iv (rdD p1.Cells x5777 0))] [0, 3, 5, 34] [(0, (.slice A_p0 p0.length c_p0)), (3, (pt g5742)), (5, (iv x5777)), (34, (.bool (decide ((rdD p1.Cells x5777 0) ≥ (p0.length : Int)))))] [.cell ⟨g5742, 2, none⟩ (.slice A_p1_Cells p1.Cells.length c_p1_Cells), .idx A_p1_Cells x5777 p1.Cells.length, .cell ((adr A_p1_Cells).add ((x5777).toNat * 1)) (iv (rdD p1.Cells x5777 0))] (fun fb => by kernel_rfl) rfl ⟨hS5782.cell 0 rfl 2 rfl, rowR.adr (hS5782.rd 1).1 h5785.1 h5785.2, rowR.cell (hS5782.rd 1).1 0 h5785.1 h5785.2 0 rfl, trivial⟩ ?_
     exact WL.toV K (decide ((rdD p1.Cells x5777 0) ≥ (p0.length : Int))) [34, 0, 3, 5] rfl (by first | (rw [h5786]; done) | (rw [h5786]; rfl))
    rintro b5787 rfl
    refine WL.done rfl ?_
    refine WX.next ?_
    rcases br_some hl5783 with ⟨h5788, hl5783⟩ | ⟨h5788, hl5783⟩
    ·refine WC.condT2 (fun fb => by kernel_rfl) h5788 ?_
     refine WC.seq ?_
     refine WC.region ?_
     refine seg 1 [] [4] [(4, (.bool false))] [] (fun fb => by kernel_rfl) rfl trivial ?_
     refine WL.done rfl ?_
     refine WX.next ?_
     refine WC.ret ?_
     injection hl5783 with hl5783
     subst hl5783
     injection hf with hf
     subst hf
     exact WX.blockR (WX.thenR (WX.thenR (WX.blockR (WX.thenR (WX.ret_ [] (.bool false) [] (fun fb => by kernel_rfl) trivial ⟨_, rfl, rfl, hS5782.keep⟩)))))
    refine WC.condF2 (fun fb => by kernel_rfl) h5788 ?_
    refine WC.skip ?_
    refine WX.blockN (WX.next ?_)
    refine WC.region ?_
    refine seg 3 [] [0, 3, 5] [(0, (.slice A_p0 p0.length c_p0)), (3, (pt g5742)), (5, (iv (w64 (x5777 + 1))))] [] (fun fb => by kernel_rfl) rfl trivial ?_
    refine WL.done rfl ?_
    exact WX.again k5780 (Nat.lt_succ_self _) (w64 (x5777 + 1)) [0, 3, 5] rfl ⟨(hS5782.subR [0, 1]).sub [0] (by decide), hl5783⟩
   refine WC.condF2 (fun fb => by kernel_rfl) h5784 ?_
   refine WC.exit ?_
   injection hl5783 with hl5783
   exact WX.thenX (WX.thenX (WX.blockHere (WX.to Kx5778 () [0, 3] rfl ⟨(hS5782.subR [0, 1]).sub [0] (by decide), hl5783.symm⟩)))
 rintro y5792 w5789 ⟨hS5790, hq5791⟩
 subst hq5791
 have hf := sum_inr hf
 refine WX.next ?_
 refine WC.seq ?_
 refine WC.seq ?_
 refine WC.region ?_
 refine seg 1 [] [0, 3, 6] [(0, (.slice A_p0 p0.length c_p0)), (3, (pt g5742)), (6, (iv 0))] [] (fun fb => by kernel_rfl) rfl trivial ?_
 refine WL.done rfl ?_
 refine WX.next ?_
 obtain ⟨x7143, hx7144, hf⟩ := bind_some hf
 refine WC.cutN (T := Unit) (fun t => []) (fun t w1 => St NoS w w1 [rowR enc_Tile A_p0 c_p0 p0, rowR encInt A_p1_Cells c_p1_Cells p1.Cells] [] ∧ x7143 = .inr t) (fun Kx7143 => ?_) ?_
 ·
  refine WC.block ?_
  refine WC.loop (T := Int) (fun t => [(0, (.slice A_p0 p0.length c_p0)), (3, (pt g5742)), (6, (iv t))]) (fun n t w1 => St NoS w w1 [rowR enc_Tile A_p0 c_p0 p0, rowR encInt A_p1_Cells c_p1_Cells p1.Cells] [blk g5742 (.cells #[(iv p1.Width), (iv p1.Height), (.slice A_p1_Cells p1.Cells.length c_p1_Cells)] 27 (0, 0))] ∧ ref01_Of.l1 n t p0 p1 = some x7143) k 0 [0, 3, 6] rfl ⟨(hS5790.subR [0, 1]).sub [0] (by decide), hx7144⟩ ?_
  rintro k7145 x7142 w7146 ⟨hS7147, hl7148⟩
  cases k7145 with
  | zero => rw [ref01_Of.l1] at hl7148; cases hl7148
  | succ k7145 =>
   rw [ref01_Of.l1] at hl7148
   refine WC.seq ?_
   refine WC.seq ?_
   refine WC.region ?_
   refine seg 4 [.v (iv p1.Height)] [0, 3, 6, 38] [(0, (.slice A_p0 p0.length c_p0)), (3, (pt g5742)), (6, (iv x7142)), (38, (.bool (decide (x7142 < p1.Height))))] [.cell ⟨g5742, 1, none⟩ (iv p1.Height)] (fun fb => by kernel_rfl) rfl ⟨hS7147.cell 0 rfl 1 rfl, trivial⟩ ?_
   refine WL.done rfl ?_
   refine WX.next ?_
   rcases br_some hl7148 with ⟨h7149, hl7148⟩ | ⟨h7149, hl7148⟩
   ·refine WC.condT2 (fun fb => by kernel_rfl) h7149 ?_
    refine WC.skip ?_
    refine WX.next ?_
    refine WC.seq ?_
    refine WC.block ?_
    refine WC.seq ?_
    refine WC.region ?_
    refine seg 1 [] [0, 3, 6, 7] [(0, (.slice A_p0 p0.length c_p0)), (3, (pt g5742)), (6, (iv x7142)), (7, (iv 0))] [] (fun fb => by kernel_rfl) rfl trivial ?_
    refine WL.done rfl ?_
    refine WX.next ?_
    obtain ⟨x7590, hx7591, hl7148⟩ := bind_some hl7148
    refine WC.cutN (T := Unit) (fun t => [(0, (.slice A_p0 p0.length c_p0)), (3, (pt g5742)), (6, (iv x7142))]) (fun t w1 => St NoS w w1 [rowR enc_Tile A_p0 c_p0 p0, rowR encInt A_p1_Cells c_p1_Cells p1.Cells] [blk g5742 (.cells #[(iv p1.Width), (iv p1.Height), (.slice A_p1_Cells p1.Cells.length c_p1_Cells)] 27 (0, 0))] ∧ x7590 = .inr t) (fun Kx7590 => ?_) ?_
    ·
     refine WC.block ?_
     refine WC.loop (T := Int) (fun t => [(0, (.slice A_p0 p0.length c_p0)), (3, (pt g5742)), (6, (iv x7142)), (7, (iv t))]) (fun n t w1 => St NoS w w1 [rowR enc_Tile A_p0 c_p0 p0, rowR encInt A_p1_Cells c_p1_Cells p1.Cells] [blk g5742 (.cells #[(iv p1.Width), (iv p1.Height), (.slice A_p1_Cells p1.Cells.length c_p1_Cells)] 27 (0, 0))] ∧ ref01_Of.l2 n t p0 p1 x7142 = some x7590) k7145 0 [0, 3, 6, 7] rfl ⟨(hS7147.subR [0, 1]).sub [0] (by decide), hx7591⟩ ?_
     rintro k7592 x7589 w7593 ⟨hS7594, hl7595⟩
     cases k7592 with
     | zero => rw [ref01_Of.l2] at hl7595; cases hl7595
     | succ k7592 =>
      rw [ref01_Of.l2] at hl7595
      refine WC.seq ?_
      refine WC.seq ?_
      refine WC.region ?_
      refine seg 4 [.v (iv p1.Width)] [0, 3, 6, 7, 44] [(0, (.slice A_p0 p0.length c_p0)), (3, (pt g5742)), (6, (iv x7142)), (7, (iv x7589)), (44, (.bool (decide (x7589 < p1.Width))))] [.cell ⟨g5742, 0, none⟩ (iv p1.Width)] (fun fb => by kernel_rfl) rfl ⟨hS7594.cell 0 rfl 0 rfl, trivial⟩ ?_
      refine WL.done rfl ?_
      refine WX.next ?_
      rcases br_some hl7595 with ⟨h7596, hl7595⟩ | ⟨h7596, hl7595⟩
      ·refine WC.condT2 (fun fb => by kernel_rfl) h7596 ?_
       refine WC.skip ?_
       refine WX.next ?_
       refine WC.seq ?_
       refine WC.block ?_
       refine WC.seq ?_
       refine WC.region ?_
       refine seg 4 [.v (iv p1.Width), .v (iv p1.Height), .v (.slice A_p1_Cells p1.Cells.length c_p1_Cells)] [0, 3, 6, 7, 47, 48, 49, 50] [(0, (.slice A_p0 p0.length c_p0)), (3, (pt g5742)), (6, (iv x7142)), (7, (iv x7589)), (47, (.slice A_p0 p0.length c_p0)), (48, (.agg #[(iv p1.Width), (iv p1.Height), (.slice A_p1_Cells p1.Cells.length c_p1_Cells)])), (49, (iv x7589)), (50, (iv x7142))] [.cell ⟨g5742, 0, none⟩ (iv p1.Width), .cell ⟨g5742, 1, none⟩ (iv p1.Height), .cell ⟨g5742, 2, none⟩ (.slice A_p1_Cells p1.Cells.length c_p1_Cells)] (fun fb => by kernel_rfl) rfl ⟨hS7594.cell 0 rfl 0 rfl, hS7594.cell 0 rfl 1 rfl, hS7594.cell 0 rfl 2 rfl, trivial⟩ ?_
       obtain ⟨t7597, ht7598, hl7595⟩ := bind_some hl7595
       refine WL.call (some 51) 37 #[(.agg #[(iv p1.Width), (iv p1.Height), (.slice A_p1_Cells p1.Cells.length c_p1_Cells)]), (iv x7589), (iv x7142)] (fun fb => by kernel_rfl) (ref01_Cell_calls p1 x7589 x7142 A_p1_Cells c_p1_Cells t7597 _ (hS7594.rd 1) ht7598) (fun v w7599 hR7600 => ?_)
       obtain ⟨rfl, hk_⟩ := hR7600
       have hS7601 := hS7594.keepN hk_
       refine ⟨trivial, ?_⟩
       obtain ⟨h7602, hl7595⟩ := as_some hl7595
       refine seg 7 [.v (iv ((rdD p0 t7597 z_Tile).N)), .v (iv ((rdD p0 t7597 z_Tile).E)), .v (iv ((rdD p0 t7597 z_Tile).S)), .v (iv ((rdD p0 t7597 z_Tile).W))] [0, 3, 6, 7, 53] [(0, (.slice A_p0 p0.length c_p0)), (3, (pt g5742)), (6, (iv x7142)), (7, (iv x7589)), (53, (.agg #[(iv ((rdD p0 t7597 z_Tile).N)), (iv ((rdD p0 t7597 z_Tile).E)), (iv ((rdD p0 t7597 z_Tile).S)), (iv ((rdD p0 t7597 z_Tile).W))]))] [.idx A_p0 t7597 p0.length, .cell ((adr A_p0).add ((t7597).toNat * 4)) (iv ((rdD p0 t7597 z_Tile).N)), .cell (((adr A_p0).add ((t7597).toNat * 4)).add 1) (iv ((rdD p0 t7597 z_Tile).E)), .cell (((adr A_p0).add ((t7597).toNat * 4)).add 2) (iv ((rdD p0 t7597 z_Tile).S)), .cell (((adr A_p0).add ((t7597).toNat * 4)).add 3) (iv ((rdD p0 t7597 z_Tile).W))] (fun fb => by kernel_rfl) rfl ⟨rowR.adr (hS7601.rd 0).1 h7602.1 h7602.2, rowR.cell (hS7601.rd 0).1 z_Tile h7602.1 h7602.2 0 rfl, rowR.cell (hS7601.rd 0).1 z_Tile h7602.1 h7602.2 1 rfl, rowR.cell (hS7601.rd 0).1 z_Tile h7602.1 h7602.2 2 rfl, rowR.cell (hS7601.rd 0).1 z_Tile h7602.1 h7602.2 3 rfl, trivial⟩ ?_
       refine WL.new hS7601 8 [] (fun g => (.pointer (some ⟨g, 0, none⟩))) (.cells #[(iv 0), (iv 0), (iv 0), (iv 0)] 40 (0, 0)) [] (fun fb g => by kernel_rfl) trivial (fun g7603 w7604 hS7605 => ?_)
       refine ⟨trivial, ?_⟩
       refine WL.store hS7605 0 rfl [(0, (iv ((rdD p0 t7597 z_Tile).N))), (1, (iv ((rdD p0 t7597 z_Tile).E))), (2, (iv ((rdD p0 t7597 z_Tile).S))), (3, (iv ((rdD p0 t7597 z_Tile).W)))] #[(iv ((rdD p0 t7597 z_Tile).N)), (iv ((rdD p0 t7597 z_Tile).E)), (iv ((rdD p0 t7597 z_Tile).S)), (iv ((rdD p0 t7597 z_Tile).W))] (fun fb => by kernel_rfl) (by kernel_rfl) rfl [1] (by decide) (by decide) (fun w7607 hS7608 => ?_)
       refine ⟨trivial, ?_⟩
       refine WL.done rfl ?_
       refine WX.next ?_
       refine WC.seq ?_
       obtain ⟨x7709, hx7710, hl7595⟩ := bind_some hl7595
       refine WC.cutN (T := Bool) (fun t => [(0, (.slice A_p0 p0.length c_p0)), (3, (pt g5742)), (6, (iv x7142)), (7, (iv x7589)), (93, (.bool t))]) (fun t w1 => St NoS w w1 [rowR enc_Tile A_p0 c_p0 p0, rowR encInt A_p1_Cells c_p1_Cells p1.Cells] [blk g5742 (.cells #[(iv p1.Width), (iv p1.Height), (.slice A_p1_Cells p1.Cells.length c_p1_Cells)] 27 (0, 0))] ∧ x7709 = t) (fun Kx7709 => ?_) ?_
       ·
        rcases br_some hx7710 with ⟨h7711, hx7710⟩ | ⟨h7711, hx7710⟩
        ·
         rcases br_some hx7710 with ⟨h7718, hx7710⟩ | ⟨h7718, hx7710⟩
         ·
          refine WC.regionD ([(3, ⟨g5742, 0, none⟩, (iv p1.Width)), (7, ⟨g7603, 1, none⟩, (iv ((rdD p0 t7597 z_Tile).E))), (9, ⟨g5742, 0, none⟩, (iv p1.Width)), (9, ⟨g5742, 1, none⟩, (iv p1.Height)), (9, ⟨g5742, 2, none⟩, (.slice A_p1_Cells p1.Cells.length c_p1_Cells)), (23, ⟨g5742, 1, none⟩, (iv p1.Height)), (27, ⟨g7603, 0, none⟩, (iv ((rdD p0 t7597 z_Tile).N))), (29, ⟨g5742, 0, none⟩, (iv p1.Width)), (29, ⟨g5742, 1, none⟩, (iv p1.Height)), (29, ⟨g5742, 2, none⟩, (.slice A_p1_Cells p1.Cells.length c_p1_Cells))], [0, 1, 2, 3, 4, 5, 6, 7, 8, 9, 10, 11, 12, 14, 15, 17, 18, 19, 20, 21, 22, 23, 24, 25, 26, 27, 28, 29, 30, 31, 32, 34, 35, 37, 38, 39], [[], [0], [], [2], [0, 1, 2, 3], [0, 1, 2, 3, 4], [0, 1, 2, 3, 4, 5], [0, 1, 2, 3, 4, 5, 6], [0, 1, 2, 3, 4, 5], [0, 1, 2, 3, 4, 5], [0, 1, 2, 3, 4, 5], [0, 1, 2, 3, 4, 5, 10], [0, 1, 2, 3, 4, 5], [0, 1, 2, 3, 4, 5, 9, 10, 11, 12], [0, 1, 2, 3, 4, 5, 8, 9, 10, 11, 12, 13], [0, 1, 2, 3, 4, 5, 8, 9, 10, 11, 12, 13, 14], [0, 1, 2, 3, 4, 5, 8, 9, 10, 11, 12, 13, 14, 15], [0, 1, 2, 3, 4, 5, 6, 7, 8, 9, 10, 11, 12, 13, 14, 15, 16], [0, 1, 2, 3, 4, 5, 6, 7, 8, 9, 10, 11, 12, 13, 14, 15, 16, 17], [0, 1, 2, 3, 4, 5, 6, 7, 8, 9, 10, 11, 12, 13, 14, 15, 16, 17, 18], [0, 1, 2, 3, 4, 5, 6, 7, 8, 9, 10, 11, 12, 13, 14, 15, 16, 17, 18, 19], [0, 1, 2, 3, 4, 5, 6, 7, 8, 9, 10, 11, 12, 13, 14, 15, 16, 17, 18, 19, 20], [0, 1, 2, 3, 4, 5, 6, 7, 8, 9, 10, 11, 12, 13, 14, 15, 16, 17, 18, 19], [0, 1, 2, 3, 4, 5, 6, 7, 8, 9, 10, 11, 12, 13, 14, 15, 16, 17, 18, 19, 22], [0, 1, 2, 3, 4, 5, 6, 7, 8, 9, 10, 11, 12, 13, 14, 15, 16, 17, 18, 19, 20, 21, 22, 23], [0, 1, 2, 3, 4, 5, 6, 7, 8, 9, 10, 11, 12, 13, 14, 15, 16, 17, 18, 19, 20, 21, 22, 23, 24], [0, 1, 2, 3, 4, 5, 6, 7, 8, 9, 10, 11, 12, 13, 14, 15, 16, 17, 18, 19, 20, 21, 22, 23, 24, 25], [0, 1, 2, 3, 4, 5, 6, 7, 8, 9, 10, 11, 12, 13, 14, 15, 16, 17, 18, 19, 20, 21, 22, 23, 24, 25, 26], [0, 1, 2, 3, 4, 5, 6, 7, 8, 9, 10, 11, 12, 13, 14, 15, 16, 17, 18, 19, 20, 21, 22, 23, 24, 25], [0, 1, 2, 3, 4, 5, 6, 7, 8, 9, 10, 11, 12, 13, 14, 15, 16, 17, 18, 19, 20, 21, 22, 23, 24, 25], [0, 1, 2, 3, 4, 5, 6, 7, 8, 9, 10, 11, 12, 13, 14, 15, 16, 17, 18, 19, 20, 21, 22, 23, 24, 25], [0, 1, 2, 3, 4, 5, 6, 7, 8, 9, 10, 11, 12, 13, 14, 15, 16, 17, 18, 19, 20, 21, 22, 23, 24, 25], [0, 1, 2, 3, 4, 5, 6, 7, 8, 9, 10, 11, 12, 13, 14, 15, 16, 17, 18, 19, 20, 21, 22, 23, 24, 25, 31], [0, 1, 2, 3, 4, 5, 6, 7, 8, 9, 10, 11, 12, 13, 14, 15, 16, 17, 18, 19, 20, 21, 22, 23, 24, 25, 29, 30, 31, 32], [0, 1, 2, 3, 4, 5, 6, 7, 8, 9, 10, 11, 12, 13, 14, 15, 16, 17, 18, 19, 20, 21, 22, 23, 24, 25, 28, 29, 30, 31, 32, 33], [0, 1, 2, 3, 4, 5, 6, 7, 8, 9, 10, 11, 12, 13, 14, 15, 16, 17, 18, 19, 20, 21, 22, 23, 24, 25, 28, 29, 30, 31, 32, 33, 34], [0, 1, 2, 3, 4, 5, 6, 7, 8, 9, 10, 11, 12, 13, 14, 15, 16, 17, 18, 19, 20, 21, 22, 23, 24, 25, 28, 29, 30, 31, 32, 33, 34, 35], [0, 1, 2, 3, 4, 5, 6, 7, 8, 9, 10, 11, 12, 13, 14, 15, 16, 17, 18, 19, 20, 21, 22, 23, 24, 25, 26, 27, 28, 29, 30, 31, 32, 33, 34, 35, 36], [0, 1, 2, 3, 4, 5, 6, 7, 8, 9, 10, 11, 12, 13, 14, 15, 16, 17, 18, 19, 20, 21, 22, 23, 24, 25, 26, 27, 28, 29, 30, 31, 32, 33, 34, 35, 36, 37], [0, 1, 2, 3, 4, 5, 6, 7, 8, 9, 10, 11, 12, 13, 14, 15, 16, 17, 18, 19, 20, 21, 22, 23, 24, 25, 26, 27, 28, 29, 30, 31, 32, 33, 34, 35, 36, 37, 38]]) [[0, 1, 2, 3, 4, 5, 6, 7, 8, 9, 10, 11, 12, 13, 14, 15, 16, 17, 18, 19, 20, 21, 22, 23, 24, 25, 26, 27, 28, 29, 30, 31, 32, 33, 34, 35, 36, 37, 38, 39]] (by kernel_rfl) (by kernel_rfl) (NoPanic.seq (NoPanic.block (NoPanic.seq (NoPanic.seq (NoPanic.block (NoPanic.block (NoPanic.seq (NoPanic.seq (NoPanic.block (NoPanic.seq (NoPanic.body))))))))))) ?_
          have hS7747 := hS7608.drew
          revert hS7747
          generalize World.drew w7607 = w7746
          intro hS7747
          refine ⟨⟨hS7747.cell 1 rfl 0 rfl, hS7747.cell 0 rfl 1 rfl, hS7747.cell 1 rfl 0 rfl, hS7747.cell 1 rfl 1 rfl, hS7747.cell 1 rfl 2 rfl, hS7747.cell 1 rfl 1 rfl, hS7747.cell 0 rfl 0 rfl, hS7747.cell 1 rfl 0 rfl, hS7747.cell 1 rfl 1 rfl, hS7747.cell 1 rfl 2 rfl, trivial⟩, forallC ?_ (forallN)⟩
          refine segF 6 [.v (iv p1.Width)] [0, 3, 6, 7, 8, 59] [(0, (.slice A_p0 p0.length c_p0)), (3, (pt g5742)), (6, (iv x7142)), (7, (iv x7589)), (8, (pt g7603)), (59, (.bool (decide (w64 (x7589 + 1) < p1.Width))))] [] [0] [(3, ⟨g5742, 0, none⟩, (iv p1.Width))] (fun fb => by kernel_rfl) rfl trivial rfl ?_
          refine WL.setB 59 h7711 rfl ?_
          refine segF 13 [.v (iv ((rdD p0 t7597 z_Tile).E)), .v (iv p1.Width), .v (iv p1.Height), .v (.slice A_p1_Cells p1.Cells.length c_p1_Cells)] [0, 3, 6, 7, 8, 59, 61, 62, 63, 65, 66] [(0, (.slice A_p0 p0.length c_p0)), (3, (pt g5742)), (6, (iv x7142)), (7, (iv x7589)), (8, (pt g7603)), (59, (.bool true)), (61, (iv ((rdD p0 t7597 z_Tile).E))), (62, (.slice A_p0 p0.length c_p0)), (63, (.agg #[(iv p1.Width), (iv p1.Height), (.slice A_p1_Cells p1.Cells.length c_p1_Cells)])), (65, (iv (w64 (x7589 + 1)))), (66, (iv x7142))] [] [1, 2, 3, 4] [(7, ⟨g7603, 1, none⟩, (iv ((rdD p0 t7597 z_Tile).E))), (9, ⟨g5742, 0, none⟩, (iv p1.Width)), (9, ⟨g5742, 1, none⟩, (iv p1.Height)), (9, ⟨g5742, 2, none⟩, (.slice A_p1_Cells p1.Cells.length c_p1_Cells))] (fun fb => by kernel_rfl) rfl trivial rfl ?_
          obtain ⟨t7748, ht7749, hx7710⟩ := bind_some hx7710
          refine WL.call (some 67) 37 #[(.agg #[(iv p1.Width), (iv p1.Height), (.slice A_p1_Cells p1.Cells.length c_p1_Cells)]), (iv (w64 (x7589 + 1))), (iv x7142)] (fun fb => by kernel_rfl) (ref01_Cell_calls p1 (w64 (x7589 + 1)) x7142 A_p1_Cells c_p1_Cells t7748 _ (hS7747.rd 1) ht7749) (fun v w7750 hR7751 => ?_)
          obtain ⟨rfl, hk_⟩ := hR7751
          have hS7752 := hS7747.keepN hk_
          refine ⟨⟨hS7752.cell 0 rfl 1 rfl, hS7752.cell 1 rfl 1 rfl, hS7752.cell 0 rfl 0 rfl, hS7752.cell 1 rfl 0 rfl, hS7752.cell 1 rfl 1 rfl, hS7752.cell 1 rfl 2 rfl, trivial⟩, ?_⟩
          obtain ⟨h7753, hx7710⟩ := as_some hx7710
          refine seg 20 [.v (iv ((rdD p0 t7748 z_Tile).W))] [0, 3, 6, 7, 8, 73] [(0, (.slice A_p0 p0.length c_p0)), (3, (pt g5742)), (6, (iv x7142)), (7, (iv x7589)), (8, (pt g7603)), (73, (.bool (((rdD p0 t7597 z_Tile).E) != ((rdD p0 t7748 z_Tile).W))))] [.idx A_p0 t7748 p0.length, .cell (((adr A_p0).add ((t7748).toNat * 4)).add 3) (iv ((rdD p0 t7748 z_Tile).W))] (fun fb => by kernel_rfl) rfl ⟨rowR.adr (hS7752.rd 0).1 h7753.1 h7753.2, rowR.cell (hS7752.rd 0).1 z_Tile h7753.1 h7753.2 3 rfl, trivial⟩ ?_
          obtain ⟨x7761, hx7762, hx7710⟩ := bind_some hx7710
          refine WL.cutW (T := Bool) 40 (fun t => [(0, (.slice A_p0 p0.length c_p0)), (3, (pt g5742)), (6, (iv x7142)), (7, (iv x7589)), (93, (.bool t))]) (fun t w1 => (St NoS w w1 [rowR enc_Tile A_p0 c_p0 p0, rowR encInt A_p1_Cells c_p1_Cells p1.Cells] [blk g5742 (.cells #[(iv p1.Width), (iv p1.Height), (.slice A_p1_Cells p1.Cells.length c_p1_Cells)] 27 (0, 0))] ∧ x7761 = t) ∧ CellsOK [] w1) (fun K => ?_) ?_
          ·
           rcases br_some hx7762 with ⟨h7763, hx7762⟩ | ⟨h7763, hx7762⟩
           ·
            refine WL.setB 73 h7763 rfl ?_
            refine seg 40 [] [0, 3, 6, 7, 93] [(0, (.slice A_p0 p0.length c_p0)), (3, (pt g5742)), (6, (iv x7142)), (7, (iv x7589)), (93, (.bool true))] [] (fun fb => by kernel_rfl) rfl trivial ?_
            injection hx7762 with hx7762
            exact WL.to K true [0, 3, 6, 7, 93] rfl ⟨⟨(hS7752.subR [0, 1]).sub [1] (by decide), hx7762.symm⟩, trivial⟩
           refine WL.setB 73 h7763 rfl ?_
           refine segF 26 [.v (iv p1.Height)] [0, 3, 6, 7, 8, 73, 79] [(0, (.slice A_p0 p0.length c_p0)), (3, (pt g5742)), (6, (iv x7142)), (7, (iv x7589)), (8, (pt g7603)), (73, (.bool false)), (79, (.bool (decide (w64 (x7142 + 1) < p1.Height))))] [] [5] [(23, ⟨g5742, 1, none⟩, (iv p1.Height))] (fun fb => by kernel_rfl) rfl trivial rfl ?_
           refine WL.setB 79 h7718 rfl ?_
           refine segF 33 [.v (iv ((rdD p0 t7597 z_Tile).N)), .v (iv p1.Width), .v (iv p1.Height), .v (.slice A_p1_Cells p1.Cells.length c_p1_Cells)] [0, 3, 6, 7, 73, 79, 81, 82, 83, 84, 86] [(0, (.slice A_p0 p0.length c_p0)), (3, (pt g5742)), (6, (iv x7142)), (7, (iv x7589)), (73, (.bool false)), (79, (.bool true)), (81, (iv ((rdD p0 t7597 z_Tile).N))), (82, (.slice A_p0 p0.length c_p0)), (83, (.agg #[(iv p1.Width), (iv p1.Height), (.slice A_p1_Cells p1.Cells.length c_p1_Cells)])), (84, (iv x7589)), (86, (iv (w64 (x7142 + 1))))] [] [6, 7, 8, 9] [(27, ⟨g7603, 0, none⟩, (iv ((rdD p0 t7597 z_Tile).N))), (29, ⟨g5742, 0, none⟩, (iv p1.Width)), (29, ⟨g5742, 1, none⟩, (iv p1.Height)), (29, ⟨g5742, 2, none⟩, (.slice A_p1_Cells p1.Cells.length c_p1_Cells))] (fun fb => by kernel_rfl) rfl trivial rfl ?_
           obtain ⟨t7764, ht7765, hx7762⟩ := bind_some hx7762
           refine WL.call (some 87) 37 #[(.agg #[(iv p1.Width), (iv p1.Height), (.slice A_p1_Cells p1.Cells.length c_p1_Cells)]), (iv x7589), (iv (w64 (x7142 + 1)))] (fun fb => by kernel_rfl) (ref01_Cell_calls p1 x7589 (w64 (x7142 + 1)) A_p1_Cells c_p1_Cells t7764 _ (hS7752.rd 1) ht7765) (fun v w7766 hR7767 => ?_)
           obtain ⟨rfl, hk_⟩ := hR7767
           have hS7768 := hS7752.keepN hk_
           refine ⟨⟨hS7768.cell 0 rfl 0 rfl, trivial⟩, ?_⟩
           obtain ⟨h7769, hx7762⟩ := as_some hx7762
           refine seg 40 [.v (iv ((rdD p0 t7764 z_Tile).S))] [0, 3, 6, 7, 93] [(0, (.slice A_p0 p0.length c_p0)), (3, (pt g5742)), (6, (iv x7142)), (7, (iv x7589)), (93, (.bool (((rdD p0 t7597 z_Tile).N) != ((rdD p0 t7764 z_Tile).S))))] [.idx A_p0 t7764 p0.length, .cell (((adr A_p0).add ((t7764).toNat * 4)).add 2) (iv ((rdD p0 t7764 z_Tile).S))] (fun fb => by kernel_rfl) rfl ⟨rowR.adr (hS7768.rd 0).1 h7769.1 h7769.2, rowR.cell (hS7768.rd 0).1 z_Tile h7769.1 h7769.2 2 rfl, trivial⟩ ?_
           injection hx7762 with hx7762
           exact WL.to K (((rdD p0 t7597 z_Tile).N) != ((rdD p0 t7764 z_Tile).S)) [0, 3, 6, 7, 93] rfl ⟨⟨(hS7768.subR [0, 1]).sub [1] (by decide), hx7762.symm⟩, trivial⟩
          rintro y7770 w7772 ⟨⟨hS7773, hq7771⟩, hF7774⟩
          subst hq7771
          refine WL.done rfl ?_
          injection hx7710 with hx7710
          exact WX.to Kx7709 x7761 [0, 3, 6, 7, 93] rfl ⟨(hS7773.subR [0, 1]).sub [0] (by decide), hx7710.symm⟩
         refine WC.regionD ([(3, ⟨g5742, 0, none⟩, (iv p1.Width)), (7, ⟨g7603, 1, none⟩, (iv ((rdD p0 t7597 z_Tile).E))), (9, ⟨g5742, 0, none⟩, (iv p1.Width)), (9, ⟨g5742, 1, none⟩, (iv p1.Height)), (9, ⟨g5742, 2, none⟩, (.slice A_p1_Cells p1.Cells.length c_p1_Cells)), (23, ⟨g5742, 1, none⟩, (iv p1.Height)), (27, ⟨g7603, 0, none⟩, (iv ((rdD p0 t7597 z_Tile).N))), (29, ⟨g5742, 0, none⟩, (iv p1.Width)), (29, ⟨g5742, 1, none⟩, (iv p1.Height)), (29, ⟨g5742, 2, none⟩, (.slice A_p1_Cells p1.Cells.length c_p1_Cells))], [0, 1, 2, 3, 4, 5, 6, 7, 8, 9, 10, 11, 12, 14, 15, 17, 18, 19, 20, 21, 22, 23, 24, 25, 26, 27, 28, 29, 30, 31, 32, 34, 35, 37, 38, 39], [[], [0], [], [2], [0, 1, 2, 3], [0, 1, 2, 3, 4], [0, 1, 2, 3, 4, 5], [0, 1, 2, 3, 4, 5, 6], [0, 1, 2, 3, 4, 5], [0, 1, 2, 3, 4, 5], [0, 1, 2, 3, 4, 5], [0, 1, 2, 3, 4, 5, 10], [0, 1, 2, 3, 4, 5], [0, 1, 2, 3, 4, 5, 9, 10, 11, 12], [0, 1, 2, 3, 4, 5, 8, 9, 10, 11, 12, 13], [0, 1, 2, 3, 4, 5, 8, 9, 10, 11, 12, 13, 14], [0, 1, 2, 3, 4, 5, 8, 9, 10, 11, 12, 13, 14, 15], [0, 1, 2, 3, 4, 5, 6, 7, 8, 9, 10, 11, 12, 13, 14, 15, 16], [0, 1, 2, 3, 4, 5, 6, 7, 8, 9, 10, 11, 12, 13, 14, 15, 16, 17], [0, 1, 2, 3, 4, 5, 6, 7, 8, 9, 10, 11, 12, 13, 14, 15, 16, 17, 18], [0, 1, 2, 3, 4, 5, 6, 7, 8, 9, 10, 11, 12, 13, 14, 15, 16, 17, 18, 19], [0, 1, 2, 3, 4, 5, 6, 7, 8, 9, 10, 11, 12, 13, 14, 15, 16, 17, 18, 19, 20], [0, 1, 2, 3, 4, 5, 6, 7, 8, 9, 10, 11, 12, 13, 14, 15, 16, 17, 18, 19], [0, 1, 2, 3, 4, 5, 6, 7, 8, 9, 10, 11, 12, 13, 14, 15, 16, 17, 18, 19, 22], [0, 1, 2, 3, 4, 5, 6, 7, 8, 9, 10, 11, 12, 13, 14, 15, 16, 17, 18, 19, 20, 21, 22, 23], [0, 1, 2, 3, 4, 5, 6, 7, 8, 9, 10, 11, 12, 13, 14, 15, 16, 17, 18, 19, 20, 21, 22, 23, 24], [0, 1, 2, 3, 4, 5, 6, 7, 8, 9, 10, 11, 12, 13, 14, 15, 16, 17, 18, 19, 20, 21, 22, 23, 24, 25], [0, 1, 2, 3, 4, 5, 6, 7, 8, 9, 10, 11, 12, 13, 14, 15, 16, 17, 18, 19, 20, 21, 22, 23, 24, 25, 26], [0, 1, 2, 3, 4, 5, 6, 7, 8, 9, 10, 11, 12, 13, 14, 15, 16, 17, 18, 19, 20, 21, 22, 23, 24, 25], [0, 1, 2, 3, 4, 5, 6, 7, 8, 9, 10, 11, 12, 13, 14, 15, 16, 17, 18, 19, 20, 21, 22, 23, 24, 25], [0, 1, 2, 3, 4, 5, 6, 7, 8, 9, 10, 11, 12, 13, 14, 15, 16, 17, 18, 19, 20, 21, 22, 23, 24, 25], [0, 1, 2, 3, 4, 5, 6, 7, 8, 9, 10, 11, 12, 13, 14, 15, 16, 17, 18, 19, 20, 21, 22, 23, 24, 25], [0, 1, 2, 3, 4, 5, 6, 7, 8, 9, 10, 11, 12, 13, 14, 15, 16, 17, 18, 19, 20, 21, 22, 23, 24, 25, 31], [0, 1, 2, 3, 4, 5, 6, 7, 8, 9, 10, 11, 12, 13, 14, 15, 16, 17, 18, 19, 20, 21, 22, 23, 24, 25, 29, 30, 31, 32], [0, 1, 2, 3, 4, 5, 6, 7, 8, 9, 10, 11, 12, 13, 14, 15, 16, 17, 18, 19, 20, 21, 22, 23, 24, 25, 28, 29, 30, 31, 32, 33], [0, 1, 2, 3, 4, 5, 6, 7, 8, 9, 10, 11, 12, 13, 14, 15, 16, 17, 18, 19, 20, 21, 22, 23, 24, 25, 28, 29, 30, 31, 32, 33, 34], [0, 1, 2, 3, 4, 5, 6, 7, 8, 9, 10, 11, 12, 13, 14, 15, 16, 17, 18, 19, 20, 21, 22, 23, 24, 25, 28, 29, 30, 31, 32, 33, 34, 35], [0, 1, 2, 3, 4, 5, 6, 7, 8, 9, 10, 11, 12, 13, 14, 15, 16, 17, 18, 19, 20, 21, 22, 23, 24, 25, 26, 27, 28, 29, 30, 31, 32, 33, 34, 35, 36], [0, 1, 2, 3, 4, 5, 6, 7, 8, 9, 10, 11, 12, 13, 14, 15, 16, 17, 18, 19, 20, 21, 22, 23, 24, 25, 26, 27, 28, 29, 30, 31, 32, 33, 34, 35, 36, 37], [0, 1, 2, 3, 4, 5, 6, 7, 8, 9, 10, 11, 12, 13, 14, 15, 16, 17, 18, 19, 20, 21, 22, 23, 24, 25, 26, 27, 28, 29, 30, 31, 32, 33, 34, 35, 36, 37, 38]]) [[0, 1, 2, 3, 4, 5, 6, 7, 8, 9, 10, 11, 12, 13, 14, 15, 16, 17, 18, 19, 20, 21, 22, 23, 24, 25, 26, 27, 28, 29, 30, 31, 32, 33, 34, 35, 36, 37, 38, 39]] (by kernel_rfl) (by kernel_rfl) (NoPanic.seq (NoPanic.block (NoPanic.seq (NoPanic.seq (NoPanic.block (NoPanic.block (NoPanic.seq (NoPanic.seq (NoPanic.block (NoPanic.seq (NoPanic.body))))))))))) ?_
         have hS7784 := hS7608.drew
         revert hS7784
         generalize World.drew w7607 = w7783
         intro hS7784
         refine ⟨⟨hS7784.cell 1 rfl 0 rfl, hS7784.cell 0 rfl 1 rfl, hS7784.cell 1 rfl 0 rfl, hS7784.cell 1 rfl 1 rfl, hS7784.cell 1 rfl 2 rfl, hS7784.cell 1 rfl 1 rfl, hS7784.cell 0 rfl 0 rfl, hS7784.cell 1 rfl 0 rfl, hS7784.cell 1 rfl 1 rfl, hS7784.cell 1 rfl 2 rfl, trivial⟩, forallC ?_ (forallN)⟩
         refine segF 6 [.v (iv p1.Width)] [0, 3, 6, 7, 8, 59] [(0, (.slice A_p0 p0.length c_p0)), (3, (pt g5742)), (6, (iv x7142)), (7, (iv x7589)), (8, (pt g7603)), (59, (.bool (decide (w64 (x7589 + 1) < p1.Width))))] [] [0] [(3, ⟨g5742, 0, none⟩, (iv p1.Width))] (fun fb => by kernel_rfl) rfl trivial rfl ?_
         refine WL.setB 59 h7711 rfl ?_
         refine segF 13 [.v (iv ((rdD p0 t7597 z_Tile).E)), .v (iv p1.Width), .v (iv p1.Height), .v (.slice A_p1_Cells p1.Cells.length c_p1_Cells)] [0, 3, 6, 7, 8, 59, 61, 62, 63, 65, 66] [(0, (.slice A_p0 p0.length c_p0)), (3, (pt g5742)), (6, (iv x7142)), (7, (iv x7589)), (8, (pt g7603)), (59, (.bool true)), (61, (iv ((rdD p0 t7597 z_Tile).E))), (62, (.slice A_p0 p0.length c_p0)), (63, (.agg #[(iv p1.Width), (iv p1.Height), (.slice A_p1_Cells p1.Cells.length c_p1_Cells)])), (65, (iv (w64 (x7589 + 1)))), (66, (iv x7142))] [] [1, 2, 3, 4] [(7, ⟨g7603, 1, none⟩, (iv ((rdD p0 t7597 z_Tile).E))), (9, ⟨g5742, 0, none⟩, (iv p1.Width)), (9, ⟨g5742, 1, none⟩, (iv p1.Height)), (9, ⟨g5742, 2, none⟩, (.slice A_p1_Cells p1.Cells.length c_p1_Cells))] (fun fb => by kernel_rfl) rfl trivial rfl ?_
         obtain ⟨t7785, ht7786, hx7710⟩ := bind_some hx7710
         refine WL.call (some 67) 37 #[(.agg #[(iv p1.Width), (iv p1.Height), (.slice A_p1_Cells p1.Cells.length c_p1_Cells)]), (iv (w64 (x7589 + 1))), (iv x7142)] (fun fb => by kernel_rfl) (ref01_Cell_calls p1 (w64 (x7589 + 1)) x7142 A_p1_Cells c_p1_Cells t7785 _ (hS7784.rd 1) ht7786) (fun v w7787 hR7788 => ?_)
         obtain ⟨rfl, hk_⟩ := hR7788
         have hS7789 := hS7784.keepN hk_
         refine ⟨⟨hS7789.cell 0 rfl 1 rfl, hS7789.cell 1 rfl 1 rfl, hS7789.cell 0 rfl 0 rfl, hS7789.cell 1 rfl 0 rfl, hS7789.cell 1 rfl 1 rfl, hS7789.cell 1 rfl 2 rfl, trivial⟩, ?_⟩
         obtain ⟨h7790, hx7710⟩ := as_some hx7710
         refine seg 20 [.v (iv ((rdD p0 t7785 z_Tile).W))] [0, 3, 6, 7, 8, 73] [(0, (.slice A_p0 p0.length c_p0)), (3, (pt g5742)), (6, (iv x7142)), (7, (iv x7589)), (8, (pt g7603)), (73, (.bool (((rdD p0 t7597 z_Tile).E) != ((rdD p0 t7785 z_Tile).W))))] [.idx A_p0 t7785 p0.length, .cell (((adr A_p0).add ((t7785).toNat * 4)).add 3) (iv ((rdD p0 t7785 z_Tile).W))] (fun fb => by kernel_rfl) rfl ⟨rowR.adr (hS7789.rd 0).1 h7790.1 h7790.2, rowR.cell (hS7789.rd 0).1 z_Tile h7790.1 h7790.2 3 rfl, trivial⟩ ?_
         refine WL.cutV (T := Bool) 40 (fun t => [(93, (.bool t)), (0, (.slice A_p0 p0.length c_p0)), (3, (pt g5742)), (6, (iv x7142)), (7, (iv x7589))]) (fun t => (((rdD p0 t7597 z_Tile).E) != ((rdD p0 t7785 z_Tile).W)) = t) (fun K => ?_) ?_
         ·
          rcases Bool.eq_false_or_eq_true (((rdD p0 t7597 z_Tile).E) != ((rdD p0 t7785 z_Tile).W)) with h7791 | h7791
          ·
           refine WL.setB 73 h7791 rfl ?_
           refine seg 40 [] [0, 3, 6, 7, 93] [(0, (.slice A_p0 p0.length c_p0)), (3, (pt g5742)), (6, (iv x7142)), (7, (iv x7589)), (93, (.bool true))] [] (fun fb => by kernel_rfl) rfl trivial ?_
           exact WL.toV K true [93, 0, 3, 6, 7] rfl (by first | (rw [h7791]; done) | (rw [h7791]; rfl))
          refine WL.setB 73 h7791 rfl ?_
          refine segF 26 [.v (iv p1.Height)] [0, 3, 6, 7, 8, 73, 79] [(0, (.slice A_p0 p0.length c_p0)), (3, (pt g5742)), (6, (iv x7142)), (7, (iv x7589)), (8, (pt g7603)), (73, (.bool false)), (79, (.bool (decide (w64 (x7142 + 1) < p1.Height))))] [] [5] [(23, ⟨g5742, 1, none⟩, (iv p1.Height))] (fun fb => by kernel_rfl) rfl trivial rfl ?_
          refine WL.setB 79 h7718 rfl ?_
          refine seg 40 [] [0, 3, 6, 7, 93] [(0, (.slice A_p0 p0.length c_p0)), (3, (pt g5742)), (6, (iv x7142)), (7, (iv x7589)), (93, (.bool false))] [] (fun fb => by kernel_rfl) rfl trivial ?_
          exact WL.toV K false [93, 0, 3, 6, 7] rfl (by first | (rw [h7791]; done) | (rw [h7791]; rfl))
         rintro b7792 rfl
         refine WL.done rfl ?_
         injection hx7710 with hx7710
         exact WX.to Kx7709 (((rdD p0 t7597 z_Tile).E) != ((rdD p0 t7785 z_Tile).W)) [0, 3, 6, 7, 93] rfl ⟨(hS7789.subR [0, 1]).sub [1] (by decide), hx7710.symm⟩
        rcases br_some hx7710 with ⟨h7793, hx7710⟩ | ⟨h7793, hx7710⟩
        ·
         refine WC.regionD ([(3, ⟨g5742, 0, none⟩, (iv p1.Width)), (23, ⟨g5742, 1, none⟩, (iv p1.Height)), (27, ⟨g7603, 0, none⟩, (iv ((rdD p0 t7597 z_Tile).N))), (29, ⟨g5742, 0, none⟩, (iv p1.Width)), (29, ⟨g5742, 1, none⟩, (iv p1.Height)), (29, ⟨g5742, 2, none⟩, (.slice A_p1_Cells p1.Cells.length c_p1_Cells))], [0, 1, 2, 3, 4, 5, 6, 7, 8, 9, 10, 11, 12, 14, 15, 17, 18, 19, 20, 21, 22, 23, 24, 25, 26, 27, 28, 29, 30, 31, 32, 34, 35, 37, 38, 39], [[], [0], [], [2], [0, 1, 2, 3], [0, 1, 2, 3, 4], [0, 1, 2, 3, 4, 5], [0, 1, 2, 3, 4, 5, 6], [0, 1, 2, 3, 4, 5], [0, 1, 2, 3, 4, 5], [0, 1, 2, 3, 4, 5], [0, 1, 2, 3, 4, 5, 10], [0, 1, 2, 3, 4, 5], [0, 1, 2, 3, 4, 5, 9, 10, 11, 12], [0, 1, 2, 3, 4, 5, 8, 9, 10, 11, 12, 13], [0, 1, 2, 3, 4, 5, 8, 9, 10, 11, 12, 13, 14], [0, 1, 2, 3, 4, 5, 8, 9, 10, 11, 12, 13, 14, 15], [0, 1, 2, 3, 4, 5, 6, 7, 8, 9, 10, 11, 12, 13, 14, 15, 16], [0, 1, 2, 3, 4, 5, 6, 7, 8, 9, 10, 11, 12, 13, 14, 15, 16, 17], [0, 1, 2, 3, 4, 5, 6, 7, 8, 9, 10, 11, 12, 13, 14, 15, 16, 17, 18], [0, 1, 2, 3, 4, 5, 6, 7, 8, 9, 10, 11, 12, 13, 14, 15, 16, 17, 18, 19], [0, 1, 2, 3, 4, 5, 6, 7, 8, 9, 10, 11, 12, 13, 14, 15, 16, 17, 18, 19, 20], [0, 1, 2, 3, 4, 5, 6, 7, 8, 9, 10, 11, 12, 13, 14, 15, 16, 17, 18, 19], [0, 1, 2, 3, 4, 5, 6, 7, 8, 9, 10, 11, 12, 13, 14, 15, 16, 17, 18, 19, 22], [0, 1, 2, 3, 4, 5, 6, 7, 8, 9, 10, 11, 12, 13, 14, 15, 16, 17, 18, 19, 20, 21, 22, 23], [0, 1, 2, 3, 4, 5, 6, 7, 8, 9, 10, 11, 12, 13, 14, 15, 16, 17, 18, 19, 20, 21, 22, 23, 24], [0, 1, 2, 3, 4, 5, 6, 7, 8, 9, 10, 11, 12, 13, 14, 15, 16, 17, 18, 19, 20, 21, 22, 23, 24, 25], [0, 1, 2, 3, 4, 5, 6, 7, 8, 9, 10, 11, 12, 13, 14, 15, 16, 17, 18, 19, 20, 21, 22, 23, 24, 25, 26], [0, 1, 2, 3, 4, 5, 6, 7, 8, 9, 10, 11, 12, 13, 14, 15, 16, 17, 18, 19, 20, 21, 22, 23, 24, 25], [0, 1, 2, 3, 4, 5, 6, 7, 8, 9, 10, 11, 12, 13, 14, 15, 16, 17, 18, 19, 20, 21, 22, 23, 24, 25], [0, 1, 2, 3, 4, 5, 6, 7, 8, 9, 10, 11, 12, 13, 14, 15, 16, 17, 18, 19, 20, 21, 22, 23, 24, 25], [0, 1, 2, 3, 4, 5, 6, 7, 8, 9, 10, 11, 12, 13, 14, 15, 16, 17, 18, 19, 20, 21, 22, 23, 24, 25], [0, 1, 2, 3, 4, 5, 6, 7, 8, 9, 10, 11, 12, 13, 14, 15, 16, 17, 18, 19, 20, 21, 22, 23, 24, 25, 31], [0, 1, 2, 3, 4, 5, 6, 7, 8, 9, 10, 11, 12, 13, 14, 15, 16, 17, 18, 19, 20, 21, 22, 23, 24, 25, 29, 30, 31, 32], [0, 1, 2, 3, 4, 5, 6, 7, 8, 9, 10, 11, 12, 13, 14, 15, 16, 17, 18, 19, 20, 21, 22, 23, 24, 25, 28, 29, 30, 31, 32, 33], [0, 1, 2, 3, 4, 5, 6, 7, 8, 9, 10, 11, 12, 13, 14, 15, 16, 17, 18, 19, 20, 21, 22, 23, 24, 25, 28, 29, 30, 31, 32, 33, 34], [0, 1, 2, 3, 4, 5, 6, 7, 8, 9, 10, 11, 12, 13, 14, 15, 16, 17, 18, 19, 20, 21, 22, 23, 24, 25, 28, 29, 30, 31, 32, 33, 34, 35], [0, 1, 2, 3, 4, 5, 6, 7, 8, 9, 10, 11, 12, 13, 14, 15, 16, 17, 18, 19, 20, 21, 22, 23, 24, 25, 26, 27, 28, 29, 30, 31, 32, 33, 34, 35, 36], [0, 1, 2, 3, 4, 5, 6, 7, 8, 9, 10, 11, 12, 13, 14, 15, 16, 17, 18, 19, 20, 21, 22, 23, 24, 25, 26, 27, 28, 29, 30, 31, 32, 33, 34, 35, 36, 37], [0, 1, 2, 3, 4, 5, 6, 7, 8, 9, 10, 11, 12, 13, 14, 15, 16, 17, 18, 19, 20, 21, 22, 23, 24, 25, 26, 27, 28, 29, 30, 31, 32, 33, 34, 35, 36, 37, 38]]) [[0, 1, 2, 3, 4, 5, 6, 7, 8, 9, 10, 11, 12, 13, 14, 15, 16, 17, 18, 19, 20, 21, 22, 23, 24, 25, 26, 27, 28, 29, 30, 31, 32, 33, 34, 35, 36, 37, 38, 39]] (by kernel_rfl) (by kernel_rfl) (NoPanic.seq (NoPanic.block (NoPanic.seq (NoPanic.seq (NoPanic.block (NoPanic.block (NoPanic.seq (NoPanic.seq (NoPanic.block (NoPanic.seq (NoPanic.body))))))))))) ?_
         have hS7801 := hS7608.drew
         revert hS7801
         generalize World.drew w7607 = w7800
         intro hS7801
         refine ⟨⟨hS7801.cell 1 rfl 0 rfl, hS7801.cell 1 rfl 1 rfl, hS7801.cell 0 rfl 0 rfl, hS7801.cell 1 rfl 0 rfl, hS7801.cell 1 rfl 1 rfl, hS7801.cell 1 rfl 2 rfl, trivial⟩, forallC ?_ (forallN)⟩
         refine segF 6 [.v (iv p1.Width)] [0, 3, 6, 7, 8, 59] [(0, (.slice A_p0 p0.length c_p0)), (3, (pt g5742)), (6, (iv x7142)), (7, (iv x7589)), (8, (pt g7603)), (59, (.bool (decide (w64 (x7589 + 1) < p1.Width))))] [] [0] [(3, ⟨g5742, 0, none⟩, (iv p1.Width))] (fun fb => by kernel_rfl) rfl trivial rfl ?_
         refine WL.setB 59 h7711 rfl ?_
         refine segF 26 [.v (iv p1.Height)] [0, 3, 6, 7, 8, 73, 79] [(0, (.slice A_p0 p0.length c_p0)), (3, (pt g5742)), (6, (iv x7142)), (7, (iv x7589)), (8, (pt g7603)), (73, (.bool false)), (79, (.bool (decide (w64 (x7142 + 1) < p1.Height))))] [] [1] [(23, ⟨g5742, 1, none⟩, (iv p1.Height))] (fun fb => by kernel_rfl) rfl trivial rfl ?_
         refine WL.setB 79 h7793 rfl ?_
         refine segF 33 [.v (iv ((rdD p0 t7597 z_Tile).N)), .v (iv p1.Width), .v (iv p1.Height), .v (.slice A_p1_Cells p1.Cells.length c_p1_Cells)] [0, 3, 6, 7, 73, 79, 81, 82, 83, 84, 86] [(0, (.slice A_p0 p0.length c_p0)), (3, (pt g5742)), (6, (iv x7142)), (7, (iv x7589)), (73, (.bool false)), (79, (.bool true)), (81, (iv ((rdD p0 t7597 z_Tile).N))), (82, (.slice A_p0 p0.length c_p0)), (83, (.agg #[(iv p1.Width), (iv p1.Height), (.slice A_p1_Cells p1.Cells.length c_p1_Cells)])), (84, (iv x7589)), (86, (iv (w64 (x7142 + 1))))] [] [2, 3, 4, 5] [(27, ⟨g7603, 0, none⟩, (iv ((rdD p0 t7597 z_Tile).N))), (29, ⟨g5742, 0, none⟩, (iv p1.Width)), (29, ⟨g5742, 1, none⟩, (iv p1.Height)), (29, ⟨g5742, 2, none⟩, (.slice A_p1_Cells p1.Cells.length c_p1_Cells))] (fun fb => by kernel_rfl) rfl trivial rfl ?_
         obtain ⟨t7802, ht7803, hx7710⟩ := bind_some hx7710
         refine WL.call (some 87) 37 #[(.agg #[(iv p1.Width), (iv p1.Height), (.slice A_p1_Cells p1.Cells.length c_p1_Cells)]), (iv x7589), (iv (w64 (x7142 + 1)))] (fun fb => by kernel_rfl) (ref01_Cell_calls p1 x7589 (w64 (x7142 + 1)) A_p1_Cells c_p1_Cells t7802 _ (hS7801.rd 1) ht7803) (fun v w7804 hR7805 => ?_)
         obtain ⟨rfl, hk_⟩ := hR7805
         have hS7806 := hS7801.keepN hk_
         refine ⟨⟨hS7806.cell 0 rfl 0 rfl, trivial⟩, ?_⟩
         obtain ⟨h7807, hx7710⟩ := as_some hx7710
         refine seg 40 [.v (iv ((rdD p0 t7802 z_Tile).S))] [0, 3, 6, 7, 93] [(0, (.slice A_p0 p0.length c_p0)), (3, (pt g5742)), (6, (iv x7142)), (7, (iv x7589)), (93, (.bool (((rdD p0 t7597 z_Tile).N) != ((rdD p0 t7802 z_Tile).S))))] [.idx A_p0 t7802 p0.length, .cell (((adr A_p0).add ((t7802).toNat * 4)).add 2) (iv ((rdD p0 t7802 z_Tile).S))] (fun fb => by kernel_rfl) rfl ⟨rowR.adr (hS7806.rd 0).1 h7807.1 h7807.2, rowR.cell (hS7806.rd 0).1 z_Tile h7807.1 h7807.2 2 rfl, trivial⟩ ?_
         refine WL.done rfl ?_
         injection hx7710 with hx7710
         exact WX.to Kx7709 (((rdD p0 t7597 z_Tile).N) != ((rdD p0 t7802 z_Tile).S)) [0, 3, 6, 7, 93] rfl ⟨(hS7806.subR [0, 1]).sub [1] (by decide), hx7710.symm⟩
        refine WC.regionD ([(3, ⟨g5742, 0, none⟩, (iv p1.Width)), (23, ⟨g5742, 1, none⟩, (iv p1.Height)), (27, ⟨g7603, 0, none⟩, (iv ((rdD p0 t7597 z_Tile).N))), (29, ⟨g5742, 0, none⟩, (iv p1.Width)), (29, ⟨g5742, 1, none⟩, (iv p1.Height)), (29, ⟨g5742, 2, none⟩, (.slice A_p1_Cells p1.Cells.length c_p1_Cells))], [0, 1, 2, 3, 4, 5, 6, 7, 8, 9, 10, 11, 12, 14, 15, 17, 18, 19, 20, 21, 22, 23, 24, 25, 26, 27, 28, 29, 30, 31, 32, 34, 35, 37, 38, 39], [[], [0], [], [2], [0, 1, 2, 3], [0, 1, 2, 3, 4], [0, 1, 2, 3, 4, 5], [0, 1, 2, 3, 4, 5, 6], [0, 1, 2, 3, 4, 5], [0, 1, 2, 3, 4, 5], [0, 1, 2, 3, 4, 5], [0, 1, 2, 3, 4, 5, 10], [0, 1, 2, 3, 4, 5], [0, 1, 2, 3, 4, 5, 9, 10, 11, 12], [0, 1, 2, 3, 4, 5, 8, 9, 10, 11, 12, 13], [0, 1, 2, 3, 4, 5, 8, 9, 10, 11, 12, 13, 14], [0, 1, 2, 3, 4, 5, 8, 9, 10, 11, 12, 13, 14, 15], [0, 1, 2, 3, 4, 5, 6, 7, 8, 9, 10, 11, 12, 13, 14, 15, 16], [0, 1, 2, 3, 4, 5, 6, 7, 8, 9, 10, 11, 12, 13, 14, 15, 16, 17], [0, 1, 2, 3, 4, 5, 6, 7, 8, 9, 10, 11, 12, 13, 14, 15, 16, 17, 18], [0, 1, 2, 3, 4, 5, 6, 7, 8, 9, 10, 11, 12, 13, 14, 15, 16, 17, 18, 19], [0, 1, 2, 3, 4, 5, 6, 7, 8, 9, 10, 11, 12, 13, 14, 15, 16, 17, 18, 19, 20], [0, 1, 2, 3, 4, 5, 6, 7, 8, 9, 10, 11, 12, 13, 14, 15, 16, 17, 18, 19], [0, 1, 2, 3, 4, 5, 6, 7, 8, 9, 10, 11, 12, 13, 14, 15, 16, 17, 18, 19, 22], [0, 1, 2, 3, 4, 5, 6, 7, 8, 9, 10, 11, 12, 13, 14, 15, 16, 17, 18, 19, 20, 21, 22, 23], [0, 1, 2, 3, 4, 5, 6, 7, 8, 9, 10, 11, 12, 13, 14, 15, 16, 17, 18, 19, 20, 21, 22, 23, 24], [0, 1, 2, 3, 4, 5, 6, 7, 8, 9, 10, 11, 12, 13, 14, 15, 16, 17, 18, 19, 20, 21, 22, 23, 24, 25], [0, 1, 2, 3, 4, 5, 6, 7, 8, 9, 10, 11, 12, 13, 14, 15, 16, 17, 18, 19, 20, 21, 22, 23, 24, 25, 26], [0, 1, 2, 3, 4, 5, 6, 7, 8, 9, 10, 11, 12, 13, 14, 15, 16, 17, 18, 19, 20, 21, 22, 23, 24, 25], [0, 1, 2, 3, 4, 5, 6, 7, 8, 9, 10, 11, 12, 13, 14, 15, 16, 17, 18, 19, 20, 21, 22, 23, 24, 25], [0, 1, 2, 3, 4, 5, 6, 7, 8, 9, 10, 11, 12, 13, 14, 15, 16, 17, 18, 19, 20, 21, 22, 23, 24, 25], [0, 1, 2, 3, 4, 5, 6, 7, 8, 9, 10, 11, 12, 13, 14, 15, 16, 17, 18, 19, 20, 21, 22, 23, 24, 25], [0, 1, 2, 3, 4, 5, 6, 7, 8, 9, 10, 11, 12, 13, 14, 15, 16, 17, 18, 19, 20, 21, 22, 23, 24, 25, 31], [0, 1, 2, 3, 4, 5, 6, 7, 8, 9, 10, 11, 12, 13, 14, 15, 16, 17, 18, 19, 20, 21, 22, 23, 24, 25, 29, 30, 31, 32], [0, 1, 2, 3, 4, 5, 6, 7, 8, 9, 10, 11, 12, 13, 14, 15, 16, 17, 18, 19, 20, 21, 22, 23, 24, 25, 28, 29, 30, 31, 32, 33], [0, 1, 2, 3, 4, 5, 6, 7, 8, 9, 10, 11, 12, 13, 14, 15, 16, 17, 18, 19, 20, 21, 22, 23, 24, 25, 28, 29, 30, 31, 32, 33, 34], [0, 1, 2, 3, 4, 5, 6, 7, 8, 9, 10, 11, 12, 13, 14, 15, 16, 17, 18, 19, 20, 21, 22, 23, 24, 25, 28, 29, 30, 31, 32, 33, 34, 35], [0, 1, 2, 3, 4, 5, 6, 7, 8, 9, 10, 11, 12, 13, 14, 15, 16, 17, 18, 19, 20, 21, 22, 23, 24, 25, 26, 27, 28, 29, 30, 31, 32, 33, 34, 35, 36], [0, 1, 2, 3, 4, 5, 6, 7, 8, 9, 10, 11, 12, 13, 14, 15, 16, 17, 18, 19, 20, 21, 22, 23, 24, 25, 26, 27, 28, 29, 30, 31, 32, 33, 34, 35, 36, 37], [0, 1, 2, 3, 4, 5, 6, 7, 8, 9, 10, 11, 12, 13, 14, 15, 16, 17, 18, 19, 20, 21, 22, 23, 24, 25, 26, 27, 28, 29, 30, 31, 32, 33, 34, 35, 36, 37, 38]]) [[0, 1, 2, 3, 4, 5, 6, 7, 8, 9, 10, 11, 12, 13, 14, 15, 16, 17, 18, 19, 20, 21, 22, 23, 24, 25, 26, 27, 28, 29, 30, 31, 32, 33, 34, 35, 36, 37, 38, 39]] (by kernel_rfl) (by kernel_rfl) (NoPanic.seq (NoPanic.block (NoPanic.seq (NoPanic.seq (NoPanic.block (NoPanic.block (NoPanic.seq (NoPanic.seq (NoPanic.block (NoPanic.seq (NoPanic.body))))))))))) ?_
        have hS7809 := hS7608.drew
        revert hS7809
        generalize World.drew w7607 = w7808
        intro hS7809
        refine ⟨⟨hS7809.cell 1 rfl 0 rfl, hS7809.cell 1 rfl 1 rfl, hS7809.cell 0 rfl 0 rfl, hS7809.cell 1 rfl 0 rfl, hS7809.cell 1 rfl 1 rfl, hS7809.cell 1 rfl 2 rfl, trivial⟩, forallC ?_ (forallN)⟩
        refine segF 6 [.v (iv p1.Width)] [0, 3, 6, 7, 8, 59] [(0, (.slice A_p0 p0.length c_p0)), (3, (pt g5742)), (6, (iv x7142)), (7, (iv x7589)), (8, (pt g7603)), (59, (.bool (decide (w64 (x7589 + 1) < p1.Width))))] [] [0] [(3, ⟨g5742, 0, none⟩, (iv p1.Width))] (fun fb => by kernel_rfl) rfl trivial rfl ?_
        refine WL.setB 59 h7711 rfl ?_
        refine segF 26 [.v (iv p1.Height)] [0, 3, 6, 7, 8, 73, 79] [(0, (.slice A_p0 p0.length c_p0)), (3, (pt g5742)), (6, (iv x7142)), (7, (iv x7589)), (8, (pt g7603)), (73, (.bool false)), (79, (.bool (decide (w64 (x7142 + 1) < p1.Height))))] [] [1] [(23, ⟨g5742, 1, none⟩, (iv p1.Height))] (fun fb => by kernel_rfl) rfl trivial rfl ?_
        refine WL.setB 79 h7793 rfl ?_
        refine seg 40 [] [0, 3, 6, 7, 93] [(0, (.slice A_p0 p0.length c_p0)), (3, (pt g5742)), (6, (iv x7142)), (7, (iv x7589)), (93, (.bool false))] [] (fun fb => by kernel_rfl) rfl trivial ?_
        refine WL.done rfl ?_
        injection hx7710 with hx7710
        exact WX.to Kx7709 false [0, 3, 6, 7, 93] rfl ⟨(hS7809.subR [0, 1]).sub [1] (by decide), hx7710.symm⟩
       rintro y7813 w7810 ⟨hS7811, hq7812⟩
       subst hq7812
       refine WX.next ?_
       rcases br_some hl7595 with ⟨h7814, hl7595⟩ | ⟨h7814, hl7595⟩
       ·refine WC.condT2 (fun fb => by kernel_rfl) h7814 ?_
        refine WC.seq ?_
        refine WC.region ?_
        refine seg 1 [] [4] [(4, (.bool false))] [] (fun fb => by kernel_rfl) rfl trivial ?_
        refine WL.done rfl ?_
        refine WX.next ?_
        refine WC.ret ?_
        injection hl7595 with hl7595
        subst hl7595
        injection hl7148 with hl7148
        subst hl7148
        injection hf with hf
        subst hf
        exact WX.blockR (WX.thenR (WX.thenR (WX.blockR (WX.blockR (WX.thenR (WX.thenR (WX.blockR (WX.thenR (WX.ret_ [] (.bool false) [] (fun fb => by kernel_rfl) trivial ⟨_, rfl, rfl, hS7811.keep⟩)))))))))
       refine WC.condF2 (fun fb => by kernel_rfl) h7814 ?_
       refine WC.skip ?_
       refine WX.blockN (WX.next ?_)
       refine WC.region ?_
       refine seg 3 [] [0, 3, 6, 7] [(0, (.slice A_p0 p0.length c_p0)), (3, (pt g5742)), (6, (iv x7142)), (7, (iv (w64 (x7589 + 1))))] [] (fun fb => by kernel_rfl) rfl trivial ?_
       refine WL.done rfl ?_
       exact WX.again k7592 (Nat.lt_succ_self _) (w64 (x7589 + 1)) [0, 3, 6, 7] rfl ⟨(hS7811.subR [0, 1]).sub [0] (by decide), hl7595⟩
      refine WC.condF2 (fun fb => by kernel_rfl) h7596 ?_
      refine WC.exit ?_
      injection hl7595 with hl7595
      exact WX.thenX (WX.thenX (WX.blockHere (WX.to Kx7590 () [0, 3, 6] rfl ⟨(hS7594.subR [0, 1]).sub [0] (by decide), hl7595.symm⟩)))
    rintro y7818 w7815 ⟨hS7816, hq7817⟩
    subst hq7817
    have hl7148 := sum_inr hl7148
    refine WX.blockN (WX.next ?_)
    refine WC.region ?_
    refine seg 3 [] [0, 3, 6] [(0, (.slice A_p0 p0.length c_p0)), (3, (pt g5742)), (6, (iv (w64 (x7142 + 1))))] [] (fun fb => by kernel_rfl) rfl trivial ?_
    refine WL.done rfl ?_
    exact WX.again k7145 (Nat.lt_succ_self _) (w64 (x7142 + 1)) [0, 3, 6] rfl ⟨(hS7816.subR [0, 1]).sub [0] (by decide), hl7148⟩
   refine WC.condF2 (fun fb => by kernel_rfl) h7149 ?_
   refine WC.exit ?_
   injection hl7148 with hl7148
   exact WX.thenX (WX.thenX (WX.blockHere (WX.to Kx7143 () [] rfl ⟨(hS7147.subR [0, 1]).sub [] (by decide), hl7148.symm⟩)))
 rintro y7823 w7820 ⟨hS7821, hq7822⟩
 subst hq7822
 have hf := sum_inr hf
 refine WX.next ?_
 refine WC.seq ?_
 refine WC.region ?_
 refine seg 1 [] [4] [(4, (.bool true))] [] (fun fb => by kernel_rfl) rfl trivial ?_
 refine WL.done rfl ?_
 refine WX.next ?_
 refine WC.ret ?_
 injection hf with hf
 subst hf
 exact WX.ret_ [] (.bool true) [] (fun fb => by kernel_rfl) trivial ⟨_, rfl, rfl, hS7821.keep⟩
theorem ref01_Torus_calls (k : Nat) (p0 : List Tile) (p1 : Pattern) (A_p0 : Option Addr) (c_p0 : Nat) (A_p1_Cells : Option Addr) (c_p1_Cells : Nat) (r : Bool) (w : World) (hR0 : RO NoS w (rowR enc_Tile A_p0 c_p0 p0)) (hR1 : RO NoS w (rowR encInt A_p1_Cells c_p1_Cells p1.Cells)) (hf : ref01_Torus k p0 p1 = some r) :
  CallsR Tryd.prog 73 #[(.slice A_p0 p0.length c_p0), (.agg #[(iv p1.Width), (iv p1.Height), (.slice A_p1_Cells p1.Cells.length c_p1_Cells)])] w (fun v w' => v = (.bool r) ∧ Keeps NoS w w') := by
 have hS : St NoS w w [rowR enc_Tile A_p0 c_p0 p0, rowR encInt A_p1_Cells c_p1_Cells p1.Cells] [] := St.init (ro_cons hR0 (ro_cons hR1 (ro_nil _ _)))
 refine enter 59 Tryd.func73 rfl Tryd.ntmps73 rfl ?_
 unfold ref01_Torus at hf
 refine WC.seq ?_
 refine WC.region ?_
 refine WL.new hS 3 [] (fun g => (.pointer (some ⟨g, 0, none⟩))) (.cells #[(iv p1.Width), (iv p1.Height), (.slice A_p1_Cells p1.Cells.length c_p1_Cells)] 27 (0, 0)) [] (fun fb g => by kernel_rfl) trivial (fun g5738 w5739 hS5740 => ?_)
 refine ⟨trivial, ?_⟩
 refine seg 2 [] [0, 3] [(0, (.slice A_p0 p0.length c_p0)), (3, (pt g5738))] [] (fun fb => by kernel_rfl) rfl trivial ?_
 refine WL.done rfl ?_
 refine WX.next ?_
 refine WC.seq ?_
 refine WC.seq ?_
 refine WC.region ?_
 refine seg 2 [.v (iv p1.Width), .v (iv p1.Height), .v (.slice A_p1_Cells p1.Cells.length c_p1_Cells)] [0, 3, 7, 8] [(0, (.slice A_p0 p0.length c_p0)), (3, (pt g5738)), (7, (.slice A_p0 p0.length c_p0)), (8, (.agg #[(iv p1.Width), (iv p1.Height), (.slice A_p1_Cells p1.Cells.length c_p1_Cells)]))] [.cell ⟨g5738, 0, none⟩ (iv p1.Width), .cell ⟨g5738, 1, none⟩ (iv p1.Height), .cell ⟨g5738, 2, none⟩ (.slice A_p1_Cells p1.Cells.length c_p1_Cells)] (fun fb => by kernel_rfl) rfl ⟨hS5740.cell 0 rfl 0 rfl, hS5740.cell 0 rfl 1 rfl, hS5740.cell 0 rfl 2 rfl, trivial⟩ ?_
 obtain ⟨t7825, ht7826, hf⟩ := bind_some hf
 refine WL.call (some 9) 65 #[(.slice A_p0 p0.length c_p0), (.agg #[(iv p1.Width), (iv p1.Height), (.slice A_p1_Cells p1.Cells.length c_p1_Cells)])] (fun fb => by kernel_rfl) (ref01_Of_calls _ p0 p1 A_p0 c_p0 A_p1_Cells c_p1_Cells t7825 _ (hS5740.rd 0) (hS5740.rd 1) ht7826) (fun v w7827 hR7828 => ?_)
 obtain ⟨rfl, hk_⟩ := hR7828
 have hS7829 := hS5740.keepN hk_
 refine ⟨trivial, ?_⟩
 refine seg 4 [] [0, 3, 10] [(0, (.slice A_p0 p0.length c_p0)), (3, (pt g5738)), (10, (.bool (!t7825)))] [] (fun fb => by kernel_rfl) rfl trivial ?_
 refine WL.done rfl ?_
 refine WX.next ?_
 rcases br_some hf with ⟨h7830, hf⟩ | ⟨h7830, hf⟩
 ·refine WC.condT2 (fun fb => by kernel_rfl) h7830 ?_
  refine WC.seq ?_
  refine WC.region ?_
  refine seg 1 [] [4] [(4, (.bool false))] [] (fun fb => by kernel_rfl) rfl trivial ?_
  refine WL.done rfl ?_
  refine WX.next ?_
  refine WC.ret ?_
  injection hf with hf
  subst hf
  exact WX.thenR (WX.ret_ [] (.bool false) [] (fun fb => by kernel_rfl) trivial ⟨_, rfl, rfl, hS7829.keep⟩)
 refine WC.condF2 (fun fb => by kernel_rfl) h7830 ?_
 refine WC.skip ?_
 refine WX.next ?_
 refine WC.seq ?_
 refine WC.seq ?_
 refine WC.region ?_
 refine seg 1 [] [0, 3, 5] [(0, (.slice A_p0 p0.length c_p0)), (3, (pt g5738)), (5, (iv 0))] [] (fun fb => by kernel_rfl) rfl trivial ?_
 refine WL.done rfl ?_
 refine WX.next ?_
 obtain ⟨x8027, hx8028, hf⟩ := bind_some hf
 refine WC.cutN (T := Unit) (fun t => [(0, (.slice A_p0 p0.length c_p0)), (3, (pt g5738))]) (fun t w1 => St NoS w w1 [rowR enc_Tile A_p0 c_p0 p0, rowR encInt A_p1_Cells c_p1_Cells p1.Cells] [blk g5738 (.cells #[(iv p1.Width), (iv p1.Height), (.slice A_p1_Cells p1.Cells.length c_p1_Cells)] 27 (0, 0))] ∧ x8027 = .inr t) (fun Kx8027 => ?_) ?_
 ·
  refine WC.block ?_
  refine WC.loop (T := Int) (fun t => [(0, (.slice A_p0 p0.length c_p0)), (3, (pt g5738)), (5, (iv t))]) (fun n t w1 => St NoS w w1 [rowR enc_Tile A_p0 c_p0 p0, rowR encInt A_p1_Cells c_p1_Cells p1.Cells] [blk g5738 (.cells #[(iv p1.Width), (iv p1.Height), (.slice A_p1_Cells p1.Cells.length c_p1_Cells)] 27 (0, 0))] ∧ ref01_Torus.l0 n t p0 p1 = some x8027) k 0 [0, 3, 5] rfl ⟨(hS7829.subR [0, 1]).sub [0] (by decide), hx8028⟩ ?_
  rintro k8029 x8026 w8030 ⟨hS8031, hl8032⟩
  cases k8029 with
  | zero => rw [ref01_Torus.l0] at hl8032; cases hl8032
  | succ k8029 =>
   rw [ref01_Torus.l0] at hl8032
   refine WC.seq ?_
   refine WC.seq ?_
   refine WC.region ?_
   refine seg 4 [.v (iv p1.Height)] [0, 3, 5, 14] [(0, (.slice A_p0 p0.length c_p0)), (3, (pt g5738)), (5, (iv x8026)), (14, (.bool (decide (x8026 < p1.Height))))] [.cell ⟨g5738, 1, none⟩ (iv p1.Height)] (fun fb => by kernel_rfl) rfl ⟨hS8031.cell 0 rfl 1 rfl, trivial⟩ ?_
   refine WL.done rfl ?_
   refine WX.next ?_
   rcases br_some hl8032 with ⟨h8033, hl8032⟩ | ⟨h8033, hl8032⟩
   ·refine WC.condT2 (fun fb => by kernel_rfl) h8033 ?_
    refine WC.skip ?_
    refine WX.next ?_
    refine WC.seq ?_
    refine WC.block ?_
    refine WC.seq ?_
    obtain ⟨x8085, hx8086, hl8032⟩ := bind_some hl8032
    refine WC.cutN (T := Bool) (fun t => [(0, (.slice A_p0 p0.length c_p0)), (3, (pt g5738)), (5, (iv x8026)), (34, (.bool t))]) (fun t w1 => St NoS w w1 [rowR enc_Tile A_p0 c_p0 p0, rowR encInt A_p1_Cells c_p1_Cells p1.Cells] [blk g5738 (.cells #[(iv p1.Width), (iv p1.Height), (.slice A_p1_Cells p1.Cells.length c_p1_Cells)] 27 (0, 0))] ∧ x8085 = t) (fun Kx8085 => ?_) ?_
    ·
     refine WC.regionD ([(1, ⟨g5738, 0, none⟩, (iv p1.Width)), (1, ⟨g5738, 1, none⟩, (iv p1.Height)), (1, ⟨g5738, 2, none⟩, (.slice A_p1_Cells p1.Cells.length c_p1_Cells)), (3, ⟨g5738, 0, none⟩, (iv p1.Width)), (11, ⟨g5738, 0, none⟩, (iv p1.Width)), (11, ⟨g5738, 1, none⟩, (iv p1.Height)), (11, ⟨g5738, 2, none⟩, (.slice A_p1_Cells p1.Cells.length c_p1_Cells))], [0, 1, 2, 3, 4, 5, 7, 8, 10, 11, 12, 14, 15, 17], [[], [], [], [2], [2, 3], [], [1, 2, 3, 4, 5], [0, 1, 2, 3, 4, 5, 6], [0, 1, 2, 3, 4, 5, 6, 7], [0, 1, 2, 3, 4, 5, 6, 7, 8], [], [], [], [1, 2, 3, 4, 5, 6, 11, 12], [1, 2, 3, 4, 5, 6, 10, 11, 12, 13], [1, 2, 3, 4, 5, 6, 10, 11, 12, 13, 14], [1, 2, 3, 4, 5, 6, 10, 11, 12, 13, 14, 15], [0, 1, 2, 3, 4, 5, 6, 7, 8, 9, 10, 11, 12, 13, 14, 15, 16]]) [[0, 1, 2, 3, 4, 5, 10, 11, 12, 6, 7, 8, 9, 13, 14, 15, 16, 17], [0, 1, 2, 3, 4, 5, 10, 11, 12, 6, 7, 8, 13, 14, 15, 9, 16, 17], [0, 1, 2, 3, 4, 5, 10, 11, 12, 6, 7, 8, 13, 14, 15, 16, 9, 17]] (by kernel_rfl) (by kernel_rfl) (NoPanic.seq (NoPanic.block (NoPanic.seq (NoPanic.seq (NoPanic.block (NoPanic.seq (NoPanic.body))))))) ?_
     have hS8088 := hS8031.drew
     revert hS8088
     generalize World.drew w8030 = w8087
     intro hS8088
     refine ⟨⟨hS8088.cell 0 rfl 0 rfl, hS8088.cell 0 rfl 1 rfl, hS8088.cell 0 rfl 2 rfl, hS8088.cell 0 rfl 0 rfl, hS8088.cell 0 rfl 0 rfl, hS8088.cell 0 rfl 1 rfl, hS8088.cell 0 rfl 2 rfl, trivial⟩, forallC ?_ (forallC ?_ (forallC ?_ (forallN)))⟩
     ·
      refine segF 9 [.v (iv p1.Width), .v (iv p1.Height), .v (.slice A_p1_Cells p1.Cells.length c_p1_Cells), .v (iv p1.Width), .v (iv p1.Width), .v (iv p1.Height), .v (.slice A_p1_Cells p1.Cells.length c_p1_Cells)] [0, 3, 5, 17, 18, 21, 22, 27, 28, 29] [(0, (.slice A_p0 p0.length c_p0)), (3, (pt g5738)), (5, (iv x8026)), (17, (.slice A_p0 p0.length c_p0)), (18, (.agg #[(iv p1.Width), (iv p1.Height), (.slice A_p1_Cells p1.Cells.length c_p1_Cells)])), (21, (iv (w64 (p1.Width - 1)))), (22, (iv x8026)), (27, (.slice A_p0 p0.length c_p0)), (28, (.agg #[(iv p1.Width), (iv p1.Height), (.slice A_p1_Cells p1.Cells.length c_p1_Cells)])), (29, (iv x8026))] [] [0, 1, 2, 3, 4, 5, 6] [(1, ⟨g5738, 0, none⟩, (iv p1.Width)), (1, ⟨g5738, 1, none⟩, (iv p1.Height)), (1, ⟨g5738, 2, none⟩, (.slice A_p1_Cells p1.Cells.length c_p1_Cells)), (3, ⟨g5738, 0, none⟩, (iv p1.Width)), (11, ⟨g5738, 0, none⟩, (iv p1.Width)), (11, ⟨g5738, 1, none⟩, (iv p1.Height)), (11, ⟨g5738, 2, none⟩, (.slice A_p1_Cells p1.Cells.length c_p1_Cells))] (fun fb => by kernel_rfl) rfl trivial rfl ?_
      obtain ⟨t8089, ht8090, hx8086⟩ := bind_some hx8086
      refine WL.call (some 23) 37 #[(.agg #[(iv p1.Width), (iv p1.Height), (.slice A_p1_Cells p1.Cells.length c_p1_Cells)]), (iv (w64 (p1.Width - 1))), (iv x8026)] (fun fb => by kernel_rfl) (ref01_Cell_calls p1 (w64 (p1.Width - 1)) x8026 A_p1_Cells c_p1_Cells t8089 _ (hS8088.rd 1) ht8090) (fun v w8091 hR8092 => ?_)
      obtain ⟨rfl, hk_⟩ := hR8092
      have hS8093 := hS8088.keepN hk_
      refine ⟨⟨hS8093.cell 0 rfl 0 rfl, hS8093.cell 0 rfl 1 rfl, hS8093.cell 0 rfl 2 rfl, trivial⟩, ?_⟩
      obtain ⟨h8094, hx8086⟩ := as_some hx8086
      refine seg 13 [.v (iv ((rdD p0 t8089 z_Tile).E))] [0, 3, 5, 26, 27, 28, 29] [(0, (.slice A_p0 p0.length c_p0)), (3, (pt g5738)), (5, (iv x8026)), (26, (iv ((rdD p0 t8089 z_Tile).E))), (27, (.slice A_p0 p0.length c_p0)), (28, (.agg #[(iv p1.Width), (iv p1.Height), (.slice A_p1_Cells p1.Cells.length c_p1_Cells)])), (29, (iv x8026))] [.idx A_p0 t8089 p0.length, .cell (((adr A_p0).add ((t8089).toNat * 4)).add 1) (iv ((rdD p0 t8089 z_Tile).E))] (fun fb => by kernel_rfl) rfl ⟨rowR.adr (hS8093.rd 0).1 h8094.1 h8094.2, rowR.cell (hS8093.rd 0).1 z_Tile h8094.1 h8094.2 1 rfl, trivial⟩ ?_
      obtain ⟨t8095, ht8096, hx8086⟩ := bind_some hx8086
      refine WL.call (some 30) 37 #[(.agg #[(iv p1.Width), (iv p1.Height), (.slice A_p1_Cells p1.Cells.length c_p1_Cells)]), (iv 0), (iv x8026)] (fun fb => by kernel_rfl) (ref01_Cell_calls p1 0 x8026 A_p1_Cells c_p1_Cells t8095 _ (hS8093.rd 1) ht8096) (fun v w8097 hR8098 => ?_)
      obtain ⟨rfl, hk_⟩ := hR8098
      have hS8099 := hS8093.keepN hk_
      refine ⟨trivial, ?_⟩
      obtain ⟨h8100, hx8086⟩ := as_some hx8086
      refine seg 18 [.v (iv ((rdD p0 t8095 z_Tile).W))] [0, 3, 5, 34] [(0, (.slice A_p0 p0.length c_p0)), (3, (pt g5738)), (5, (iv x8026)), (34, (.bool (((rdD p0 t8089 z_Tile).E) != ((rdD p0 t8095 z_Tile).W))))] [.idx A_p0 t8095 p0.length, .cell (((adr A_p0).add ((t8095).toNat * 4)).add 3) (iv ((rdD p0 t8095 z_Tile).W))] (fun fb => by kernel_rfl) rfl ⟨rowR.adr (hS8099.rd 0).1 h8100.1 h8100.2, rowR.cell (hS8099.rd 0).1 z_Tile h8100.1 h8100.2 3 rfl, trivial⟩ ?_
      refine WL.done rfl ?_
      injection hx8086 with hx8086
      exact WX.to Kx8085 (((rdD p0 t8089 z_Tile).E) != ((rdD p0 t8095 z_Tile).W)) [0, 3, 5, 34] rfl ⟨(hS8099.subR [0, 1]).sub [0] (by decide), hx8086.symm⟩
     ·
      refine segF 9 [.v (iv p1.Width), .v (iv p1.Height), .v (.slice A_p1_Cells p1.Cells.length c_p1_Cells), .v (iv p1.Width), .v (iv p1.Width), .v (iv p1.Height), .v (.slice A_p1_Cells p1.Cells.length c_p1_Cells)] [0, 3, 5, 17, 18, 21, 22, 27, 28, 29] [(0, (.slice A_p0 p0.length c_p0)), (3, (pt g5738)), (5, (iv x8026)), (17, (.slice A_p0 p0.length c_p0)), (18, (.agg #[(iv p1.Width), (iv p1.Height), (.slice A_p1_Cells p1.Cells.length c_p1_Cells)])), (21, (iv (w64 (p1.Width - 1)))), (22, (iv x8026)), (27, (.slice A_p0 p0.length c_p0)), (28, (.agg #[(iv p1.Width), (iv p1.Height), (.slice A_p1_Cells p1.Cells.length c_p1_Cells)])), (29, (iv x8026))] [] [0, 1, 2, 3, 4, 5, 6] [(1, ⟨g5738, 0, none⟩, (iv p1.Width)), (1, ⟨g5738, 1, none⟩, (iv p1.Height)), (1, ⟨g5738, 2, none⟩, (.slice A_p1_Cells p1.Cells.length c_p1_Cells)), (3, ⟨g5738, 0, none⟩, (iv p1.Width)), (11, ⟨g5738, 0, none⟩, (iv p1.Width)), (11, ⟨g5738, 1, none⟩, (iv p1.Height)), (11, ⟨g5738, 2, none⟩, (.slice A_p1_Cells p1.Cells.length c_p1_Cells))] (fun fb => by kernel_rfl) rfl trivial rfl ?_
      obtain ⟨t8101, ht8102, hx8086⟩ := bind_some hx8086
      refine WL.call (some 23) 37 #[(.agg #[(iv p1.Width), (iv p1.Height), (.slice A_p1_Cells p1.Cells.length c_p1_Cells)]), (iv (w64 (p1.Width - 1))), (iv x8026)] (fun fb => by kernel_rfl) (ref01_Cell_calls p1 (w64 (p1.Width - 1)) x8026 A_p1_Cells c_p1_Cells t8101 _ (hS8088.rd 1) ht8102) (fun v w8103 hR8104 => ?_)
      obtain ⟨rfl, hk_⟩ := hR8104
      have hS8105 := hS8088.keepN hk_
      refine ⟨⟨hS8105.cell 0 rfl 0 rfl, hS8105.cell 0 rfl 1 rfl, hS8105.cell 0 rfl 2 rfl, trivial⟩, ?_⟩
      obtain ⟨h8106, hx8086⟩ := as_some hx8086
      refine seg 12 [] [0, 3, 5, 25, 27, 28, 29] [(0, (.slice A_p0 p0.length c_p0)), (3, (pt g5738)), (5, (iv x8026)), (25, (.pointer (some (((adr A_p0).add ((t8101).toNat * 4)).add 1)))), (27, (.slice A_p0 p0.length c_p0)), (28, (.agg #[(iv p1.Width), (iv p1.Height), (.slice A_p1_Cells p1.Cells.length c_p1_Cells)])), (29, (iv x8026))] [.idx A_p0 t8101 p0.length] (fun fb => by kernel_rfl) rfl ⟨rowR.adr (hS8105.rd 0).1 h8106.1 h8106.2, trivial⟩ ?_
      obtain ⟨t8107, ht8108, hx8086⟩ := bind_some hx8086
      refine WL.call (some 30) 37 #[(.agg #[(iv p1.Width), (iv p1.Height), (.slice A_p1_Cells p1.Cells.length c_p1_Cells)]), (iv 0), (iv x8026)] (fun fb => by kernel_rfl) (ref01_Cell_calls p1 0 x8026 A_p1_Cells c_p1_Cells t8107 _ (hS8105.rd 1) ht8108) (fun v w8109 hR8110 => ?_)
      obtain ⟨rfl, hk_⟩ := hR8110
      have hS8111 := hS8105.keepN hk_
      refine ⟨trivial, ?_⟩
      obtain ⟨h8112, hx8086⟩ := as_some hx8086
      refine seg 18 [.v (iv ((rdD p0 t8101 z_Tile).E)), .v (iv ((rdD p0 t8107 z_Tile).W))] [0, 3, 5, 34] [(0, (.slice A_p0 p0.length c_p0)), (3, (pt g5738)), (5, (iv x8026)), (34, (.bool (((rdD p0 t8101 z_Tile).E) != ((rdD p0 t8107 z_Tile).W))))] [.idx A_p0 t8107 p0.length, .cell (((adr A_p0).add ((t8101).toNat * 4)).add 1) (iv ((rdD p0 t8101 z_Tile).E)), .cell (((adr A_p0).add ((t8107).toNat * 4)).add 3) (iv ((rdD p0 t8107 z_Tile).W))] (fun fb => by kernel_rfl) rfl ⟨rowR.adr (hS8111.rd 0).1 h8112.1 h8112.2, rowR.cell (hS8111.rd 0).1 z_Tile h8106.1 h8106.2 1 rfl, rowR.cell (hS8111.rd 0).1 z_Tile h8112.1 h8112.2 3 rfl, trivial⟩ ?_
      refine WL.done rfl ?_
      injection hx8086 with hx8086
      exact WX.to Kx8085 (((rdD p0 t8101 z_Tile).E) != ((rdD p0 t8107 z_Tile).W)) [0, 3, 5, 34] rfl ⟨(hS8111.subR [0, 1]).sub [0] (by decide), hx8086.symm⟩
     refine segF 9 [.v (iv p1.Width), .v (iv p1.Height), .v (.slice A_p1_Cells p1.Cells.length c_p1_Cells), .v (iv p1.Width), .v (iv p1.Width), .v (iv p1.Height), .v (.slice A_p1_Cells p1.Cells.length c_p1_Cells)] [0, 3, 5, 17, 18, 21, 22, 27, 28, 29] [(0, (.slice A_p0 p0.length c_p0)), (3, (pt g5738)), (5, (iv x8026)), (17, (.slice A_p0 p0.length c_p0)), (18, (.agg #[(iv p1.Width), (iv p1.Height), (.slice A_p1_Cells p1.Cells.length c_p1_Cells)])), (21, (iv (w64 (p1.Width - 1)))), (22, (iv x8026)), (27, (.slice A_p0 p0.length c_p0)), (28, (.agg #[(iv p1.Width), (iv p1.Height), (.slice A_p1_Cells p1.Cells.length c_p1_Cells)])), (29, (iv x8026))] [] [0, 1, 2, 3, 4, 5, 6] [(1, ⟨g5738, 0, none⟩, (iv p1.Width)), (1, ⟨g5738, 1, none⟩, (iv p1.Height)), (1, ⟨g5738, 2, none⟩, (.slice A_p1_Cells p1.Cells.length c_p1_Cells)), (3, ⟨g5738, 0, none⟩, (iv p1.Width)), (11, ⟨g5738, 0, none⟩, (iv p1.Width)), (11, ⟨g5738, 1, none⟩, (iv p1.Height)), (11, ⟨g5738, 2, none⟩, (.slice A_p1_Cells p1.Cells.length c_p1_Cells))] (fun fb => by kernel_rfl) rfl trivial rfl ?_
     obtain ⟨t8113, ht8114, hx8086⟩ := bind_some hx8086
     refine WL.call (some 23) 37 #[(.agg #[(iv p1.Width), (iv p1.Height), (.slice A_p1_Cells p1.Cells.length c_p1_Cells)]), (iv (w64 (p1.Width - 1))), (iv x8026)] (fun fb => by kernel_rfl) (ref01_Cell_calls p1 (w64 (p1.Width - 1)) x8026 A_p1_Cells c_p1_Cells t8113 _ (hS8088.rd 1) ht8114) (fun v w8115 hR8116 => ?_)
     obtain ⟨rfl, hk_⟩ := hR8116
     have hS8117 := hS8088.keepN hk_
     refine ⟨⟨hS8117.cell 0 rfl 0 rfl, hS8117.cell 0 rfl 1 rfl, hS8117.cell 0 rfl 2 rfl, trivial⟩, ?_⟩
     obtain ⟨h8118, hx8086⟩ := as_some hx8086
     refine seg 12 [] [0, 3, 5, 25, 27, 28, 29] [(0, (.slice A_p0 p0.length c_p0)), (3, (pt g5738)), (5, (iv x8026)), (25, (.pointer (some (((adr A_p0).add ((t8113).toNat * 4)).add 1)))), (27, (.slice A_p0 p0.length c_p0)), (28, (.agg #[(iv p1.Width), (iv p1.Height), (.slice A_p1_Cells p1.Cells.length c_p1_Cells)])), (29, (iv x8026))] [.idx A_p0 t8113 p0.length] (fun fb => by kernel_rfl) rfl ⟨rowR.adr (hS8117.rd 0).1 h8118.1 h8118.2, trivial⟩ ?_
     obtain ⟨t8119, ht8120, hx8086⟩ := bind_some hx8086
     refine WL.call (some 30) 37 #[(.agg #[(iv p1.Width), (iv p1.Height), (.slice A_p1_Cells p1.Cells.length c_p1_Cells)]), (iv 0), (iv x8026)] (fun fb => by kernel_rfl) (ref01_Cell_calls p1 0 x8026 A_p1_Cells c_p1_Cells t8119 _ (hS8117.rd 1) ht8120) (fun v w8121 hR8122 => ?_)
     obtain ⟨rfl, hk_⟩ := hR8122
     have hS8123 := hS8117.keepN hk_
     refine ⟨trivial, ?_⟩
     obtain ⟨h8124, hx8086⟩ := as_some hx8086
     refine seg 18 [.v (iv ((rdD p0 t8119 z_Tile).W)), .v (iv ((rdD p0 t8113 z_Tile).E))] [0, 3, 5, 34] [(0, (.slice A_p0 p0.length c_p0)), (3, (pt g5738)), (5, (iv x8026)), (34, (.bool (((rdD p0 t8113 z_Tile).E) != ((rdD p0 t8119 z_Tile).W))))] [.idx A_p0 t8119 p0.length, .cell (((adr A_p0).add ((t8119).toNat * 4)).add 3) (iv ((rdD p0 t8119 z_Tile).W)), .cell (((adr A_p0).add ((t8113).toNat * 4)).add 1) (iv ((rdD p0 t8113 z_Tile).E))] (fun fb => by kernel_rfl) rfl ⟨rowR.adr (hS8123.rd 0).1 h8124.1 h8124.2, rowR.cell (hS8123.rd 0).1 z_Tile h8124.1 h8124.2 3 rfl, rowR.cell (hS8123.rd 0).1 z_Tile h8118.1 h8118.2 1 rfl, trivial⟩ ?_
     refine WL.done rfl ?_
     injection hx8086 with hx8086
     exact WX.to Kx8085 (((rdD p0 t8113 z_Tile).E) != ((rdD p0 t8119 z_Tile).W)) [0, 3, 5, 34] rfl ⟨(hS8123.subR [0, 1]).sub [0] (by decide), hx8086.symm⟩
    rintro y8128 w8125 ⟨hS8126, hq8127⟩
    subst hq8127
    refine WX.next ?_
    rcases br_some hl8032 with ⟨h8129, hl8032⟩ | ⟨h8129, hl8032⟩
    ·refine WC.condT2 (fun fb => by kernel_rfl) h8129 ?_
     refine WC.seq ?_
     refine WC.region ?_
     refine seg 1 [] [4] [(4, (.bool false))] [] (fun fb => by kernel_rfl) rfl trivial ?_
     refine WL.done rfl ?_
     refine WX.next ?_
     refine WC.ret ?_
     injection hl8032 with hl8032
     subst hl8032
     injection hf with hf
     subst hf
     exact WX.blockR (WX.thenR (WX.thenR (WX.blockR (WX.thenR (WX.ret_ [] (.bool false) [] (fun fb => by kernel_rfl) trivial ⟨_, rfl, rfl, hS8126.keep⟩)))))
    refine WC.condF2 (fun fb => by kernel_rfl) h8129 ?_
    refine WC.skip ?_
    refine WX.blockN (WX.next ?_)
    refine WC.region ?_
    refine seg 3 [] [0, 3, 5] [(0, (.slice A_p0 p0.length c_p0)), (3, (pt g5738)), (5, (iv (w64 (x8026 + 1))))] [] (fun fb => by kernel_rfl) rfl trivial ?_
    refine WL.done rfl ?_
    exact WX.again k8029 (Nat.lt_succ_self _) (w64 (x8026 + 1)) [0, 3, 5] rfl ⟨(hS8126.subR [0, 1]).sub [0] (by decide), hl8032⟩
   refine WC.condF2 (fun fb => by kernel_rfl) h8033 ?_
   refine WC.exit ?_
   injection hl8032 with hl8032
   exact WX.thenX (WX.thenX (WX.blockHere (WX.to Kx8027 () [0, 3] rfl ⟨(hS8031.subR [0, 1]).sub [0] (by decide), hl8032.symm⟩)))
 rintro y8133 w8130 ⟨hS8131, hq8132⟩
 subst hq8132
 have hf := sum_inr hf
 refine WX.next ?_
 refine WC.seq ?_
 refine WC.seq ?_
 refine WC.region ?_
 refine seg 1 [] [0, 3, 6] [(0, (.slice A_p0 p0.length c_p0)), (3, (pt g5738)), (6, (iv 0))] [] (fun fb => by kernel_rfl) rfl trivial ?_
 refine WL.done rfl ?_
 refine WX.next ?_
 obtain ⟨x8331, hx8332, hf⟩ := bind_some hf
 refine WC.cutN (T := Unit) (fun t => []) (fun t w1 => St NoS w w1 [rowR enc_Tile A_p0 c_p0 p0, rowR encInt A_p1_Cells c_p1_Cells p1.Cells] [] ∧ x8331 = .inr t) (fun Kx8331 => ?_) ?_
 ·
  refine WC.block ?_
  refine WC.loop (T := Int) (fun t => [(0, (.slice A_p0 p0.length c_p0)), (3, (pt g5738)), (6, (iv t))]) (fun n t w1 => St NoS w w1 [rowR enc_Tile A_p0 c_p0 p0, rowR encInt A_p1_Cells c_p1_Cells p1.Cells] [blk g5738 (.cells #[(iv p1.Width), (iv p1.Height), (.slice A_p1_Cells p1.Cells.length c_p1_Cells)] 27 (0, 0))] ∧ ref01_Torus.l1 n t p0 p1 = some x8331) k 0 [0, 3, 6] rfl ⟨(hS8131.subR [0, 1]).sub [0] (by decide), hx8332⟩ ?_
  rintro k8333 x8330 w8334 ⟨hS8335, hl8336⟩
  cases k8333 with
  | zero => rw [ref01_Torus.l1] at hl8336; cases hl8336
  | succ k8333 =>
   rw [ref01_Torus.l1] at hl8336
   refine WC.seq ?_
   refine WC.seq ?_
   refine WC.region ?_
   refine seg 4 [.v (iv p1.Width)] [0, 3, 6, 38] [(0, (.slice A_p0 p0.length c_p0)), (3, (pt g5738)), (6, (iv x8330)), (38, (.bool (decide (x8330 < p1.Width))))] [.cell ⟨g5738, 0, none⟩ (iv p1.Width)] (fun fb => by kernel_rfl) rfl ⟨hS8335.cell 0 rfl 0 rfl, trivial⟩ ?_
   refine WL.done rfl ?_
   refine WX.next ?_
   rcases br_some hl8336 with ⟨h8337, hl8336⟩ | ⟨h8337, hl8336⟩
   ·refine WC.condT2 (fun fb => by kernel_rfl) h8337 ?_
    refine WC.skip ?_
    refine WX.next ?_
    refine WC.seq ?_
    refine WC.block ?_
    refine WC.seq ?_
    obtain ⟨x8389, hx8390, hl8336⟩ := bind_some hl8336
    refine WC.cutN (T := Bool) (fun t => [(0, (.slice A_p0 p0.length c_p0)), (3, (pt g5738)), (6, (iv x8330)), (58, (.bool t))]) (fun t w1 => St NoS w w1 [rowR enc_Tile A_p0 c_p0 p0, rowR encInt A_p1_Cells c_p1_Cells p1.Cells] [blk g5738 (.cells #[(iv p1.Width), (iv p1.Height), (.slice A_p1_Cells p1.Cells.length c_p1_Cells)] 27 (0, 0))] ∧ x8389 = t) (fun Kx8389 => ?_) ?_
    ·
     refine WC.regionD ([(1, ⟨g5738, 0, none⟩, (iv p1.Width)), (1, ⟨g5738, 1, none⟩, (iv p1.Height)), (1, ⟨g5738, 2, none⟩, (.slice A_p1_Cells p1.Cells.length c_p1_Cells)), (4, ⟨g5738, 1, none⟩, (iv p1.Height)), (11, ⟨g5738, 0, none⟩, (iv p1.Width)), (11, ⟨g5738, 1, none⟩, (iv p1.Height)), (11, ⟨g5738, 2, none⟩, (.slice A_p1_Cells p1.Cells.length c_p1_Cells))], [0, 1, 2, 3, 4, 5, 7, 8, 10, 11, 12, 14, 15, 17], [[], [], [], [], [3], [3, 4], [1, 2, 3, 4, 5], [0, 1, 2, 3, 4, 5, 6], [0, 1, 2, 3, 4, 5, 6, 7], [0, 1, 2, 3, 4, 5, 6, 7, 8], [], [], [], [1, 2, 3, 4, 5, 6, 11, 12], [1, 2, 3, 4, 5, 6, 10, 11, 12, 13], [1, 2, 3, 4, 5, 6, 10, 11, 12, 13, 14], [1, 2, 3, 4, 5, 6, 10, 11, 12, 13, 14, 15], [0, 1, 2, 3, 4, 5, 6, 7, 8, 9, 10, 11, 12, 13, 14, 15, 16]]) [[0, 1, 2, 3, 4, 5, 10, 11, 12, 6, 7, 8, 9, 13, 14, 15, 16, 17], [0, 1, 2, 3, 4, 5, 10, 11, 12, 6, 7, 8, 13, 14, 15, 9, 16, 17], [0, 1, 2, 3, 4, 5, 10, 11, 12, 6, 7, 8, 13, 14, 15, 16, 9, 17]] (by kernel_rfl) (by kernel_rfl) (NoPanic.seq (NoPanic.block (NoPanic.seq (NoPanic.seq (NoPanic.block (NoPanic.seq (NoPanic.body))))))) ?_
     have hS8392 := hS8335.drew
     revert hS8392
     generalize World.drew w8334 = w8391
     intro hS8392
     refine ⟨⟨hS8392.cell 0 rfl 0 rfl, hS8392.cell 0 rfl 1 rfl, hS8392.cell 0 rfl 2 rfl, hS8392.cell 0 rfl 1 rfl, hS8392.cell 0 rfl 0 rfl, hS8392.cell 0 rfl 1 rfl, hS8392.cell 0 rfl 2 rfl, trivial⟩, forallC ?_ (forallC ?_ (forallC ?_ (forallN)))⟩
     ·
      refine segF 9 [.v (iv p1.Width), .v (iv p1.Height), .v (.slice A_p1_Cells p1.Cells.length c_p1_Cells), .v (iv p1.Height), .v (iv p1.Width), .v (iv p1.Height), .v (.slice A_p1_Cells p1.Cells.length c_p1_Cells)] [0, 3, 6, 41, 42, 43, 46, 51, 52, 53] [(0, (.slice A_p0 p0.length c_p0)), (3, (pt g5738)), (6, (iv x8330)), (41, (.slice A_p0 p0.length c_p0)), (42, (.agg #[(iv p1.Width), (iv p1.Height), (.slice A_p1_Cells p1.Cells.length c_p1_Cells)])), (43, (iv x8330)), (46, (iv (w64 (p1.Height - 1)))), (51, (.slice A_p0 p0.length c_p0)), (52, (.agg #[(iv p1.Width), (iv p1.Height), (.slice A_p1_Cells p1.Cells.length c_p1_Cells)])), (53, (iv x8330))] [] [0, 1, 2, 3, 4, 5, 6] [(1, ⟨g5738, 0, none⟩, (iv p1.Width)), (1, ⟨g5738, 1, none⟩, (iv p1.Height)), (1, ⟨g5738, 2, none⟩, (.slice A_p1_Cells p1.Cells.length c_p1_Cells)), (4, ⟨g5738, 1, none⟩, (iv p1.Height)), (11, ⟨g5738, 0, none⟩, (iv p1.Width)), (11, ⟨g5738, 1, none⟩, (iv p1.Height)), (11, ⟨g5738, 2, none⟩, (.slice A_p1_Cells p1.Cells.length c_p1_Cells))] (fun fb => by kernel_rfl) rfl trivial rfl ?_
      obtain ⟨t8393, ht8394, hx8390⟩ := bind_some hx8390
      refine WL.call (some 47) 37 #[(.agg #[(iv p1.Width), (iv p1.Height), (.slice A_p1_Cells p1.Cells.length c_p1_Cells)]), (iv x8330), (iv (w64 (p1.Height - 1)))] (fun fb => by kernel_rfl) (ref01_Cell_calls p1 x8330 (w64 (p1.Height - 1)) A_p1_Cells c_p1_Cells t8393 _ (hS8392.rd 1) ht8394) (fun v w8395 hR8396 => ?_)
      obtain ⟨rfl, hk_⟩ := hR8396
      have hS8397 := hS8392.keepN hk_
      refine ⟨⟨hS8397.cell 0 rfl 0 rfl, hS8397.cell 0 rfl 1 rfl, hS8397.cell 0 rfl 2 rfl, trivial⟩, ?_⟩
      obtain ⟨h8398, hx8390⟩ := as_some hx8390
      refine seg 13 [.v (iv ((rdD p0 t8393 z_Tile).N))] [0, 3, 6, 50, 51, 52, 53] [(0, (.slice A_p0 p0.length c_p0)), (3, (pt g5738)), (6, (iv x8330)), (50, (iv ((rdD p0 t8393 z_Tile).N))), (51, (.slice A_p0 p0.length c_p0)), (52, (.agg #[(iv p1.Width), (iv p1.Height), (.slice A_p1_Cells p1.Cells.length c_p1_Cells)])), (53, (iv x8330))] [.idx A_p0 t8393 p0.length, .cell ((adr A_p0).add ((t8393).toNat * 4)) (iv ((rdD p0 t8393 z_Tile).N))] (fun fb => by kernel_rfl) rfl ⟨rowR.adr (hS8397.rd 0).1 h8398.1 h8398.2, rowR.cell (hS8397.rd 0).1 z_Tile h8398.1 h8398.2 0 rfl, trivial⟩ ?_
      obtain ⟨t8399, ht8400, hx8390⟩ := bind_some hx8390
      refine WL.call (some 54) 37 #[(.agg #[(iv p1.Width), (iv p1.Height), (.slice A_p1_Cells p1.Cells.length c_p1_Cells)]), (iv x8330), (iv 0)] (fun fb => by kernel_rfl) (ref01_Cell_calls p1 x8330 0 A_p1_Cells c_p1_Cells t8399 _ (hS8397.rd 1) ht8400) (fun v w8401 hR8402 => ?_)
      obtain ⟨rfl, hk_⟩ := hR8402
      have hS8403 := hS8397.keepN hk_
      refine ⟨trivial, ?_⟩
      obtain ⟨h8404, hx8390⟩ := as_some hx8390
      refine seg 18 [.v (iv ((rdD p0 t8399 z_Tile).S))] [0, 3, 6, 58] [(0, (.slice A_p0 p0.length c_p0)), (3, (pt g5738)), (6, (iv x8330)), (58, (.bool (((rdD p0 t8393 z_Tile).N) != ((rdD p0 t8399 z_Tile).S))))] [.idx A_p0 t8399 p0.length, .cell (((adr A_p0).add ((t8399).toNat * 4)).add 2) (iv ((rdD p0 t8399 z_Tile).S))] (fun fb => by kernel_rfl) rfl ⟨rowR.adr (hS8403.rd 0).1 h8404.1 h8404.2, rowR.cell (hS8403.rd 0).1 z_Tile h8404.1 h8404.2 2 rfl, trivial⟩ ?_
      refine WL.done rfl ?_
      injection hx8390 with hx8390
      exact WX.to Kx8389 (((rdD p0 t8393 z_Tile).N) != ((rdD p0 t8399 z_Tile).S)) [0, 3, 6, 58] rfl ⟨(hS8403.subR [0, 1]).sub [0] (by decide), hx8390.symm⟩
     ·
      refine segF 9 [.v (iv p1.Width), .v (iv p1.Height), .v (.slice A_p1_Cells p1.Cells.length c_p1_Cells), .v (iv p1.Height), .v (iv p1.Width), .v (iv p1.Height), .v (.slice A_p1_Cells p1.Cells.length c_p1_Cells)] [0, 3, 6, 41, 42, 43, 46, 51, 52, 53] [(0, (.slice A_p0 p0.length c_p0)), (3, (pt g5738)), (6, (iv x8330)), (41, (.slice A_p0 p0.length c_p0)), (42, (.agg #[(iv p1.Width), (iv p1.Height), (.slice A_p1_Cells p1.Cells.length c_p1_Cells)])), (43, (iv x8330)), (46, (iv (w64 (p1.Height - 1)))), (51, (.slice A_p0 p0.length c_p0)), (52, (.agg #[(iv p1.Width), (iv p1.Height), (.slice A_p1_Cells p1.Cells.length c_p1_Cells)])), (53, (iv x8330))] [] [0, 1, 2, 3, 4, 5, 6] [(1, ⟨g5738, 0, none⟩, (iv p1.Width)), (1, ⟨g5738, 1, none⟩, (iv p1.Height)), (1, ⟨g5738, 2, none⟩, (.slice A_p1_Cells p1.Cells.length c_p1_Cells)), (4, ⟨g5738, 1, none⟩, (iv p1.Height)), (11, ⟨g5738, 0, none⟩, (iv p1.Width)), (11, ⟨g5738, 1, none⟩, (iv p1.Height)), (11, ⟨g5738, 2, none⟩, (.slice A_p1_Cells p1.Cells.length c_p1_Cells))] (fun fb => by kernel_rfl) rfl trivial rfl ?_
      obtain ⟨t8405, ht8406, hx8390⟩ := bind_some hx8390
      refine WL.call (some 47) 37 #[(.agg #[(iv p1.Width), (iv p1.Height), (.slice A_p1_Cells p1.Cells.length c_p1_Cells)]), (iv x8330), (iv (w64 (p1.Height - 1)))] (fun fb => by kernel_rfl) (ref01_Cell_calls p1 x8330 (w64 (p1.Height - 1)) A_p1_Cells c_p1_Cells t8405 _ (hS8392.rd 1) ht8406) (fun v w8407 hR8408 => ?_)
      obtain ⟨rfl, hk_⟩ := hR8408
      have hS8409 := hS8392.keepN hk_
      refine ⟨⟨hS8409.cell 0 rfl 0 rfl, hS8409.cell 0 rfl 1 rfl, hS8409.cell 0 rfl 2 rfl, trivial⟩, ?_⟩
      obtain ⟨h8410, hx8390⟩ := as_some hx8390
      refine seg 12 [] [0, 3, 6, 49, 51, 52, 53] [(0, (.slice A_p0 p0.length c_p0)), (3, (pt g5738)), (6, (iv x8330)), (49, (.pointer (some ((adr A_p0).add ((t8405).toNat * 4))))), (51, (.slice A_p0 p0.length c_p0)), (52, (.agg #[(iv p1.Width), (iv p1.Height), (.slice A_p1_Cells p1.Cells.length c_p1_Cells)])), (53, (iv x8330))] [.idx A_p0 t8405 p0.length] (fun fb => by kernel_rfl) rfl ⟨rowR.adr (hS8409.rd 0).1 h8410.1 h8410.2, trivial⟩ ?_
      obtain ⟨t8411, ht8412, hx8390⟩ := bind_some hx8390
      refine WL.call (some 54) 37 #[(.agg #[(iv p1.Width), (iv p1.Height), (.slice A_p1_Cells p1.Cells.length c_p1_Cells)]), (iv x8330), (iv 0)] (fun fb => by kernel_rfl) (ref01_Cell_calls p1 x8330 0 A_p1_Cells c_p1_Cells t8411 _ (hS8409.rd 1) ht8412) (fun v w8413 hR8414 => ?_)
      obtain ⟨rfl, hk_⟩ := hR8414
      have hS8415 := hS8409.keepN hk_
      refine ⟨trivial, ?_⟩
      obtain ⟨h8416, hx8390⟩ := as_some hx8390
      refine seg 18 [.v (iv ((rdD p0 t8405 z_Tile).N)), .v (iv ((rdD p0 t8411 z_Tile).S))] [0, 3, 6, 58] [(0, (.slice A_p0 p0.length c_p0)), (3, (pt g5738)), (6, (iv x8330)), (58, (.bool (((rdD p0 t8405 z_Tile).N) != ((rdD p0 t8411 z_Tile).S))))] [.idx A_p0 t8411 p0.length, .cell ((adr A_p0).add ((t8405).toNat * 4)) (iv ((rdD p0 t8405 z_Tile).N)), .cell (((adr A_p0).add ((t8411).toNat * 4)).add 2) (iv ((rdD p0 t8411 z_Tile).S))] (fun fb => by kernel_rfl) rfl ⟨rowR.adr (hS8415.rd 0).1 h8416.1 h8416.2, rowR.cell (hS8415.rd 0).1 z_Tile h8410.1 h8410.2 0 rfl, rowR.cell (hS8415.rd 0).1 z_Tile h8416.1 h8416.2 2 rfl, trivial⟩ ?_
      refine WL.done rfl ?_
      injection hx8390 with hx8390
      exact WX.to Kx8389 (((rdD p0 t8405 z_Tile).N) != ((rdD p0 t8411 z_Tile).S)) [0, 3, 6, 58] rfl ⟨(hS8415.subR [0, 1]).sub [0] (by decide), hx8390.symm⟩
     refine segF 9 [.v (iv p1.Width), .v (iv p1.Height), .v (.slice A_p1_Cells p1.Cells.length c_p1_Cells), .v (iv p1.Height), .v (iv p1.Width), .v (iv p1.Height), .v (.slice A_p1_Cells p1.Cells.length c_p1_Cells)] [0, 3, 6, 41, 42, 43, 46, 51, 52, 53] [(0, (.slice A_p0 p0.length c_p0)), (3, (pt g5738)), (6, (iv x8330)), (41, (.slice A_p0 p0.length c_p0)), (42, (.agg #[(iv p1.Width), (iv p1.Height), (.slice A_p1_Cells p1.Cells.length c_p1_Cells)])), (43, (iv x8330)), (46, (iv (w64 (p1.Height - 1)))), (51, (.slice A_p0 p0.length c_p0)), (52, (.agg #[(iv p1.Width), (iv p1.Height), (.slice A_p1_Cells p1.Cells.length c_p1_Cells)])), (53, (iv x8330))] [] [0, 1, 2, 3, 4, 5, 6] [(1, ⟨g5738, 0, none⟩, (iv p1.Width)), (1, ⟨g5738, 1, none⟩, (iv p1.Height)), (1, ⟨g5738, 2, none⟩, (.slice A_p1_Cells p1.Cells.length c_p1_Cells)), (4, ⟨g5738, 1, none⟩, (iv p1.Height)), (11, ⟨g5738, 0, none⟩, (iv p1.Width)), (11, ⟨g5738, 1, none⟩, (iv p1.Height)), (11, ⟨g5738, 2, none⟩, (.slice A_p1_Cells p1.Cells.length c_p1_Cells))] (fun fb => by kernel_rfl) rfl trivial rfl ?_
     obtain ⟨t8417, ht8418, hx8390⟩ := bind_some hx8390
     refine WL.call (some 47) 37 #[(.agg #[(iv p1.Width), (iv p1.Height), (.slice A_p1_Cells p1.Cells.length c_p1_Cells)]), (iv x8330), (iv (w64 (p1.Height - 1)))] (fun fb => by kernel_rfl) (ref01_Cell_calls p1 x8330 (w64 (p1.Height - 1)) A_p1_Cells c_p1_Cells t8417 _ (hS8392.rd 1) ht8418) (fun v w8419 hR8420 => ?_)
     obtain ⟨rfl, hk_⟩ := hR8420
     have hS8421 := hS8392.keepN hk_
     refine ⟨⟨hS8421.cell 0 rfl 0 rfl, hS8421.cell 0 rfl 1 rfl, hS8421.cell 0 rfl 2 rfl, trivial⟩, ?_⟩
     obtain ⟨h8422, hx8390⟩ := as_some hx8390
     refine seg 12 [] [0, 3, 6, 49, 51, 52, 53] [(0, (.slice A_p0 p0.length c_p0)), (3, (pt g5738)), (6, (iv x8330)), (49, (.pointer (some ((adr A_p0).add ((t8417).toNat * 4))))), (51, (.slice A_p0 p0.length c_p0)), (52, (.agg #[(iv p1.Width), (iv p1.Height), (.slice A_p1_Cells p1.Cells.length c_p1_Cells)])), (53, (iv x8330))] [.idx A_p0 t8417 p0.length] (fun fb => by kernel_rfl) rfl ⟨rowR.adr (hS8421.rd 0).1 h8422.1 h8422.2, trivial⟩ ?_
     obtain ⟨t8423, ht8424, hx8390⟩ := bind_some hx8390
     refine WL.call (some 54) 37 #[(.agg #[(iv p1.Width), (iv p1.Height), (.slice A_p1_Cells p1.Cells.length c_p1_Cells)]), (iv x8330), (iv 0)] (fun fb => by kernel_rfl) (ref01_Cell_calls p1 x8330 0 A_p1_Cells c_p1_Cells t8423 _ (hS8421.rd 1) ht8424) (fun v w8425 hR8426 => ?_)
     obtain ⟨rfl, hk_⟩ := hR8426
     have hS8427 := hS8421.keepN hk_
     refine ⟨trivial, ?_⟩
     obtain ⟨h8428, hx8390⟩ := as_some hx8390
     refine seg 18 [.v (iv ((rdD p0 t8423 z_Tile).S)), .v (iv ((rdD p0 t8417 z_Tile).N))] [0, 3, 6, 58] [(0, (.slice A_p0 p0.length c_p0)), (3, (pt g5738)), (6, (iv x8330)), (58, (.bool (((rdD p0 t8417 z_Tile).N) != ((rdD p0 t8423 z_Tile).S))))] [.idx A_p0 t8423 p0.length, .cell (((adr A_p0).add ((t8423).toNat * 4)).add 2) (iv ((rdD p0 t8423 z_Tile).S)), .cell ((adr A_p0).add ((t8417).toNat * 4)) (iv ((rdD p0 t8417 z_Tile).N))] (fun fb => by kernel_rfl) rfl ⟨rowR.adr (hS8427.rd 0).1 h8428.1 h8428.2, rowR.cell (hS8427.rd 0).1 z_Tile h8428.1 h8428.2 2 rfl, rowR.cell (hS8427.rd 0).1 z_Tile h8422.1 h8422.2 0 rfl, trivial⟩ ?_
     refine WL.done rfl ?_
     injection hx8390 with hx8390
     exact WX.to Kx8389 (((rdD p0 t8417 z_Tile).N) != ((rdD p0 t8423 z_Tile).S)) [0, 3, 6, 58] rfl ⟨(hS8427.subR [0, 1]).sub [0] (by decide), hx8390.symm⟩
    rintro y8432 w8429 ⟨hS8430, hq8431⟩
    subst hq8431
    refine WX.next ?_
    rcases br_some hl8336 with ⟨h8433, hl8336⟩ | ⟨h8433, hl8336⟩
    ·refine WC.condT2 (fun fb => by kernel_rfl) h8433 ?_
     refine WC.seq ?_
     refine WC.region ?_
     refine seg 1 [] [4] [(4, (.bool false))] [] (fun fb => by kernel_rfl) rfl trivial ?_
     refine WL.done rfl ?_
     refine WX.next ?_
     refine WC.ret ?_
     injection hl8336 with hl8336
     subst hl8336
     injection hf with hf
     subst hf
     exact WX.blockR (WX.thenR (WX.thenR (WX.blockR (WX.thenR (WX.ret_ [] (.bool false) [] (fun fb => by kernel_rfl) trivial ⟨_, rfl, rfl, hS8430.keep⟩)))))
    refine WC.condF2 (fun fb => by kernel_rfl) h8433 ?_
    refine WC.skip ?_
    refine WX.blockN (WX.next ?_)
    refine WC.region ?_
    refine seg 3 [] [0, 3, 6] [(0, (.slice A_p0 p0.length c_p0)), (3, (pt g5738)), (6, (iv (w64 (x8330 + 1))))] [] (fun fb => by kernel_rfl) rfl trivial ?_
    refine WL.done rfl ?_
    exact WX.again k8333 (Nat.lt_succ_self _) (w64 (x8330 + 1)) [0, 3, 6] rfl ⟨(hS8430.subR [0, 1]).sub [0] (by decide), hl8336⟩
   refine WC.condF2 (fun fb => by kernel_rfl) h8337 ?_
   refine WC.exit ?_
   injection hl8336 with hl8336
   exact WX.thenX (WX.thenX (WX.blockHere (WX.to Kx8331 () [] rfl ⟨(hS8335.subR [0, 1]).sub [] (by decide), hl8336.symm⟩)))
 rintro y8437 w8434 ⟨hS8435, hq8436⟩
 subst hq8436
 have hf := sum_inr hf
 refine WX.next ?_
 refine WC.seq ?_
 refine WC.region ?_
 refine seg 1 [] [4] [(4, (.bool true))] [] (fun fb => by kernel_rfl) rfl trivial ?_
 refine WL.done rfl ?_
 refine WX.next ?_
 refine WC.ret ?_
 injection hf with hf
 subst hf
 exact WX.ret_ [] (.bool true) [] (fun fb => by kernel_rfl) trivial ⟨_, rfl, rfl, hS8435.keep⟩
theorem ref03_Is_calls (k : Nat) (p0 : List Tile) (p1 : Pattern) (A_p0 : Option Addr) (c_p0 : Nat) (A_p1_Cells : Option Addr) (c_p1_Cells : Nat) (r : Bool) (w : World) (hR0 : RO NoS w (rowR enc_Tile A_p0 c_p0 p0)) (hR1 : RO NoS w (rowR encInt A_p1_Cells c_p1_Cells p1.Cells)) (hf : ref03_Is k p0 p1 = some r) :
  CallsR Tryd.prog 46 #[(.slice A_p0 p0.length c_p0), (.agg #[(iv p1.Width), (iv p1.Height), (.slice A_p1_Cells p1.Cells.length c_p1_Cells)])] w (fun v w' => v = (.bool r) ∧ Keeps NoS w w') := by
 have hS : St NoS w w [rowR enc_Tile A_p0 c_p0 p0, rowR encInt A_p1_Cells c_p1_Cells p1.Cells] [] := St.init (ro_cons hR0 (ro_cons hR1 (ro_nil _ _)))
 refine enter 12 Tryd.func46 rfl Tryd.ntmps46 rfl ?_
 unfold ref03_Is at hf
 refine WC.seq ?_
 refine WC.region ?_
 refine WL.new hS 3 [] (fun g => (.pointer (some ⟨g, 0, none⟩))) (.cells #[(iv p1.Width), (iv p1.Height), (.slice A_p1_Cells p1.Cells.length c_p1_Cells)] 27 (0, 0)) [] (fun fb g => by kernel_rfl) trivial (fun g5729 w5730 hS5731 => ?_)
 refine ⟨trivial, ?_⟩
 refine seg 2 [] [0, 3] [(0, (.slice A_p0 p0.length c_p0)), (3, (pt g5729))] [] (fun fb => by kernel_rfl) rfl trivial ?_
 refine WL.done rfl ?_
 refine WX.next ?_
 refine WC.seq ?_
 refine WC.region ?_
 refine seg 1 [] [0, 3, 5] [(0, (.slice A_p0 p0.length c_p0)), (3, (pt g5729)), (5, (.slice A_p0 p0.length c_p0))] [] (fun fb => by kernel_rfl) rfl trivial ?_
 obtain ⟨t5733, ht5734, hf⟩ := bind_some hf
 refine WL.call (some 6) 15 #[(.slice A_p0 p0.length c_p0)] (fun fb => by kernel_rfl) (ref01_Valid_calls _ p0 A_p0 c_p0 t5733 _ (hS5731.rd 0) ht5734) (fun v w5735 hR5736 => ?_)
 obtain ⟨rfl, hk_⟩ := hR5736
 have hS5737 := hS5731.keepN hk_
 refine ⟨trivial, ?_⟩
 refine seg 3 [] [0, 3, 7] [(0, (.slice A_p0 p0.length c_p0)), (3, (pt g5729)), (7, (.bool t5733))] [] (fun fb => by kernel_rfl) rfl trivial ?_
 obtain ⟨x8445, hx8446, hf⟩ := bind_some hf
 refine WL.cutW (T := Bool) 7 (fun t => [(11, (.bool t))]) (fun t w1 => (St NoS w w1 [rowR enc_Tile A_p0 c_p0 p0, rowR encInt A_p1_Cells c_p1_Cells p1.Cells] [] ∧ x8445 = t) ∧ CellsOK [] w1) (fun K => ?_) ?_
 ·
  rcases br_some hx8446 with ⟨h8447, hx8446⟩ | ⟨h8447, hx8446⟩
  ·
   refine WL.setB 7 h8447 rfl ?_
   refine seg 5 [.v (iv p1.Width), .v (iv p1.Height), .v (.slice A_p1_Cells p1.Cells.length c_p1_Cells)] [7, 8, 9] [(7, (.bool true)), (8, (.slice A_p0 p0.length c_p0)), (9, (.agg #[(iv p1.Width), (iv p1.Height), (.slice A_p1_Cells p1.Cells.length c_p1_Cells)]))] [.cell ⟨g5729, 0, none⟩ (iv p1.Width), .cell ⟨g5729, 1, none⟩ (iv p1.Height), .cell ⟨g5729, 2, none⟩ (.slice A_p1_Cells p1.Cells.length c_p1_Cells)] (fun fb => by kernel_rfl) rfl ⟨hS5737.cell 0 rfl 0 rfl, hS5737.cell 0 rfl 1 rfl, hS5737.cell 0 rfl 2 rfl, trivial⟩ ?_
   obtain ⟨t8448, ht8449, hx8446⟩ := bind_some hx8446
   refine WL.call (some 10) 73 #[(.slice A_p0 p0.length c_p0), (.agg #[(iv p1.Width), (iv p1.Height), (.slice A_p1_Cells p1.Cells.length c_p1_Cells)])] (fun fb => by kernel_rfl) (ref01_Torus_calls _ p0 p1 A_p0 c_p0 A_p1_Cells c_p1_Cells t8448 _ (hS5737.rd 0) (hS5737.rd 1) ht8449) (fun v w8450 hR8451 => ?_)
   obtain ⟨rfl, hk_⟩ := hR8451
   have hS8452 := hS5737.keepN hk_
   refine ⟨trivial, ?_⟩
   refine seg 7 [] [11] [(11, (.bool t8448))] [] (fun fb => by kernel_rfl) rfl trivial ?_
   injection hx8446 with hx8446
   exact WL.to K t8448 [11] rfl ⟨⟨(hS8452.subR [0, 1]).sub [] (by decide), hx8446.symm⟩, trivial⟩
  refine WL.setB 7 h8447 rfl ?_
  refine seg 7 [] [11] [(11, (.bool false))] [] (fun fb => by kernel_rfl) rfl trivial ?_
  injection hx8446 with hx8446
  exact WL.to K false [11] rfl ⟨⟨(hS5737.subR [0, 1]).sub [] (by decide), hx8446.symm⟩, trivial⟩
 rintro y8453 w8455 ⟨⟨hS8456, hq8454⟩, hF8457⟩
 subst hq8454
 refine seg 8 [] [4] [(4, (.bool x8445))] [] (fun fb => by kernel_rfl) rfl trivial ?_
 refine WL.done rfl ?_
 refine WX.next ?_
 refine WC.ret ?_
 injection hf with hf
 subst hf
 exact WX.ret_ [] (.bool x8445) [] (fun fb => by kernel_rfl) trivial ⟨_, rfl, rfl, hS8456.keep⟩
theorem ref02_Power_calls (k : Nat) (p0 : Int) (p1 : Int)  (r : Int) (w : World)  (hf : ref02_Power k p0 p1 = some r) :
  CallsR Tryd.prog 24 #[(iv p0), (iv p1)] w (fun v w' => v = (iv r) ∧ Keeps NoS w w') := by
 have hS : St NoS w w [] [] := St.init (ro_nil _ _)
 refine enter 17 Tryd.func24 rfl Tryd.ntmps24 rfl ?_
 unfold ref02_Power at hf
 refine WC.seq ?_
 refine WC.region ?_
 refine seg 1 [] [0, 1] [(0, (iv p0)), (1, (iv p1))] [] (fun fb => by kernel_rfl) rfl trivial ?_
 refine WL.done rfl ?_
 refine WX.next ?_
 refine WC.seq ?_
 refine WC.region ?_
 refine seg 1 [] [0, 1, 5] [(0, (iv p0)), (1, (iv p1)), (5, (iv 1))] [] (fun fb => by kernel_rfl) rfl trivial ?_
 refine WL.done rfl ?_
 refine WX.next ?_
 refine WC.seq ?_
 refine WC.seq ?_
 refine WC.region ?_
 refine seg 1 [] [0, 1, 5, 6] [(0, (iv p0)), (1, (iv p1)), (5, (iv 1)), (6, (iv 0))] [] (fun fb => by kernel_rfl) rfl trivial ?_
 refine WL.done rfl ?_
 refine WX.next ?_
 obtain ⟨x8574, hx8575, hf⟩ := bind_some hf
 refine WC.cutN (T := Int) (fun t => [(5, (iv t))]) (fun t w1 => St NoS w w1 [] [] ∧ x8574 = t) (fun Kx8574 => ?_) ?_
 ·
  refine WC.block ?_
  refine WC.loop (T := Int × Int) (fun t => [(0, (iv p0)), (1, (iv p1)), (5, (iv t.1)), (6, (iv t.2))]) (fun n t w1 => St NoS w w1 [] [] ∧ ref02_Power.l0 n t.1 t.2 p0 p1 = some x8574) k (1, 0) [0, 1, 5, 6] rfl ⟨(hS.subR []).sub [] (by decide), hx8575⟩ ?_
  rintro k8576 ⟨x8571, x8572⟩ w8577 ⟨hS8578, hl8579⟩
  cases k8576 with
  | zero => rw [ref02_Power.l0] at hl8579; cases hl8579
  | succ k8576 =>
   rw [ref02_Power.l0] at hl8579
   refine WC.seq ?_
   refine WC.seq ?_
   refine WC.region ?_
   refine seg 3 [] [0, 1, 5, 6, 9] [(0, (iv p0)), (1, (iv p1)), (5, (iv x8571)), (6, (iv x8572)), (9, (.bool (decide (x8572 < p1))))] [] (fun fb => by kernel_rfl) rfl trivial ?_
   refine WL.done rfl ?_
   refine WX.next ?_
   rcases br_some hl8579 with ⟨h8580, hl8579⟩ | ⟨h8580, hl8579⟩
   ·refine WC.condT2 (fun fb => by kernel_rfl) h8580 ?_
    refine WC.skip ?_
    refine WX.next ?_
    refine WC.seq ?_
    refine WC.block ?_
    refine WC.region ?_
    refine seg 5 [] [0, 1, 5, 6] [(0, (iv p0)), (1, (iv p1)), (5, (iv (minI (w64 (x8571 * p0)) 1000000))), (6, (iv x8572))] [] (fun fb => by kernel_rfl) rfl trivial ?_
    refine WL.done rfl ?_
    refine WX.blockN (WX.next ?_)
    refine WC.region ?_
    refine seg 3 [] [0, 1, 5, 6] [(0, (iv p0)), (1, (iv p1)), (5, (iv (minI (w64 (x8571 * p0)) 1000000))), (6, (iv (w64 (x8572 + 1))))] [] (fun fb => by kernel_rfl) rfl trivial ?_
    refine WL.done rfl ?_
    exact WX.again k8576 (Nat.lt_succ_self _) (minI (w64 (x8571 * p0)) 1000000, w64 (x8572 + 1)) [0, 1, 5, 6] rfl ⟨(hS8578.subR []).sub [] (by decide), hl8579⟩
   refine WC.condF2 (fun fb => by kernel_rfl) h8580 ?_
   refine WC.exit ?_
   injection hl8579 with hl8579
   exact WX.thenX (WX.thenX (WX.blockHere (WX.to Kx8574 x8571 [5] rfl ⟨(hS8578.subR []).sub [] (by decide), hl8579.symm⟩)))
 rintro y8584 w8581 ⟨hS8582, hq8583⟩
 subst hq8583
 refine WX.next ?_
 refine WC.seq ?_
 refine WC.region ?_
 refine seg 2 [] [4] [(4, (iv x8574))] [] (fun fb => by kernel_rfl) rfl trivial ?_
 refine WL.done rfl ?_
 refine WX.next ?_
 refine WC.ret ?_
 injection hf with hf
 subst hf
 exact WX.ret_ [] (iv x8574) [] (fun fb => by kernel_rfl) trivial ⟨_, rfl, rfl, hS8582.keep⟩
theorem ref02_Great_calls (k : Nat) (p0 : List Tile) (p1 : Int) (A_p0 : Option Addr) (c_p0 : Nat) (r : Bool) (w : World) (hR0 : RO NoS w (rowR enc_Tile A_p0 c_p0 p0)) (hf : ref02_Great k p0 p1 = some r) :
  CallsR Tryd.prog 19 #[(.slice A_p0 p0.length c_p0), (iv p1)] w (fun v w' => v = (.bool r) ∧ Keeps NoS w w') := by
 have hS : St NoS w w [rowR enc_Tile A_p0 c_p0 p0] [] := St.init (ro_cons hR0 (ro_nil _ _))
 refine enter 10 Tryd.func19 rfl Tryd.ntmps19 rfl ?_
 unfold ref02_Great at hf
 refine WC.seq ?_
 refine WC.region ?_
 refine seg 1 [] [0, 1] [(0, (.slice A_p0 p0.length c_p0)), (1, (iv p1))] [] (fun fb => by kernel_rfl) rfl trivial ?_
 refine WL.done rfl ?_
 refine WX.next ?_
 refine WC.seq ?_
 refine WC.region ?_
 refine seg 3 [] [6, 7] [(6, (iv (p0.length : Int))), (7, (iv p1))] [] (fun fb => by kernel_rfl) rfl trivial ?_
 obtain ⟨t8585, ht8586, hf⟩ := bind_some hf
 refine WL.call (some 8) 24 #[(iv (p0.length : Int)), (iv p1)] (fun fb => by kernel_rfl) (ref02_Power_calls _ (p0.length : Int) p1 t8585 _ ht8586) (fun v w8587 hR8588 => ?_)
 obtain ⟨rfl, hk_⟩ := hR8588
 have hS8589 := hS.keepN hk_
 refine ⟨trivial, ?_⟩
 refine seg 6 [] [4] [(4, (.bool (decide (t8585 > 5000))))] [] (fun fb => by kernel_rfl) rfl trivial ?_
 refine WL.done rfl ?_
 refine WX.next ?_
 refine WC.ret ?_
 injection hf with hf
 subst hf
 exact WX.ret_ [] (.bool (decide (t8585 > 5000))) [] (fun fb => by kernel_rfl) trivial ⟨_, rfl, rfl, hS8589.keep⟩
theorem tile_Form_calls (p0 : Pattern) (A_p0_Cells : Option Addr) (c_p0_Cells : Nat) (r : Bool) (w : World) (hR0 : RO NoS w (rowR encInt A_p0_Cells c_p0_Cells p0.Cells)) (hf : tile_Form p0 = some r) :
  CallsR Tryd.prog 74 #[(.agg #[(iv p0.Width), (iv p0.Height), (.slice A_p0_Cells p0.Cells.length c_p0_Cells)])] w (fun v w' => v = (.bool r) ∧ Keeps NoS w w') := by
 have hS : St NoS w w [rowR encInt A_p0_Cells c_p0_Cells p0.Cells] [] := St.init (ro_cons hR0 (ro_nil _ _))
 refine enter 40 Tryd.func74 rfl Tryd.ntmps74 rfl ?_
 unfold tile_Form at hf
 refine WC.seq ?_
 refine WC.region ?_
 refine WL.new hS 1 [] (fun g => (.pointer (some ⟨g, 0, none⟩))) (.cells #[(iv p0.Width), (iv p0.Height), (.slice A_p0_Cells p0.Cells.length c_p0_Cells)] 27 (0, 0)) [] (fun fb g => by kernel_rfl) trivial (fun g8762 w8763 hS8764 => ?_)
 refine ⟨trivial, ?_⟩
 refine seg 2 [] [1] [(1, (pt g8762))] [] (fun fb => by kernel_rfl) rfl trivial ?_
 refine WL.done rfl ?_
 refine WX.next ?_
 refine WC.seq ?_
 refine WC.region ?_
 refine seg 4 [.v (iv p0.Width)] [1, 6] [(1, (pt g8762)), (6, (.bool (decide (p0.Width ≥ 1))))] [.cell ⟨g8762, 0, none⟩ (iv p0.Width)] (fun fb => by kernel_rfl) rfl ⟨hS8764.cell 0 rfl 0 rfl, trivial⟩ ?_
 refine WL.cutV (T := Bool) 8 (fun t => [(10, (.bool t)), (1, (pt g8762))]) (fun t => ((decide (p0.Width ≥ 1)) && (decide (p0.Height ≥ 1))) = t) (fun K => ?_) ?_
 ·
  rcases Bool.eq_false_or_eq_true (decide (p0.Width ≥ 1)) with h8766 | h8766
  ·
   refine WL.setB 6 h8766 rfl ?_
   refine seg 8 [.v (iv p0.Height)] [1, 10] [(1, (pt g8762)), (10, (.bool (decide (p0.Height ≥ 1))))] [.cell ⟨g8762, 1, none⟩ (iv p0.Height)] (fun fb => by kernel_rfl) rfl ⟨hS8764.cell 0 rfl 1 rfl, trivial⟩ ?_
   exact WL.toV K (decide (p0.Height ≥ 1)) [10, 1] rfl (by first | (rw [h8766]; done) | (rw [h8766]; rfl))
  refine WL.setB 6 h8766 rfl ?_
  refine seg 8 [] [1, 10] [(1, (pt g8762)), (10, (.bool false))] [] (fun fb => by kernel_rfl) rfl trivial ?_
  exact WL.toV K false [10, 1] rfl (by first | (rw [h8766]; done) | (rw [h8766]; rfl))
 rintro b8767 rfl
 refine seg 9 [] [1, 11] [(1, (pt g8762)), (11, (.bool ((decide (p0.Width ≥ 1)) && (decide (p0.Height ≥ 1)))))] [] (fun fb => by kernel_rfl) rfl trivial ?_
 refine WL.cutV (T := Bool) 13 (fun t => [(15, (.bool t)), (1, (pt g8762))]) (fun t => (((decide (p0.Width ≥ 1)) && (decide (p0.Height ≥ 1))) && (decide (p0.Width ≤ 40000))) = t) (fun K => ?_) ?_
 ·
  rcases Bool.eq_false_or_eq_true ((decide (p0.Width ≥ 1)) && (decide (p0.Height ≥ 1))) with h8768 | h8768
  ·
   refine WL.setB 11 h8768 rfl ?_
   refine seg 13 [.v (iv p0.Width)] [1, 15] [(1, (pt g8762)), (15, (.bool (decide (p0.Width ≤ 40000))))] [.cell ⟨g8762, 0, none⟩ (iv p0.Width)] (fun fb => by kernel_rfl) rfl ⟨hS8764.cell 0 rfl 0 rfl, trivial⟩ ?_
   exact WL.toV K (decide (p0.Width ≤ 40000)) [15, 1] rfl (by first | (rw [h8768]; done) | (rw [h8768]; rfl))
  refine WL.setB 11 h8768 rfl ?_
  refine seg 13 [] [1, 15] [(1, (pt g8762)), (15, (.bool false))] [] (fun fb => by kernel_rfl) rfl trivial ?_
  exact WL.toV K false [15, 1] rfl (by first | (rw [h8768]; done) | (rw [h8768]; rfl))
 rintro b8769 rfl
 refine seg 14 [] [1, 16] [(1, (pt g8762)), (16, (.bool (((decide (p0.Width ≥ 1)) && (decide (p0.Height ≥ 1))) && (decide (p0.Width ≤ 40000)))))] [] (fun fb => by kernel_rfl) rfl trivial ?_
 refine WL.cutV (T := Bool) 18 (fun t => [(20, (.bool t)), (1, (pt g8762))]) (fun t => ((((decide (p0.Width ≥ 1)) && (decide (p0.Height ≥ 1))) && (decide (p0.Width ≤ 40000))) && (decide (p0.Height ≤ 40000))) = t) (fun K => ?_) ?_
 ·
  rcases Bool.eq_false_or_eq_true (((decide (p0.Width ≥ 1)) && (decide (p0.Height ≥ 1))) && (decide (p0.Width ≤ 40000))) with h8770 | h8770
  ·
   refine WL.setB 16 h8770 rfl ?_
   refine seg 18 [.v (iv p0.Height)] [1, 20] [(1, (pt g8762)), (20, (.bool (decide (p0.Height ≤ 40000))))] [.cell ⟨g8762, 1, none⟩ (iv p0.Height)] (fun fb => by kernel_rfl) rfl ⟨hS8764.cell 0 rfl 1 rfl, trivial⟩ ?_
   exact WL.toV K (decide (p0.Height ≤ 40000)) [20, 1] rfl (by first | (rw [h8770]; done) | (rw [h8770]; rfl))
  refine WL.setB 16 h8770 rfl ?_
  refine seg 18 [] [1, 20] [(1, (pt g8762)), (20, (.bool false))] [] (fun fb => by kernel_rfl) rfl trivial ?_
  exact WL.toV K false [20, 1] rfl (by first | (rw [h8770]; done) | (rw [h8770]; rfl))
 rintro b8771 rfl
 refine seg 19 [] [1, 21] [(1, (pt g8762)), (21, (.bool ((((decide (p0.Width ≥ 1)) && (decide (p0.Height ≥ 1))) && (decide (p0.Width ≤ 40000))) && (decide (p0.Height ≤ 40000)))))] [] (fun fb => by kernel_rfl) rfl trivial ?_
 refine WL.cutV (T := Bool) 26 (fun t => [(28, (.bool t)), (1, (pt g8762))]) (fun t => (((((decide (p0.Width ≥ 1)) && (decide (p0.Height ≥ 1))) && (decide (p0.Width ≤ 40000))) && (decide (p0.Height ≤ 40000))) && (decide (w64 (p0.Width * p0.Height) ≤ 40000))) = t) (fun K => ?_) ?_
 ·
  rcases Bool.eq_false_or_eq_true ((((decide (p0.Width ≥ 1)) && (decide (p0.Height ≥ 1))) && (decide (p0.Width ≤ 40000))) && (decide (p0.Height ≤ 40000))) with h8772 | h8772
  ·
   refine WL.setB 21 h8772 rfl ?_
   refine seg 26 [.v (iv p0.Width), .v (iv p0.Height)] [1, 28] [(1, (pt g8762)), (28, (.bool (decide (w64 (p0.Width * p0.Height) ≤ 40000))))] [.cell ⟨g8762, 0, none⟩ (iv p0.Width), .cell ⟨g8762, 1, none⟩ (iv p0.Height)] (fun fb => by kernel_rfl) rfl ⟨hS8764.cell 0 rfl 0 rfl, hS8764.cell 0 rfl 1 rfl, trivial⟩ ?_
   exact WL.toV K (decide (w64 (p0.Width * p0.Height) ≤ 40000)) [28, 1] rfl (by first | (rw [h8772]; done) | (rw [h8772]; rfl))
  refine WL.setB 21 h8772 rfl ?_
  refine seg 26 [] [1, 28] [(1, (pt g8762)), (28, (.bool false))] [] (fun fb => by kernel_rfl) rfl trivial ?_
  exact WL.toV K false [28, 1] rfl (by first | (rw [h8772]; done) | (rw [h8772]; rfl))
 rintro b8773 rfl
 refine seg 27 [] [1, 29] [(1, (pt g8762)), (29, (.bool (((((decide (p0.Width ≥ 1)) && (decide (p0.Height ≥ 1))) && (decide (p0.Width ≤ 40000))) && (decide (p0.Height ≤ 40000))) && (decide (w64 (p0.Width * p0.Height) ≤ 40000)))))] [] (fun fb => by kernel_rfl) rfl trivial ?_
 refine WL.cutV (T := Bool) 37 (fun t => [(39, (.bool t))]) (fun t => ((((((decide (p0.Width ≥ 1)) && (decide (p0.Height ≥ 1))) && (decide (p0.Width ≤ 40000))) && (decide (p0.Height ≤ 40000))) && (decide (w64 (p0.Width * p0.Height) ≤ 40000))) && ((p0.Cells.length : Int) == (w64 (p0.Width * p0.Height)))) = t) (fun K => ?_) ?_
 ·
  rcases Bool.eq_false_or_eq_true (((((decide (p0.Width ≥ 1)) && (decide (p0.Height ≥ 1))) && (decide (p0.Width ≤ 40000))) && (decide (p0.Height ≤ 40000))) && (decide (w64 (p0.Width * p0.Height) ≤ 40000))) with h8774 | h8774
  ·
   refine WL.setB 29 h8774 rfl ?_
   refine seg 37 [.v (.slice A_p0_Cells p0.Cells.length c_p0_Cells), .v (iv p0.Width), .v (iv p0.Height)] [39] [(39, (.bool ((p0.Cells.length : Int) == (w64 (p0.Width * p0.Height)))))] [.cell ⟨g8762, 2, none⟩ (.slice A_p0_Cells p0.Cells.length c_p0_Cells), .cell ⟨g8762, 0, none⟩ (iv p0.Width), .cell ⟨g8762, 1, none⟩ (iv p0.Height)] (fun fb => by kernel_rfl) rfl ⟨hS8764.cell 0 rfl 2 rfl, hS8764.cell 0 rfl 0 rfl, hS8764.cell 0 rfl 1 rfl, trivial⟩ ?_
   exact WL.toV K ((p0.Cells.length : Int) == (w64 (p0.Width * p0.Height))) [39] rfl (by first | (rw [h8774]; done) | (rw [h8774]; rfl))
  refine WL.setB 29 h8774 rfl ?_
  refine seg 37 [] [39] [(39, (.bool false))] [] (fun fb => by kernel_rfl) rfl trivial ?_
  exact WL.toV K false [39] rfl (by first | (rw [h8774]; done) | (rw [h8774]; rfl))
 rintro b8775 rfl
 refine seg 38 [] [2] [(2, (.bool ((((((decide (p0.Width ≥ 1)) && (decide (p0.Height ≥ 1))) && (decide (p0.Width ≤ 40000))) && (decide (p0.Height ≤ 40000))) && (decide (w64 (p0.Width * p0.Height) ≤ 40000))) && ((p0.Cells.length : Int) == (w64 (p0.Width * p0.Height))))))] [] (fun fb => by kernel_rfl) rfl trivial ?_
 refine WL.done rfl ?_
 refine WX.next ?_
 refine WC.ret ?_
 injection hf with hf
 subst hf
 exact WX.ret_ [] (.bool ((((((decide (p0.Width ≥ 1)) && (decide (p0.Height ≥ 1))) && (decide (p0.Width ≤ 40000))) && (decide (p0.Height ≤ 40000))) && (decide (w64 (p0.Width * p0.Height) ≤ 40000))) && ((p0.Cells.length : Int) == (w64 (p0.Width * p0.Height))))) [] (fun fb => by kernel_rfl) trivial ⟨_, rfl, rfl, hS8764.keep⟩
theorem tile_Repeat_calls (k : Nat) (p0 : Pattern) (p1 : Int) (p2 : Int) (A_p0_Cells : Option Addr) (c_p0_Cells : Nat) (r : Pattern × Int) (w : World) (hR0 : RO NoS w (rowR encInt A_p0_Cells c_p0_Cells p0.Cells)) (hf : tile_Repeat k p0 p1 p2 = some r) :
  CallsR Tryd.prog 47 #[(.agg #[(iv p0.Width), (iv p0.Height), (.slice A_p0_Cells p0.Cells.length c_p0_Cells)]), (iv p1), (iv p2)] w (fun v w' => ∃ (A1_ : Option Addr), ∃ (c1_ : Nat), v = (.tuple #[(.agg #[(iv r.1.Width), (iv r.1.Height), (.slice A1_ r.1.Cells.length c1_)]), (iv r.2)]) ∧ St NoS w w' [] [rowO 3 encInt A1_ c1_ r.1.Cells]) := by
 have hS : St NoS w w [rowR encInt A_p0_Cells c_p0_Cells p0.Cells] [] := St.init (ro_cons hR0 (ro_nil _ _))
 refine enter 70 Tryd.func47 rfl Tryd.ntmps47 rfl ?_
 unfold tile_Repeat at hf
 refine WC.seq ?_
 refine WC.region ?_
 refine WL.new hS 3 [] (fun g => (.pointer (some ⟨g, 0, none⟩))) (.cells #[(iv p0.Width), (iv p0.Height), (.slice A_p0_Cells p0.Cells.length c_p0_Cells)] 27 (0, 0)) [] (fun fb g => by kernel_rfl) trivial (fun g8754 w8755 hS8756 => ?_)
 refine ⟨trivial, ?_⟩
 refine WL.new hS8756 6 [] (fun g => (.pointer (some ⟨g, 0, none⟩))) (.cells #[(iv 0), (iv 0), (.slice none 0 0)] 27 (0, 0)) [] (fun fb g => by kernel_rfl) trivial (fun g8758 w8759 hS8760 => ?_)
 refine ⟨trivial, ?_⟩
 refine seg 3 [] [1, 2, 3, 6] [(1, (iv p1)), (2, (iv p2)), (3, (pt g8754)), (6, (pt g8758))] [] (fun fb => by kernel_rfl) rfl trivial ?_
 refine WL.done rfl ?_
 refine WX.next ?_
 refine WC.seq ?_
 refine WC.seq ?_
 refine WC.region ?_
 refine seg 1 [.v (iv p0.Width), .v (iv p0.Height), .v (.slice A_p0_Cells p0.Cells.length c_p0_Cells)] [1, 2, 3, 6, 11] [(1, (iv p1)), (2, (iv p2)), (3, (pt g8754)), (6, (pt g8758)), (11, (.agg #[(iv p0.Width), (iv p0.Height), (.slice A_p0_Cells p0.Cells.length c_p0_Cells)]))] [.cell ⟨g8754, 0, none⟩ (iv p0.Width), .cell ⟨g8754, 1, none⟩ (iv p0.Height), .cell ⟨g8754, 2, none⟩ (.slice A_p0_Cells p0.Cells.length c_p0_Cells)] (fun fb => by kernel_rfl) rfl ⟨hS8760.cell 1 rfl 0 rfl, hS8760.cell 1 rfl 1 rfl, hS8760.cell 1 rfl 2 rfl, trivial⟩ ?_
 obtain ⟨t8776, ht8777, hf⟩ := bind_some hf
 refine WL.call (some 12) 74 #[(.agg #[(iv p0.Width), (iv p0.Height), (.slice A_p0_Cells p0.Cells.length c_p0_Cells)])] (fun fb => by kernel_rfl) (tile_Form_calls p0 A_p0_Cells c_p0_Cells t8776 _ (hS8760.rd 0) ht8777) (fun v w8778 hR8779 => ?_)
 obtain ⟨rfl, hk_⟩ := hR8779
 have hS8780 := hS8760.keepN hk_
 refine ⟨trivial, ?_⟩
 refine seg 3 [] [1, 2, 3, 6, 13] [(1, (iv p1)), (2, (iv p2)), (3, (pt g8754)), (6, (pt g8758)), (13, (.bool (!t8776)))] [] (fun fb => by kernel_rfl) rfl trivial ?_
 refine WL.done rfl ?_
 refine WX.next ?_
 rcases br_some hf with ⟨h8781, hf⟩ | ⟨h8781, hf⟩
 ·refine WC.condT2 (fun fb => by kernel_rfl) h8781 ?_
  refine WC.seq ?_
  refine WC.region ?_
  refine seg 1 [] [6, 14] [(6, (pt g8758)), (14, (.agg #[(iv 0), (iv 0), (.slice none 0 0)]))] [] (fun fb => by kernel_rfl) rfl trivial ?_
  refine WL.store hS8780 0 rfl [(0, (iv 0)), (1, (iv 0)), (2, (.slice none 0 0))] #[(iv 0), (iv 0), (.slice none 0 0)] (fun fb => by kernel_rfl) (by kernel_rfl) rfl [1] (by decide) (by decide) (fun w8782 hS8783 => ?_)
  refine ⟨trivial, ?_⟩
  refine seg 3 [] [6, 7] [(6, (pt g8758)), (7, (iv 1))] [] (fun fb => by kernel_rfl) rfl trivial ?_
  refine WL.done rfl ?_
  refine WX.next ?_
  refine WC.ret ?_
  have hS8784 := hS8783.nilrow 3 encInt
  injection hf with hf
  subst hf
  exact WX.thenR (WX.ret_ [.v (iv 0), .v (iv 0), .v (.slice none 0 0)] (.tuple #[(.agg #[(iv 0), (iv 0), (.slice none ([] : List Int).length 0)]), (iv 1)]) [.cell ⟨g8758, 0, none⟩ (iv 0), .cell ⟨g8758, 1, none⟩ (iv 0), .cell ⟨g8758, 2, none⟩ (.slice none 0 0)] (fun fb => by kernel_rfl) ⟨hS8783.cell 0 rfl 0 rfl, hS8783.cell 0 rfl 1 rfl, hS8783.cell 0 rfl 2 rfl, trivial⟩ ⟨_, rfl, none, 0, rfl, (hS8784.sub [0] (by decide)).noR⟩)
 refine WC.condF2 (fun fb => by kernel_rfl) h8781 ?_
 refine WC.skip ?_
 refine WX.next ?_
 refine WC.seq ?_
 refine WC.seq ?_
 refine WC.region ?_
 refine seg 3 [] [1, 2, 3, 6, 17] [(1, (iv p1)), (2, (iv p2)), (3, (pt g8754)), (6, (pt g8758)), (17, (.bool (decide (p1 < 1))))] [] (fun fb => by kernel_rfl) rfl trivial ?_
 refine WL.cutV (T := Bool) 6 (fun t => [(20, (.bool t)), (1, (iv p1)), (2, (iv p2)), (3, (pt g8754)), (6, (pt g8758))]) (fun t => ((decide (p1 < 1)) || (decide (p2 < 1))) = t) (fun K => ?_) ?_
 ·
  rcases Bool.eq_false_or_eq_true (decide (p1 < 1)) with h8785 | h8785
  ·
   refine WL.setB 17 h8785 rfl ?_
   refine seg 6 [] [1, 2, 3, 6, 20] [(1, (iv p1)), (2, (iv p2)), (3, (pt g8754)), (6, (pt g8758)), (20, (.bool true))] [] (fun fb => by kernel_rfl) rfl trivial ?_
   exact WL.toV K true [20, 1, 2, 3, 6] rfl (by first | (rw [h8785]; done) | (rw [h8785]; rfl))
  refine WL.setB 17 h8785 rfl ?_
  refine seg 6 [] [1, 2, 3, 6, 20] [(1, (iv p1)), (2, (iv p2)), (3, (pt g8754)), (6, (pt g8758)), (20, (.bool (decide (p2 < 1))))] [] (fun fb => by kernel_rfl) rfl trivial ?_
  exact WL.toV K (decide (p2 < 1)) [20, 1, 2, 3, 6] rfl (by first | (rw [h8785]; done) | (rw [h8785]; rfl))
 rintro b8786 rfl
 refine WL.done rfl ?_
 refine WX.next ?_
 rcases br_some hf with ⟨h8787, hf⟩ | ⟨h8787, hf⟩
 ·refine WC.condT2 (fun fb => by kernel_rfl) h8787 ?_
  refine WC.seq ?_
  refine WC.region ?_
  refine seg 1 [] [6, 21] [(6, (pt g8758)), (21, (.agg #[(iv 0), (iv 0), (.slice none 0 0)]))] [] (fun fb => by kernel_rfl) rfl trivial ?_
  refine WL.store hS8780 0 rfl [(0, (iv 0)), (1, (iv 0)), (2, (.slice none 0 0))] #[(iv 0), (iv 0), (.slice none 0 0)] (fun fb => by kernel_rfl) (by kernel_rfl) rfl [1] (by decide) (by decide) (fun w8788 hS8789 => ?_)
  refine ⟨trivial, ?_⟩
  refine seg 3 [] [6, 7] [(6, (pt g8758)), (7, (iv 2))] [] (fun fb => by kernel_rfl) rfl trivial ?_
  refine WL.done rfl ?_
  refine WX.next ?_
  refine WC.ret ?_
  have hS8790 := hS8789.nilrow 3 encInt
  injection hf with hf
  subst hf
  exact WX.thenR (WX.ret_ [.v (iv 0), .v (iv 0), .v (.slice none 0 0)] (.tuple #[(.agg #[(iv 0), (iv 0), (.slice none ([] : List Int).length 0)]), (iv 2)]) [.cell ⟨g8758, 0, none⟩ (iv 0), .cell ⟨g8758, 1, none⟩ (iv 0), .cell ⟨g8758, 2, none⟩ (.slice none 0 0)] (fun fb => by kernel_rfl) ⟨hS8789.cell 0 rfl 0 rfl, hS8789.cell 0 rfl 1 rfl, hS8789.cell 0 rfl 2 rfl, trivial⟩ ⟨_, rfl, none, 0, rfl, (hS8790.sub [0] (by decide)).noR⟩)
 refine WC.condF2 (fun fb => by kernel_rfl) h8787 ?_
 refine WC.skip ?_
 refine WX.next ?_
 refine WC.seq ?_
 refine WC.seq ?_
 refine WC.region ?_
 refine seg 3 [] [1, 2, 3, 6, 24] [(1, (iv p1)), (2, (iv p2)), (3, (pt g8754)), (6, (pt g8758)), (24, (.bool (decide (p1 > 40000))))] [] (fun fb => by kernel_rfl) rfl trivial ?_
 refine WL.cutV (T := Bool) 6 (fun t => [(27, (.bool t)), (1, (iv p1)), (2, (iv p2)), (3, (pt g8754)), (6, (pt g8758))]) (fun t => ((decide (p1 > 40000)) || (decide (p2 > 40000))) = t) (fun K => ?_) ?_
 ·
  rcases Bool.eq_false_or_eq_true (decide (p1 > 40000)) with h8791 | h8791
  ·
   refine WL.setB 24 h8791 rfl ?_
   refine seg 6 [] [1, 2, 3, 6, 27] [(1, (iv p1)), (2, (iv p2)), (3, (pt g8754)), (6, (pt g8758)), (27, (.bool true))] [] (fun fb => by kernel_rfl) rfl trivial ?_
   exact WL.toV K true [27, 1, 2, 3, 6] rfl (by first | (rw [h8791]; done) | (rw [h8791]; rfl))
  refine WL.setB 24 h8791 rfl ?_
  refine seg 6 [] [1, 2, 3, 6, 27] [(1, (iv p1)), (2, (iv p2)), (3, (pt g8754)), (6, (pt g8758)), (27, (.bool (decide (p2 > 40000))))] [] (fun fb => by kernel_rfl) rfl trivial ?_
  exact WL.toV K (decide (p2 > 40000)) [27, 1, 2, 3, 6] rfl (by first | (rw [h8791]; done) | (rw [h8791]; rfl))
 rintro b8792 rfl
 refine seg 7 [] [1, 2, 3, 6, 28] [(1, (iv p1)), (2, (iv p2)), (3, (pt g8754)), (6, (pt g8758)), (28, (.bool ((decide (p1 > 40000)) || (decide (p2 > 40000)))))] [] (fun fb => by kernel_rfl) rfl trivial ?_
 refine WL.cutV (T := Bool) 12 (fun t => [(33, (.bool t)), (1, (iv p1)), (2, (iv p2)), (3, (pt g8754)), (6, (pt g8758))]) (fun t => (((decide (p1 > 40000)) || (decide (p2 > 40000))) || (decide (w64 (p1 * p2) > 40000))) = t) (fun K => ?_) ?_
 ·
  rcases Bool.eq_false_or_eq_true ((decide (p1 > 40000)) || (decide (p2 > 40000))) with h8793 | h8793
  ·
   refine WL.setB 28 h8793 rfl ?_
   refine seg 12 [] [1, 2, 3, 6, 33] [(1, (iv p1)), (2, (iv p2)), (3, (pt g8754)), (6, (pt g8758)), (33, (.bool true))] [] (fun fb => by kernel_rfl) rfl trivial ?_
   exact WL.toV K true [33, 1, 2, 3, 6] rfl (by first | (rw [h8793]; done) | (rw [h8793]; rfl))
  refine WL.setB 28 h8793 rfl ?_
  refine seg 12 [] [1, 2, 3, 6, 33] [(1, (iv p1)), (2, (iv p2)), (3, (pt g8754)), (6, (pt g8758)), (33, (.bool (decide (w64 (p1 * p2) > 40000))))] [] (fun fb => by kernel_rfl) rfl trivial ?_
  exact WL.toV K (decide (w64 (p1 * p2) > 40000)) [33, 1, 2, 3, 6] rfl (by first | (rw [h8793]; done) | (rw [h8793]; rfl))
 rintro b8794 rfl
 refine WL.done rfl ?_
 refine WX.next ?_
 rcases br_some hf with ⟨h8795, hf⟩ | ⟨h8795, hf⟩
 ·refine WC.condT2 (fun fb => by kernel_rfl) h8795 ?_
  refine WC.seq ?_
  refine WC.region ?_
  refine seg 1 [] [6, 34] [(6, (pt g8758)), (34, (.agg #[(iv 0), (iv 0), (.slice none 0 0)]))] [] (fun fb => by kernel_rfl) rfl trivial ?_
  refine WL.store hS8780 0 rfl [(0, (iv 0)), (1, (iv 0)), (2, (.slice none 0 0))] #[(iv 0), (iv 0), (.slice none 0 0)] (fun fb => by kernel_rfl) (by kernel_rfl) rfl [1] (by decide) (by decide) (fun w8796 hS8797 => ?_)
  refine ⟨trivial, ?_⟩
  refine seg 3 [] [6, 7] [(6, (pt g8758)), (7, (iv 4))] [] (fun fb => by kernel_rfl) rfl trivial ?_
  refine WL.done rfl ?_
  refine WX.next ?_
  refine WC.ret ?_
  have hS8798 := hS8797.nilrow 3 encInt
  injection hf with hf
  subst hf
  exact WX.thenR (WX.ret_ [.v (iv 0), .v (iv 0), .v (.slice none 0 0)] (.tuple #[(.agg #[(iv 0), (iv 0), (.slice none ([] : List Int).length 0)]), (iv 4)]) [.cell ⟨g8758, 0, none⟩ (iv 0), .cell ⟨g8758, 1, none⟩ (iv 0), .cell ⟨g8758, 2, none⟩ (.slice none 0 0)] (fun fb => by kernel_rfl) ⟨hS8797.cell 0 rfl 0 rfl, hS8797.cell 0 rfl 1 rfl, hS8797.cell 0 rfl 2 rfl, trivial⟩ ⟨_, rfl, none, 0, rfl, (hS8798.sub [0] (by decide)).noR⟩)
 refine WC.condF2 (fun fb => by kernel_rfl) h8795 ?_
 refine WC.skip ?_
 refine WX.next ?_
 refine WC.seq ?_
 refine WC.region ?_
 refine seg 3 [] [1, 2, 3, 6, 37] [(1, (iv p1)), (2, (iv p2)), (3, (pt g8754)), (6, (pt g8758)), (37, (.agg #[(iv p1), (iv p2), (.slice none 0 0)]))] [] (fun fb => by kernel_rfl) rfl trivial ?_
 refine WL.new hS8780 8 [] (fun g => (.pointer (some ⟨g, 0, none⟩))) (.cells #[(iv 0), (iv 0), (.slice none 0 0)] 27 (0, 0)) [] (fun fb g => by kernel_rfl) trivial (fun g8799 w8800 hS8801 => ?_)
 refine ⟨trivial, ?_⟩
 refine WL.store hS8801 0 rfl [(0, (iv p1)), (1, (iv p2)), (2, (.slice none 0 0))] #[(iv p1), (iv p2), (.slice none 0 0)] (fun fb => by kernel_rfl) (by kernel_rfl) rfl [1, 2] (by decide) (by decide) (fun w8803 hS8804 => ?_)
 refine ⟨trivial, ?_⟩
 refine WL.done rfl ?_
 refine WX.next ?_
 refine WC.seq ?_
 refine WC.seq ?_
 refine WC.region ?_
 refine seg 2 [] [1, 3, 6, 8, 38, 39] [(1, (iv p1)), (3, (pt g8754)), (6, (pt g8758)), (8, (pt g8799)), (38, (iv p2)), (39, (iv 0))] [] (fun fb => by kernel_rfl) rfl trivial ?_
 refine WL.done rfl ?_
 refine WX.next ?_
 have hS9074 := hS8804.nilrow 3 encInt
 obtain ⟨x9082, hx9083, hf⟩ := bind_some hf
 refine WC.cutN (T := (List Int) × (Option Addr) × Nat) (fun t => [(6, (pt g8758)), (8, (pt g8799))]) (fun t w1 => St NoS w w1 [rowR encInt A_p0_Cells c_p0_Cells p0.Cells] [blk g8758 (.cells #[(iv 0), (iv 0), (.slice none 0 0)] 27 (0, 0)), blk g8799 (.cells #[(iv p1), (iv p2), (.slice t.2.1 t.1.length t.2.2)] 27 (0, 0)), rowO 3 encInt t.2.1 t.2.2 t.1] ∧ x9082 = t.1) (fun Kx9082 => ?_) ?_
 ·
  refine WC.block ?_
  refine WC.loop (T := ((List Int) × Int) × (Option Addr) × Nat) (fun t => [(1, (iv p1)), (3, (pt g8754)), (6, (pt g8758)), (8, (pt g8799)), (38, (iv p2)), (39, (iv t.1.2))]) (fun n t w1 => St NoS w w1 [rowR encInt A_p0_Cells c_p0_Cells p0.Cells] [blk g8754 (.cells #[(iv p0.Width), (iv p0.Height), (.slice A_p0_Cells p0.Cells.length c_p0_Cells)] 27 (0, 0)), blk g8758 (.cells #[(iv 0), (iv 0), (.slice none 0 0)] 27 (0, 0)), blk g8799 (.cells #[(iv p1), (iv p2), (.slice t.2.1 t.1.1.length t.2.2)] 27 (0, 0)), rowO 3 encInt t.2.1 t.2.2 t.1.1] ∧ tile_Repeat.l0 n t.1.1 t.1.2 p0 p1 p2 = some x9082) k ((([] : List Int), 0), none, 0) [1, 3, 6, 8, 38, 39] rfl ⟨(hS9074.subR [0]).sub [3, 2, 1, 0] (by decide), hx9083⟩ ?_
  rintro k9084 ⟨⟨l9077, x9078⟩, A9075, c9076⟩ w9085 ⟨hS9086, hl9087⟩
  cases k9084 with
  | zero => rw [tile_Repeat.l0] at hl9087; cases hl9087
  | succ k9084 =>
   rw [tile_Repeat.l0] at hl9087
   refine WC.seq ?_
   refine WC.region ?_
   refine seg 1 [] [1, 3, 6, 8, 38, 39, 40] [(1, (iv p1)), (3, (pt g8754)), (6, (pt g8758)), (8, (pt g8799)), (38, (iv p2)), (39, (iv x9078)), (40, (.bool (decide (x9078 < p2))))] [] (fun fb => by kernel_rfl) rfl trivial ?_
   refine WL.done rfl ?_
   refine WX.next ?_
   refine WC.seq ?_
   rcases br_some hl9087 with ⟨h9088, hl9087⟩ | ⟨h9088, hl9087⟩
   ·refine WC.condT2 (fun fb => by kernel_rfl) h9088 ?_
    refine WC.skip ?_
    refine WX.next ?_
    refine WC.seq ?_
    refine WC.block ?_
    refine WC.seq ?_
    refine WC.region ?_
    refine seg 2 [] [1, 3, 6, 8, 9, 38, 39] [(1, (iv p1)), (3, (pt g8754)), (6, (pt g8758)), (8, (pt g8799)), (9, (iv x9078)), (38, (iv p2)), (39, (iv x9078))] [] (fun fb => by kernel_rfl) rfl trivial ?_
    refine WL.done rfl ?_
    refine WX.next ?_
    refine WC.seq ?_
    refine WC.region ?_
    refine seg 2 [] [1, 3, 6, 8, 9, 38, 39, 42, 43] [(1, (iv p1)), (3, (pt g8754)), (6, (pt g8758)), (8, (pt g8799)), (9, (iv x9078)), (38, (iv p2)), (39, (iv x9078)), (42, (iv p1)), (43, (iv 0))] [] (fun fb => by kernel_rfl) rfl trivial ?_
    refine WL.done rfl ?_
    refine WX.next ?_
    obtain ⟨x9172, hx9173, hl9087⟩ := bind_some hl9087
    refine WC.cutN (T := (List Int) × (Option Addr) × Nat) (fun t => [(1, (iv p1)), (3, (pt g8754)), (6, (pt g8758)), (8, (pt g8799)), (38, (iv p2)), (39, (iv x9078))]) (fun t w1 => St NoS w w1 [rowR encInt A_p0_Cells c_p0_Cells p0.Cells] [blk g8754 (.cells #[(iv p0.Width), (iv p0.Height), (.slice A_p0_Cells p0.Cells.length c_p0_Cells)] 27 (0, 0)), blk g8758 (.cells #[(iv 0), (iv 0), (.slice none 0 0)] 27 (0, 0)), blk g8799 (.cells #[(iv p1), (iv p2), (.slice t.2.1 t.1.length t.2.2)] 27 (0, 0)), rowO 3 encInt t.2.1 t.2.2 t.1] ∧ x9172 = t.1) (fun Kx9172 => ?_) ?_
    ·
     refine WC.block ?_
     refine WC.loop (T := ((List Int) × Int) × (Option Addr) × Nat) (fun t => [(1, (iv p1)), (3, (pt g8754)), (6, (pt g8758)), (8, (pt g8799)), (9, (iv x9078)), (38, (iv p2)), (39, (iv x9078)), (42, (iv p1)), (43, (iv t.1.2))]) (fun n t w1 => St NoS w w1 [rowR encInt A_p0_Cells c_p0_Cells p0.Cells] [blk g8754 (.cells #[(iv p0.Width), (iv p0.Height), (.slice A_p0_Cells p0.Cells.length c_p0_Cells)] 27 (0, 0)), blk g8758 (.cells #[(iv 0), (iv 0), (.slice none 0 0)] 27 (0, 0)), blk g8799 (.cells #[(iv p1), (iv p2), (.slice t.2.1 t.1.1.length t.2.2)] 27 (0, 0)), rowO 3 encInt t.2.1 t.2.2 t.1.1] ∧ tile_Repeat.l1 n t.1.1 t.1.2 p0 p1 x9078 = some x9172) k9084 ((l9077, 0), A9075, c9076) [1, 3, 6, 8, 9, 38, 39, 42, 43] rfl ⟨(hS9086.subR [0]).sub [0, 1, 2, 3] (by decide), hx9173⟩ ?_
     rintro k9174 ⟨⟨l9167, x9168⟩, A9165, c9166⟩ w9175 ⟨hS9176, hl9177⟩
     cases k9174 with
     | zero => rw [tile_Repeat.l1] at hl9177; cases hl9177
     | succ k9174 =>
      rw [tile_Repeat.l1] at hl9177
      refine WC.seq ?_
      refine WC.region ?_
      refine seg 1 [] [1, 3, 6, 8, 9, 38, 39, 42, 43, 44] [(1, (iv p1)), (3, (pt g8754)), (6, (pt g8758)), (8, (pt g8799)), (9, (iv x9078)), (38, (iv p2)), (39, (iv x9078)), (42, (iv p1)), (43, (iv x9168)), (44, (.bool (decide (x9168 < p1))))] [] (fun fb => by kernel_rfl) rfl trivial ?_
      refine WL.done rfl ?_
      refine WX.next ?_
      refine WC.seq ?_
      rcases br_some hl9177 with ⟨h9178, hl9177⟩ | ⟨h9178, hl9177⟩
      ·refine WC.condT2 (fun fb => by kernel_rfl) h9178 ?_
       refine WC.skip ?_
       refine WX.next ?_
       refine WC.seq ?_
       refine WC.block ?_
       refine WC.seq ?_
       refine WC.region ?_
       refine seg 2 [] [1, 3, 6, 8, 9, 10, 38, 39, 42, 43] [(1, (iv p1)), (3, (pt g8754)), (6, (pt g8758)), (8, (pt g8799)), (9, (iv x9078)), (10, (iv x9168)), (38, (iv p2)), (39, (iv x9078)), (42, (iv p1)), (43, (iv x9168))] [] (fun fb => by kernel_rfl) rfl trivial ?_
       refine WL.done rfl ?_
       refine WX.next ?_
       obtain ⟨h9199, hl9177⟩ := as_some hl9177
       obtain ⟨h9200, hl9177⟩ := as_some hl9177
       obtain ⟨h9201, hl9177⟩ := as_some hl9177
       refine WC.regionD ([(1, ⟨g8799, 2, none⟩, (.slice A9165 l9167.length c9166)), (3, ⟨g8754, 2, none⟩, (.slice A_p0_Cells p0.Cells.length c_p0_Cells)), (6, ⟨g8754, 1, none⟩, (iv p0.Height)), (9, ⟨g8754, 0, none⟩, (iv p0.Width)), (13, ⟨g8754, 0, none⟩, (iv p0.Width)), (17, ((adr A_p0_Cells).add ((w64 ((w64 ((Int.tmod x9078 p0.Height) * p0.Width)) + (Int.tmod x9168 p0.Width))).toNat * 1)), (iv (rdD p0.Cells (w64 ((w64 ((Int.tmod x9078 p0.Height) * p0.Width)) + (Int.tmod x9168 p0.Width))) 0)))], [0, 1, 2, 3, 4, 5, 6, 7, 8, 9, 10, 11, 12, 13, 14, 15, 16, 17, 20], [[], [0], [], [2], [], [], [5], [4, 5, 6], [], [8], [4, 5, 6, 7, 8, 9], [], [], [12], [11, 12, 13], [4, 5, 6, 7, 8, 9, 10, 11, 12, 13, 14], [2, 3, 4, 5, 6, 7, 8, 9, 10, 11, 12, 13, 14, 15], [2, 3, 4, 5, 6, 7, 8, 9, 10, 11, 12, 13, 14, 15, 16], [2, 3, 4, 5, 6, 7, 8, 9, 10, 11, 12, 13, 14, 15, 16, 17], [0, 1, 2, 3, 4, 5, 6, 7, 8, 9, 10, 11, 12, 13, 14, 15, 16, 17, 18], [0, 1, 2, 3, 4, 5, 6, 7, 8, 9, 10, 11, 12, 13, 14, 15, 16, 17, 18, 19], [0, 1, 2, 3, 4, 5, 6, 7, 8, 9, 10, 11, 12, 13, 14, 15, 16, 17, 18, 19, 20]]) [[0, 1, 2, 3, 4, 5, 6, 7, 8, 9, 10, 11, 12, 13, 14, 15, 16, 17, 18, 19, 20, 21]] (by kernel_rfl) (by kernel_rfl) (NoPanic.block (NoPanic.seq (NoPanic.seq (NoPanic.block (NoPanic.block (NoPanic.seq (NoPanic.seq (NoPanic.block (NoPanic.seq (NoPanic.body)))))))))) ?_
       have hS9195 := hS9176.drew
       revert hS9195
       generalize World.drew w9175 = w9194
       intro hS9195
       refine ⟨⟨hS9195.cell 2 rfl 2 rfl, hS9195.cell 0 rfl 2 rfl, hS9195.cell 0 rfl 1 rfl, hS9195.cell 0 rfl 0 rfl, hS9195.cell 0 rfl 0 rfl, rowR.cell (hS9195.rd 0).1 0 h9201.1 h9201.2 0 rfl, trivial⟩, forallC ?_ (forallN)⟩
       refine segF 18 [.v (.slice A9165 l9167.length c9166), .v (.slice A_p0_Cells p0.Cells.length c_p0_Cells), .v (iv p0.Height), .v (iv p0.Width), .v (iv p0.Width), .v (iv (rdD p0.Cells (w64 ((w64 ((Int.tmod x9078 p0.Height) * p0.Width)) + (Int.tmod x9168 p0.Width))) 0))] [1, 3, 6, 8, 9, 38, 39, 42, 43, 47, 63] [(1, (iv p1)), (3, (pt g8754)), (6, (pt g8758)), (8, (pt g8799)), (9, (iv x9078)), (38, (iv p2)), (39, (iv x9078)), (42, (iv p1)), (43, (iv x9168)), (47, (.slice A9165 l9167.length c9166)), (63, (iv (rdD p0.Cells (w64 ((w64 ((Int.tmod x9078 p0.Height) * p0.Width)) + (Int.tmod x9168 p0.Width))) 0)))] [.ne p0.Height, .ne p0.Width, .idx A_p0_Cells (w64 ((w64 ((Int.tmod x9078 p0.Height) * p0.Width)) + (Int.tmod x9168 p0.Width))) p0.Cells.length] [0, 1, 2, 3, 4, 5] [(1, ⟨g8799, 2, none⟩, (.slice A9165 l9167.length c9166)), (3, ⟨g8754, 2, none⟩, (.slice A_p0_Cells p0.Cells.length c_p0_Cells)), (6, ⟨g8754, 1, none⟩, (iv p0.Height)), (9, ⟨g8754, 0, none⟩, (iv p0.Width)), (13, ⟨g8754, 0, none⟩, (iv p0.Width)), (17, ((adr A_p0_Cells).add ((w64 ((w64 ((Int.tmod x9078 p0.Height) * p0.Width)) + (Int.tmod x9168 p0.Width))).toNat * 1)), (iv (rdD p0.Cells (w64 ((w64 ((Int.tmod x9078 p0.Height) * p0.Width)) + (Int.tmod x9168 p0.Width))) 0)))] (fun fb => by kernel_rfl) rfl ⟨h9199, h9200, rowR.adr (hS9195.rd 0).1 h9201.1 h9201.2, trivial⟩ rfl ?_
       refine WL.new hS9195 64 [] (fun g => (.slice (some ⟨g, 0, none⟩) 1 1)) (.cells #[(iv (rdD p0.Cells (w64 ((w64 ((Int.tmod x9078 p0.Height) * p0.Width)) + (Int.tmod x9168 p0.Width))) 0))] 3 (0, 0)) [] (fun fb g => by kernel_rfl) trivial (fun g9202 w9203 hS9204 => ?_)
       refine ⟨⟨hS9204.cell 3 rfl 2 rfl, trivial⟩, ?_⟩
       have hS9206 : St NoS w w9203 [rowR encInt A_p0_Cells c_p0_Cells p0.Cells] [rowO 3 encInt (some ⟨g9202, 0, none⟩) 1 [(rdD p0.Cells (w64 ((w64 ((Int.tmod x9078 p0.Height) * p0.Width)) + (Int.tmod x9168 p0.Width))) 0)], blk g8754 (.cells #[(iv p0.Width), (iv p0.Height), (.slice A_p0_Cells p0.Cells.length c_p0_Cells)] 27 (0, 0)), blk g8758 (.cells #[(iv 0), (iv 0), (.slice none 0 0)] 27 (0, 0)), blk g8799 (.cells #[(iv p1), (iv p2), (.slice A9165 l9167.length c9166)] 27 (0, 0)), rowO 3 encInt A9165 c9166 l9167] := hS9204.map1 0 _ (fun h => rowO.ofBlk h rfl (Nat.le_of_ble_eq_true (by kernel_rfl))) (fun _ h => by obtain ⟨_, h1, h2⟩ := h; injection h1 with h1; subst h1; exact h2) [1, 2, 3, 4] (by decide) (by decide)
       obtain ⟨h9207, hl9177⟩ := as_some hl9177
       refine WL.append hS9206 4 (d := 65) (tS := 25) (z := (iv 0)) (bytes := 8) (c2 := 1) rfl (fun fb => by kernel_rfl) (rowO.rd (hS9206.own 0).1) (by kernel_rfl) (by kernel_rfl) rfl (by decide) h9207 (by decide) [0, 1, 2, 3] (by decide) (by decide) (fun A9208 c9209 w9210 hS9211 => ?_)
       refine ⟨trivial, ?_⟩
       refine seg 21 [] [1, 3, 6, 8, 9, 38, 39, 42, 43, 65, 66] [(1, (iv p1)), (3, (pt g8754)), (6, (pt g8758)), (8, (pt g8799)), (9, (iv x9078)), (38, (iv p2)), (39, (iv x9078)), (42, (iv p1)), (43, (iv x9168)), (65, (.slice A9208 (l9167 ++ [(rdD p0.Cells (w64 ((w64 ((Int.tmod x9078 p0.Height) * p0.Width)) + (Int.tmod x9168 p0.Width))) 0)]).length c9209)), (66, (.pointer (some ⟨g8799, 2, none⟩)))] [] (fun fb => by kernel_rfl) rfl trivial ?_
       refine WL.store hS9211 4 rfl [(2, (.slice A9208 (l9167 ++ [(rdD p0.Cells (w64 ((w64 ((Int.tmod x9078 p0.Height) * p0.Width)) + (Int.tmod x9168 p0.Width))) 0)]).length c9209))] #[(iv p1), (iv p2), (.slice A9208 (l9167 ++ [(rdD p0.Cells (w64 ((w64 ((Int.tmod x9078 p0.Height) * p0.Width)) + (Int.tmod x9168 p0.Width))) 0)]).length c9209)] (fun fb => by kernel_rfl) (by kernel_rfl) rfl [0, 1, 2, 3] (by decide) (by decide) (fun w9212 hS9213 => ?_)
       refine ⟨trivial, ?_⟩
       refine WL.done rfl ?_
       refine WX.blockN (WX.next ?_)
       refine WC.region ?_
       refine seg 2 [] [1, 3, 6, 8, 9, 38, 39, 42, 43] [(1, (iv p1)), (3, (pt g8754)), (6, (pt g8758)), (8, (pt g8799)), (9, (iv x9078)), (38, (iv p2)), (39, (iv x9078)), (42, (iv p1)), (43, (iv (w64 (x9168 + 1))))] [] (fun fb => by kernel_rfl) rfl trivial ?_
       refine WL.done rfl ?_
       exact WX.again k9174 (Nat.lt_succ_self _) ((l9167 ++ [(rdD p0.Cells (w64 ((w64 ((Int.tmod x9078 p0.Height) * p0.Width)) + (Int.tmod x9168 p0.Width))) 0)], w64 (x9168 + 1)), A9208, c9209) [1, 3, 6, 8, 9, 38, 39, 42, 43] rfl ⟨(hS9213.subR [0]).sub [3, 4, 0, 1] (by decide), hl9177⟩
      refine WC.condF2 (fun fb => by kernel_rfl) h9178 ?_
      refine WC.exit ?_
      injection hl9177 with hl9177
      exact WX.thenX (WX.thenX (WX.blockHere (WX.to Kx9172 (l9167, A9165, c9166) [1, 3, 6, 8, 38, 39] rfl ⟨(hS9176.subR [0]).sub [0, 1, 2, 3] (by decide), hl9177.symm⟩)))
    rintro ⟨y9217, A9169, c9170⟩ w9214 ⟨hS9215, hq9216⟩
    subst hq9216
    refine WX.blockN (WX.next ?_)
    refine WC.region ?_
    refine seg 2 [] [1, 3, 6, 8, 38, 39] [(1, (iv p1)), (3, (pt g8754)), (6, (pt g8758)), (8, (pt g8799)), (38, (iv p2)), (39, (iv (w64 (x9078 + 1))))] [] (fun fb => by kernel_rfl) rfl trivial ?_
    refine WL.done rfl ?_
    exact WX.again k9084 (Nat.lt_succ_self _) ((x9172, w64 (x9078 + 1)), A9169, c9170) [1, 3, 6, 8, 38, 39] rfl ⟨(hS9215.subR [0]).sub [0, 1, 2, 3] (by decide), hl9087⟩
   refine WC.condF2 (fun fb => by kernel_rfl) h9088 ?_
   refine WC.exit ?_
   injection hl9087 with hl9087
   exact WX.thenX (WX.thenX (WX.blockHere (WX.to Kx9082 (l9077, A9075, c9076) [6, 8] rfl ⟨(hS9086.subR [0]).sub [1, 2, 3] (by decide), hl9087.symm⟩)))
 rintro ⟨y9221, A9079, c9080⟩ w9218 ⟨hS9219, hq9220⟩
 subst hq9220
 refine WX.next ?_
 refine WC.seq ?_
 refine WC.region ?_
 refine seg 1 [.v (iv p1), .v (iv p2), .v (.slice A9079 x9082.length c9080)] [6, 69] [(6, (pt g8758)), (69, (.agg #[(iv p1), (iv p2), (.slice A9079 x9082.length c9080)]))] [.cell ⟨g8799, 0, none⟩ (iv p1), .cell ⟨g8799, 1, none⟩ (iv p2), .cell ⟨g8799, 2, none⟩ (.slice A9079 x9082.length c9080)] (fun fb => by kernel_rfl) rfl ⟨hS9219.cell 1 rfl 0 rfl, hS9219.cell 1 rfl 1 rfl, hS9219.cell 1 rfl 2 rfl, trivial⟩ ?_
 refine WL.store hS9219 0 rfl [(0, (iv p1)), (1, (iv p2)), (2, (.slice A9079 x9082.length c9080))] #[(iv p1), (iv p2), (.slice A9079 x9082.length c9080)] (fun fb => by kernel_rfl) (by kernel_rfl) rfl [1, 2] (by decide) (by decide) (fun w9222 hS9223 => ?_)
 refine ⟨trivial, ?_⟩
 refine seg 3 [] [6, 7] [(6, (pt g8758)), (7, (iv 0))] [] (fun fb => by kernel_rfl) rfl trivial ?_
 refine WL.done rfl ?_
 refine WX.next ?_
 refine WC.ret ?_
 injection hf with hf
 subst hf
 exact WX.ret_ [.v (iv p1), .v (iv p2), .v (.slice A9079 x9082.length c9080)] (.tuple #[(.agg #[(iv p1), (iv p2), (.slice A9079 x9082.length c9080)]), (iv 0)]) [.cell ⟨g8758, 0, none⟩ (iv p1), .cell ⟨g8758, 1, none⟩ (iv p2), .cell ⟨g8758, 2, none⟩ (.slice A9079 x9082.length c9080)] (fun fb => by kernel_rfl) ⟨hS9223.cell 0 rfl 0 rfl, hS9223.cell 0 rfl 1 rfl, hS9223.cell 0 rfl 2 rfl, trivial⟩ ⟨_, rfl, A9079, c9080, rfl, (hS9223.sub [2] (by decide)).noR⟩
theorem tile_of_1_calls (p0 : Int) (f0 : List Tile) (g_f0 : Nat) (A_f0 : Option Addr) (c_f0 : Nat) (r : Bool) (w : World) (hR0 : RO NoS w (blk g_f0 (.cells #[(.slice A_f0 f0.length c_f0)] 22 (0, 0)))) (hR1 : RO NoS w (rowR enc_Tile A_f0 c_f0 f0)) (hf : tile_of_1 p0 f0 = some r) :
  CallsR Tryd.prog 90 #[(iv p0), (.pointer (some ⟨g_f0, 0, none⟩))] w (fun v w' => v = (.bool r) ∧ Keeps NoS w w') := by
 have hS : St NoS w w [blk g_f0 (.cells #[(.slice A_f0 f0.length c_f0)] 22 (0, 0)), rowR enc_Tile A_f0 c_f0 f0] [] := St.init (ro_cons hR0 (ro_cons hR1 (ro_nil _ _)))
 refine enter 12 Tryd.func90 rfl Tryd.ntmps90 rfl ?_
 unfold tile_of_1 at hf
 refine WC.seq ?_
 refine WC.region ?_
 refine seg 1 [] [0, 1] [(0, (iv p0)), (1, (.pointer (some ⟨g_f0, 0, none⟩)))] [] (fun fb => by kernel_rfl) rfl trivial ?_
 refine WL.done rfl ?_
 refine WX.next ?_
 refine WC.seq ?_
 refine WC.region ?_
 refine seg 3 [] [0, 1, 6] [(0, (iv p0)), (1, (.pointer (some ⟨g_f0, 0, none⟩))), (6, (.bool (decide (p0 < 0))))] [] (fun fb => by kernel_rfl) rfl trivial ?_
 refine WL.cutV (T := Bool) 8 (fun t => [(11, (.bool t))]) (fun t => ((decide (p0 < 0)) || (decide (p0 ≥ (f0.length : Int)))) = t) (fun K => ?_) ?_
 ·
  rcases Bool.eq_false_or_eq_true (decide (p0 < 0)) with h9275 | h9275
  ·
   refine WL.setB 6 h9275 rfl ?_
   refine seg 8 [] [11] [(11, (.bool true))] [] (fun fb => by kernel_rfl) rfl trivial ?_
   exact WL.toV K true [11] rfl (by first | (rw [h9275]; done) | (rw [h9275]; rfl))
  refine WL.setB 6 h9275 rfl ?_
  refine seg 8 [.v (.slice A_f0 f0.length c_f0)] [11] [(11, (.bool (decide (p0 ≥ (f0.length : Int)))))] [.cell ⟨g_f0, 0, none⟩ (.slice A_f0 f0.length c_f0)] (fun fb => by kernel_rfl) rfl ⟨blk_cell (hS.rd 0).1 0 rfl, trivial⟩ ?_
  exact WL.toV K (decide (p0 ≥ (f0.length : Int))) [11] rfl (by first | (rw [h9275]; done) | (rw [h9275]; rfl))
 rintro b9276 rfl
 refine seg 9 [] [3] [(3, (.bool ((decide (p0 < 0)) || (decide (p0 ≥ (f0.length : Int))))))] [] (fun fb => by kernel_rfl) rfl trivial ?_
 refine WL.done rfl ?_
 refine WX.next ?_
 refine WC.ret ?_
 injection hf with hf
 subst hf
 exact WX.ret_ [] (.bool ((decide (p0 < 0)) || (decide (p0 ≥ (f0.length : Int))))) [] (fun fb => by kernel_rfl) trivial ⟨_, rfl, rfl, hS.keep⟩
theorem slices_IndexFunc_int_int_with_tile_of_1_calls (k : Nat) (p0 : List Int) (p1_0 : List Tile) (A_p0 : Option Addr) (c_p0 : Nat) (g_p1_0 : Nat) (A_p1_0 : Option Addr) (c_p1_0 : Nat) (r : Int) (w : World) (hR0 : RO NoS w (rowR encInt A_p0 c_p0 p0)) (hR1 : RO NoS w (blk g_p1_0 (.cells #[(.slice A_p1_0 p1_0.length c_p1_0)] 22 (0, 0)))) (hR2 : RO NoS w (rowR enc_Tile A_p1_0 c_p1_0 p1_0)) (hf : slices_IndexFunc_int_int_with_tile_of_1 k p0 p1_0 = some r) :
  CallsR Tryd.prog 99 #[(.slice A_p0 p0.length c_p0), (.func (.func 90) #[] #[(.pointer (some ⟨g_p1_0, 0, none⟩))])] w (fun v w' => v = (iv r) ∧ Keeps NoS w w') := by
 have hS : St NoS w w [rowR encInt A_p0 c_p0 p0, blk g_p1_0 (.cells #[(.slice A_p1_0 p1_0.length c_p1_0)] 22 (0, 0)), rowR enc_Tile A_p1_0 c_p1_0 p1_0] [] := St.init (ro_cons hR0 (ro_cons hR1 (ro_cons hR2 (ro_nil _ _))))
 refine enter 19 Tryd.func99 rfl Tryd.ntmps99 rfl ?_
 unfold slices_IndexFunc_int_int_with_tile_of_1 at hf
 refine WC.seq ?_
 refine WC.region ?_
 refine seg 1 [] [0, 1] [(0, (.slice A_p0 p0.length c_p0)), (1, (.func (.func 90) #[] #[(.pointer (some ⟨g_p1_0, 0, none⟩))]))] [] (fun fb => by kernel_rfl) rfl trivial ?_
 refine WL.done rfl ?_
 refine WX.next ?_
 refine WC.seq ?_
 refine WC.seq ?_
 refine WC.region ?_
 refine seg 3 [] [0, 1, 7, 8] [(0, (.slice A_p0 p0.length c_p0)), (1, (.func (.func 90) #[] #[(.pointer (some ⟨g_p1_0, 0, none⟩))])), (7, (iv (p0.length : Int))), (8, (iv 0))] [] (fun fb => by kernel_rfl) rfl trivial ?_
 refine WL.done rfl ?_
 refine WX.next ?_
 obtain ⟨x9293, hx9294, hf⟩ := bind_some hf
 refine WC.cutN (T := Unit) (fun t => []) (fun t w1 => St NoS w w1 [rowR encInt A_p0 c_p0 p0, blk g_p1_0 (.cells #[(.slice A_p1_0 p1_0.length c_p1_0)] 22 (0, 0)), rowR enc_Tile A_p1_0 c_p1_0 p1_0] [] ∧ x9293 = .inr t) (fun Kx9293 => ?_) ?_
 ·
  refine WC.block ?_
  refine WC.loop (T := Int) (fun t => [(0, (.slice A_p0 p0.length c_p0)), (1, (.func (.func 90) #[] #[(.pointer (some ⟨g_p1_0, 0, none⟩))])), (7, (iv (p0.length : Int))), (8, (iv t))]) (fun n t w1 => St NoS w w1 [rowR encInt A_p0 c_p0 p0, blk g_p1_0 (.cells #[(.slice A_p1_0 p1_0.length c_p1_0)] 22 (0, 0)), rowR enc_Tile A_p1_0 c_p1_0 p1_0] [] ∧ slices_IndexFunc_int_int_with_tile_of_1.l0 n t p0 p1_0 = some x9293) k 0 [0, 1, 7, 8] rfl ⟨(hS.subR [0, 1, 2]).sub [] (by decide), hx9294⟩ ?_
  rintro k9295 x9292 w9296 ⟨hS9297, hl9298⟩
  cases k9295 with
  | zero => rw [slices_IndexFunc_int_int_with_tile_of_1.l0] at hl9298; cases hl9298
  | succ k9295 =>
   rw [slices_IndexFunc_int_int_with_tile_of_1.l0] at hl9298
   refine WC.seq ?_
   refine WC.region ?_
   refine seg 1 [] [0, 1, 7, 8, 9] [(0, (.slice A_p0 p0.length c_p0)), (1, (.func (.func 90) #[] #[(.pointer (some ⟨g_p1_0, 0, none⟩))])), (7, (iv (p0.length : Int))), (8, (iv x9292)), (9, (.bool (decide (x9292 < (p0.length : Int)))))] [] (fun fb => by kernel_rfl) rfl trivial ?_
   refine WL.done rfl ?_
   refine WX.next ?_
   refine WC.seq ?_
   rcases br_some hl9298 with ⟨h9299, hl9298⟩ | ⟨h9299, hl9298⟩
   ·refine WC.condT2 (fun fb => by kernel_rfl) h9299 ?_
    refine WC.skip ?_
    refine WX.next ?_
    refine WC.seq ?_
    refine WC.block ?_
    refine WC.seq ?_
    refine WC.region ?_
    refine seg 2 [] [0, 1, 5, 7, 8] [(0, (.slice A_p0 p0.length c_p0)), (1, (.func (.func 90) #[] #[(.pointer (some ⟨g_p1_0, 0, none⟩))])), (5, (iv x9292)), (7, (iv (p0.length : Int))), (8, (iv x9292))] [] (fun fb => by kernel_rfl) rfl trivial ?_
    refine WL.done rfl ?_
    refine WX.next ?_
    refine WC.seq ?_
    refine WC.region ?_
    refine seg 3 [] [0, 1, 5, 7, 8, 11, 12, 13] [(0, (.slice A_p0 p0.length c_p0)), (1, (.func (.func 90) #[] #[(.pointer (some ⟨g_p1_0, 0, none⟩))])), (5, (iv x9292)), (7, (iv (p0.length : Int))), (8, (iv x9292)), (11, (.func (.func 90) #[] #[(.pointer (some ⟨g_p1_0, 0, none⟩))])), (12, (.slice A_p0 p0.length c_p0)), (13, (iv x9292))] [] (fun fb => by kernel_rfl) rfl trivial ?_
    obtain ⟨h9300, hl9298⟩ := as_some hl9298
    refine seg 5 [.v (iv (rdD p0 x9292 0))] [0, 1, 5, 7, 8, 11, 15] [(0, (.slice A_p0 p0.length c_p0)), (1, (.func (.func 90) #[] #[(.pointer (some ⟨g_p1_0, 0, none⟩))])), (5, (iv x9292)), (7, (iv (p0.length : Int))), (8, (iv x9292)), (11, (.func (.func 90) #[] #[(.pointer (some ⟨g_p1_0, 0, none⟩))])), (15, (iv (rdD p0 x9292 0)))] [.idx A_p0 x9292 p0.length, .cell ((adr A_p0).add ((x9292).toNat * 1)) (iv (rdD p0 x9292 0))] (fun fb => by kernel_rfl) rfl ⟨rowR.adr (hS9297.rd 0).1 h9300.1 h9300.2, rowR.cell (hS9297.rd 0).1 0 h9300.1 h9300.2 0 rfl, trivial⟩ ?_
    obtain ⟨t9301, ht9302, hl9298⟩ := bind_some hl9298
    refine WL.call (some 16) 90 #[(iv (rdD p0 x9292 0)), (.pointer (some ⟨g_p1_0, 0, none⟩))] (fun fb => by kernel_rfl) (tile_of_1_calls (rdD p0 x9292 0) p1_0 g_p1_0 A_p1_0 c_p1_0 t9301 _ (hS9297.rd 1) (hS9297.rd 2) ht9302) (fun v w9303 hR9304 => ?_)
    obtain ⟨rfl, hk_⟩ := hR9304
    have hS9305 := hS9297.keepN hk_
    refine ⟨trivial, ?_⟩
    refine WL.done rfl ?_
    refine WX.next ?_
    rcases br_some hl9298 with ⟨h9306, hl9298⟩ | ⟨h9306, hl9298⟩
    ·refine WC.condT2 (fun fb => by kernel_rfl) h9306 ?_
     refine WC.seq ?_
     refine WC.region ?_
     refine seg 2 [] [4] [(4, (iv x9292))] [] (fun fb => by kernel_rfl) rfl trivial ?_
     refine WL.done rfl ?_
     refine WX.next ?_
     refine WC.ret ?_
     injection hl9298 with hl9298
     subst hl9298
     injection hf with hf
     subst hf
     exact WX.blockR (WX.thenR (WX.thenR (WX.blockR (WX.thenR (WX.ret_ [] (iv x9292) [] (fun fb => by kernel_rfl) trivial ⟨_, rfl, rfl, hS9305.keep⟩)))))
    refine WC.condF2 (fun fb => by kernel_rfl) h9306 ?_
    refine WC.skip ?_
    refine WX.blockN (WX.next ?_)
    refine WC.region ?_
    refine seg 2 [] [0, 1, 7, 8] [(0, (.slice A_p0 p0.length c_p0)), (1, (.func (.func 90) #[] #[(.pointer (some ⟨g_p1_0, 0, none⟩))])), (7, (iv (p0.length : Int))), (8, (iv (w64 (x9292 + 1))))] [] (fun fb => by kernel_rfl) rfl trivial ?_
    refine WL.done rfl ?_
    exact WX.again k9295 (Nat.lt_succ_self _) (w64 (x9292 + 1)) [0, 1, 7, 8] rfl ⟨(hS9305.subR [0, 1, 2]).sub [] (by decide), hl9298⟩
   refine WC.condF2 (fun fb => by kernel_rfl) h9299 ?_
   refine WC.exit ?_
   injection hl9298 with hl9298
   exact WX.thenX (WX.thenX (WX.blockHere (WX.to Kx9293 () [] rfl ⟨(hS9297.subR [0, 1, 2]).sub [] (by decide), hl9298.symm⟩)))
 rintro y9310 w9307 ⟨hS9308, hq9309⟩
 subst hq9309
 have hf := sum_inr hf
 refine WX.next ?_
 refine WC.seq ?_
 refine WC.region ?_
 refine seg 1 [] [4] [(4, (iv (-1)))] [] (fun fb => by kernel_rfl) rfl trivial ?_
 refine WL.done rfl ?_
 refine WX.next ?_
 refine WC.ret ?_
 injection hf with hf
 subst hf
 exact WX.ret_ [] (iv (-1)) [] (fun fb => by kernel_rfl) trivial ⟨_, rfl, rfl, hS9308.keep⟩
theorem slices_ContainsFunc_int_int_with_tile_of_1_calls (k : Nat) (p0 : List Int) (p1_0 : List Tile) (A_p0 : Option Addr) (c_p0 : Nat) (g_p1_0 : Nat) (A_p1_0 : Option Addr) (c_p1_0 : Nat) (r : Bool) (w : World) (hR0 : RO NoS w (rowR encInt A_p0 c_p0 p0)) (hR1 : RO NoS w (blk g_p1_0 (.cells #[(.slice A_p1_0 p1_0.length c_p1_0)] 22 (0, 0)))) (hR2 : RO NoS w (rowR enc_Tile A_p1_0 c_p1_0 p1_0)) (hf : slices_ContainsFunc_int_int_with_tile_of_1 k p0 p1_0 = some r) :
  CallsR Tryd.prog 89 #[(.slice A_p0 p0.length c_p0), (.func (.func 90) #[] #[(.pointer (some ⟨g_p1_0, 0, none⟩))])] w (fun v w' => v = (.bool r) ∧ Keeps NoS w w') := by
 have hS : St NoS w w [rowR encInt A_p0 c_p0 p0, blk g_p1_0 (.cells #[(.slice A_p1_0 p1_0.length c_p1_0)] 22 (0, 0)), rowR enc_Tile A_p1_0 c_p1_0 p1_0] [] := St.init (ro_cons hR0 (ro_cons hR1 (ro_cons hR2 (ro_nil _ _))))
 refine enter 9 Tryd.func89 rfl Tryd.ntmps89 rfl ?_
 unfold slices_ContainsFunc_int_int_with_tile_of_1 at hf
 refine WC.seq ?_
 refine WC.region ?_
 refine seg 1 [] [0, 1] [(0, (.slice A_p0 p0.length c_p0)), (1, (.func (.func 90) #[] #[(.pointer (some ⟨g_p1_0, 0, none⟩))]))] [] (fun fb => by kernel_rfl) rfl trivial ?_
 refine WL.done rfl ?_
 refine WX.next ?_
 refine WC.seq ?_
 refine WC.region ?_
 refine seg 2 [] [5, 6] [(5, (.slice A_p0 p0.length c_p0)), (6, (.func (.func 90) #[] #[(.pointer (some ⟨g_p1_0, 0, none⟩))]))] [] (fun fb => by kernel_rfl) rfl trivial ?_
 obtain ⟨t9312, ht9313, hf⟩ := bind_some hf
 refine WL.call (some 7) 99 #[(.slice A_p0 p0.length c_p0), (.func (.func 90) #[] #[(.pointer (some ⟨g_p1_0, 0, none⟩))])] (fun fb => by kernel_rfl) (slices_IndexFunc_int_int_with_tile_of_1_calls _ p0 p1_0 A_p0 c_p0 g_p1_0 A_p1_0 c_p1_0 t9312 _ (hS.rd 0) (hS.rd 1) (hS.rd 2) ht9313) (fun v w9314 hR9315 => ?_)
 obtain ⟨rfl, hk_⟩ := hR9315
 have hS9316 := hS.keepN hk_
 refine ⟨trivial, ?_⟩
 refine seg 5 [] [4] [(4, (.bool (decide (t9312 ≥ 0))))] [] (fun fb => by kernel_rfl) rfl trivial ?_
 refine WL.done rfl ?_
 refine WX.next ?_
 refine WC.ret ?_
 injection hf with hf
 subst hf
 exact WX.ret_ [] (.bool (decide (t9312 ≥ 0))) [] (fun fb => by kernel_rfl) trivial ⟨_, rfl, rfl, hS9316.keep⟩
theorem tile_of_calls (k : Nat) (p0 : List Tile) (p1 : Pattern) (A_p0 : Option Addr) (c_p0 : Nat) (A_p1_Cells : Option Addr) (c_p1_Cells : Nat) (r : Bool) (w : World) (hR0 : RO NoS w (rowR enc_Tile A_p0 c_p0 p0)) (hR1 : RO NoS w (rowR encInt A_p1_Cells c_p1_Cells p1.Cells)) (hf : tile_of k p0 p1 = some r) :
  CallsR Tryd.prog 75 #[(.slice A_p0 p0.length c_p0), (.agg #[(iv p1.Width), (iv p1.Height), (.slice A_p1_Cells p1.Cells.length c_p1_Cells)])] w (fun v w' => v = (.bool r) ∧ Keeps NoS w w') := by
 have hS : St NoS w w [rowR enc_Tile A_p0 c_p0 p0, rowR encInt A_p1_Cells c_p1_Cells p1.Cells] [] := St.init (ro_cons hR0 (ro_cons hR1 (ro_nil _ _)))
 refine enter 18 Tryd.func75 rfl Tryd.ntmps75 rfl ?_
 unfold tile_of at hf
 refine WC.seq ?_
 refine WC.region ?_
 refine WL.new hS 2 [] (fun g => (.pointer (some ⟨g, 0, none⟩))) (.cells #[(.slice A_p0 p0.length c_p0)] 22 (0, 0)) [] (fun fb g => by kernel_rfl) trivial (fun g9241 w9242 hS9243 => ?_)
 refine ⟨trivial, ?_⟩
 refine WL.new hS9243 3 [] (fun g => (.pointer (some ⟨g, 0, none⟩))) (.cells #[(iv p1.Width), (iv p1.Height), (.slice A_p1_Cells p1.Cells.length c_p1_Cells)] 27 (0, 0)) [] (fun fb g => by kernel_rfl) trivial (fun g9245 w9246 hS9247 => ?_)
 refine ⟨trivial, ?_⟩
 refine seg 3 [] [2, 3] [(2, (pt g9241)), (3, (pt g9245))] [] (fun fb => by kernel_rfl) rfl trivial ?_
 refine WL.done rfl ?_
 refine WX.next ?_
 refine WC.seq ?_
 refine WC.region ?_
 refine seg 1 [.v (.slice A_p0 p0.length c_p0)] [2, 3, 5] [(2, (pt g9241)), (3, (pt g9245)), (5, (.slice A_p0 p0.length c_p0))] [.cell ⟨g9241, 0, none⟩ (.slice A_p0 p0.length c_p0)] (fun fb => by kernel_rfl) rfl ⟨hS9247.cell 1 rfl 0 rfl, trivial⟩ ?_
 obtain ⟨t9249, ht9250, hf⟩ := bind_some hf
 refine WL.call (some 6) 52 #[(.slice A_p0 p0.length c_p0)] (fun fb => by kernel_rfl) (tile_Valid_calls _ p0 A_p0 c_p0 t9249 _ (hS9247.rd 0) ht9250) (fun v w9251 hR9252 => ?_)
 obtain ⟨rfl, hk_⟩ := hR9252
 have hS9253 := hS9247.keepN hk_
 refine ⟨trivial, ?_⟩
 refine seg 3 [] [2, 3, 7] [(2, (pt g9241)), (3, (pt g9245)), (7, (.bool t9249))] [] (fun fb => by kernel_rfl) rfl trivial ?_
 obtain ⟨x9260, hx9261, hf⟩ := bind_some hf
 refine WL.cutW (T := Bool) 6 (fun t => [(2, (pt g9241)), (3, (pt g9245)), (10, (.bool t))]) (fun t w1 => (St NoS w w1 [rowR enc_Tile A_p0 c_p0 p0, rowR encInt A_p1_Cells c_p1_Cells p1.Cells] [blk g9241 (.cells #[(.slice A_p0 p0.length c_p0)] 22 (0, 0)), blk g9245 (.cells #[(iv p1.Width), (iv p1.Height), (.slice A_p1_Cells p1.Cells.length c_p1_Cells)] 27 (0, 0))] ∧ x9260 = t) ∧ CellsOK [] w1) (fun K => ?_) ?_
 ·
  rcases br_some hx9261 with ⟨h9262, hx9261⟩ | ⟨h9262, hx9261⟩
  ·
   refine WL.setB 7 h9262 rfl ?_
   refine seg 4 [.v (iv p1.Width), .v (iv p1.Height), .v (.slice A_p1_Cells p1.Cells.length c_p1_Cells)] [2, 3, 7, 8] [(2, (pt g9241)), (3, (pt g9245)), (7, (.bool true)), (8, (.agg #[(iv p1.Width), (iv p1.Height), (.slice A_p1_Cells p1.Cells.length c_p1_Cells)]))] [.cell ⟨g9245, 0, none⟩ (iv p1.Width), .cell ⟨g9245, 1, none⟩ (iv p1.Height), .cell ⟨g9245, 2, none⟩ (.slice A_p1_Cells p1.Cells.length c_p1_Cells)] (fun fb => by kernel_rfl) rfl ⟨hS9253.cell 0 rfl 0 rfl, hS9253.cell 0 rfl 1 rfl, hS9253.cell 0 rfl 2 rfl, trivial⟩ ?_
   obtain ⟨t9263, ht9264, hx9261⟩ := bind_some hx9261
   refine WL.call (some 9) 74 #[(.agg #[(iv p1.Width), (iv p1.Height), (.slice A_p1_Cells p1.Cells.length c_p1_Cells)])] (fun fb => by kernel_rfl) (tile_Form_calls p1 A_p1_Cells c_p1_Cells t9263 _ (hS9253.rd 1) ht9264) (fun v w9265 hR9266 => ?_)
   obtain ⟨rfl, hk_⟩ := hR9266
   have hS9267 := hS9253.keepN hk_
   refine ⟨trivial, ?_⟩
   refine seg 6 [] [2, 3, 10] [(2, (pt g9241)), (3, (pt g9245)), (10, (.bool t9263))] [] (fun fb => by kernel_rfl) rfl trivial ?_
   injection hx9261 with hx9261
   exact WL.to K t9263 [2, 3, 10] rfl ⟨⟨(hS9267.subR [0, 1]).sub [1, 0] (by decide), hx9261.symm⟩, trivial⟩
  refine WL.setB 7 h9262 rfl ?_
  refine seg 6 [] [2, 3, 10] [(2, (pt g9241)), (3, (pt g9245)), (10, (.bool false))] [] (fun fb => by kernel_rfl) rfl trivial ?_
  injection hx9261 with hx9261
  exact WL.to K false [2, 3, 10] rfl ⟨⟨(hS9253.subR [0, 1]).sub [1, 0] (by decide), hx9261.symm⟩, trivial⟩
 rintro y9268 w9270 ⟨⟨hS9271, hq9269⟩, hF9272⟩
 subst hq9269
 refine seg 7 [] [2, 3, 11] [(2, (pt g9241)), (3, (pt g9245)), (11, (.bool x9260))] [] (fun fb => by kernel_rfl) rfl trivial ?_
 obtain ⟨x9323, hx9324, hf⟩ := bind_some hf
 refine WL.cutW (T := Bool) 13 (fun t => [(17, (.bool t))]) (fun t w1 => (St NoS w w1 [rowR enc_Tile A_p0 c_p0 p0, rowR encInt A_p1_Cells c_p1_Cells p1.Cells] [] ∧ x9323 = t) ∧ CellsOK [] w1) (fun K => ?_) ?_
 ·
  rcases br_some hx9324 with ⟨h9325, hx9324⟩ | ⟨h9325, hx9324⟩
  ·
   refine WL.setB 11 h9325 rfl ?_
   refine seg 10 [.v (.slice A_p1_Cells p1.Cells.length c_p1_Cells)] [11, 13, 14] [(11, (.bool true)), (13, (.slice A_p1_Cells p1.Cells.length c_p1_Cells)), (14, (.func (.func 90) #[] #[(pt g9241)]))] [.cell ⟨g9245, 2, none⟩ (.slice A_p1_Cells p1.Cells.length c_p1_Cells)] (fun fb => by kernel_rfl) rfl ⟨hS9271.cell 1 rfl 2 rfl, trivial⟩ ?_
   obtain ⟨t9326, ht9327, hx9324⟩ := bind_some hx9324
   refine WL.call (some 15) 89 #[(.slice A_p1_Cells p1.Cells.length c_p1_Cells), (.func (.func 90) #[] #[(pt g9241)])] (fun fb => by kernel_rfl) (slices_ContainsFunc_int_int_with_tile_of_1_calls _ p1.Cells p0 A_p1_Cells c_p1_Cells g9241 A_p0 c_p0 t9326 _ (hS9271.rd 1) (hS9271.ow 0) (hS9271.rd 0) ht9327) (fun v w9328 hR9329 => ?_)
   obtain ⟨rfl, hk_⟩ := hR9329
   have hS9330 := hS9271.keepN hk_
   refine ⟨trivial, ?_⟩
   refine seg 13 [] [17] [(17, (.bool (!t9326)))] [] (fun fb => by kernel_rfl) rfl trivial ?_
   injection hx9324 with hx9324
   exact WL.to K (!t9326) [17] rfl ⟨⟨(hS9330.subR [0, 1]).sub [] (by decide), hx9324.symm⟩, trivial⟩
  refine WL.setB 11 h9325 rfl ?_
  refine seg 13 [] [17] [(17, (.bool false))] [] (fun fb => by kernel_rfl) rfl trivial ?_
  injection hx9324 with hx9324
  exact WL.to K false [17] rfl ⟨⟨(hS9271.subR [0, 1]).sub [] (by decide), hx9324.symm⟩, trivial⟩
 rintro y9331 w9333 ⟨⟨hS9334, hq9332⟩, hF9335⟩
 subst hq9332
 refine seg 14 [] [4] [(4, (.bool x9323))] [] (fun fb => by kernel_rfl) rfl trivial ?_
 refine WL.done rfl ?_
 refine WX.next ?_
 refine WC.ret ?_
 injection hf with hf
 subst hf
 exact WX.ret_ [] (.bool x9323) [] (fun fb => by kernel_rfl) trivial ⟨_, rfl, rfl, hS9334.keep⟩
theorem tile_joins_calls (k : Nat) (p0 : List Tile) (p1 : Pattern) (p2 : Bool) (A_p0 : Option Addr) (c_p0 : Nat) (A_p1_Cells : Option Addr) (c_p1_Cells : Nat) (r : Bool) (w : World) (hR0 : RO NoS w (rowR enc_Tile A_p0 c_p0 p0)) (hR1 : RO NoS w (rowR encInt A_p1_Cells c_p1_Cells p1.Cells)) (hf : tile_joins k p0 p1 p2 = some r) :
  CallsR Tryd.prog 76 #[(.slice A_p0 p0.length c_p0), (.agg #[(iv p1.Width), (iv p1.Height), (.slice A_p1_Cells p1.Cells.length c_p1_Cells)]), (.bool p2)] w (fun v w' => v = (.bool r) ∧ Keeps NoS w w') := by
 have hS : St NoS w w [rowR enc_Tile A_p0 c_p0 p0, rowR encInt A_p1_Cells c_p1_Cells p1.Cells] [] := St.init (ro_cons hR0 (ro_cons hR1 (ro_nil _ _)))
 refine enter 92 Tryd.func76 rfl Tryd.ntmps76 rfl ?_
 unfold tile_joins at hf
 refine WC.seq ?_
 refine WC.region ?_
 refine WL.new hS 4 [] (fun g => (.pointer (some ⟨g, 0, none⟩))) (.cells #[(iv p1.Width), (iv p1.Height), (.slice A_p1_Cells p1.Cells.length c_p1_Cells)] 27 (0, 0)) [] (fun fb g => by kernel_rfl) trivial (fun g9341 w9342 hS9343 => ?_)
 refine ⟨trivial, ?_⟩
 refine seg 2 [] [0, 2, 4] [(0, (.slice A_p0 p0.length c_p0)), (2, (.bool p2)), (4, (pt g9341))] [] (fun fb => by kernel_rfl) rfl trivial ?_
 refine WL.done rfl ?_
 refine WX.next ?_
 refine WC.seq ?_
 refine WC.seq ?_
 refine WC.region ?_
 refine seg 4 [.v (.slice A_p1_Cells p1.Cells.length c_p1_Cells)] [0, 2, 4, 12, 13, 14] [(0, (.slice A_p0 p0.length c_p0)), (2, (.bool p2)), (4, (pt g9341)), (12, (.slice A_p1_Cells p1.Cells.length c_p1_Cells)), (13, (iv (p1.Cells.length : Int))), (14, (iv 0))] [.cell ⟨g9341, 2, none⟩ (.slice A_p1_Cells p1.Cells.length c_p1_Cells)] (fun fb => by kernel_rfl) rfl ⟨hS9343.cell 0 rfl 2 rfl, trivial⟩ ?_
 refine WL.done rfl ?_
 refine WX.next ?_
 obtain ⟨x9513, hx9514, hf⟩ := bind_some hf
 refine WC.cutN (T := Unit) (fun t => []) (fun t w1 => St NoS w w1 [rowR enc_Tile A_p0 c_p0 p0, rowR encInt A_p1_Cells c_p1_Cells p1.Cells] [] ∧ x9513 = .inr t) (fun Kx9513 => ?_) ?_
 ·
  refine WC.block ?_
  refine WC.loop (T := Int) (fun t => [(0, (.slice A_p0 p0.length c_p0)), (2, (.bool p2)), (4, (pt g9341)), (12, (.slice A_p1_Cells p1.Cells.length c_p1_Cells)), (13, (iv (p1.Cells.length : Int))), (14, (iv t))]) (fun n t w1 => St NoS w w1 [rowR enc_Tile A_p0 c_p0 p0, rowR encInt A_p1_Cells c_p1_Cells p1.Cells] [blk g9341 (.cells #[(iv p1.Width), (iv p1.Height), (.slice A_p1_Cells p1.Cells.length c_p1_Cells)] 27 (0, 0))] ∧ tile_joins.l0 n t p0 p1 p2 = some x9513) k 0 [0, 2, 4, 12, 13, 14] rfl ⟨(hS9343.subR [0, 1]).sub [0] (by decide), hx9514⟩ ?_
  rintro k9515 x9512 w9516 ⟨hS9517, hl9518⟩
  cases k9515 with
  | zero => rw [tile_joins.l0] at hl9518; cases hl9518
  | succ k9515 =>
   rw [tile_joins.l0] at hl9518
   refine WC.seq ?_
   refine WC.region ?_
   refine seg 1 [] [0, 2, 4, 12, 13, 14, 15] [(0, (.slice A_p0 p0.length c_p0)), (2, (.bool p2)), (4, (pt g9341)), (12, (.slice A_p1_Cells p1.Cells.length c_p1_Cells)), (13, (iv (p1.Cells.length : Int))), (14, (iv x9512)), (15, (.bool (decide (x9512 < (p1.Cells.length : Int)))))] [] (fun fb => by kernel_rfl) rfl trivial ?_
   refine WL.done rfl ?_
   refine WX.next ?_
   refine WC.seq ?_
   rcases br_some hl9518 with ⟨h9519, hl9518⟩ | ⟨h9519, hl9518⟩
   ·refine WC.condT2 (fun fb => by kernel_rfl) h9519 ?_
    refine WC.skip ?_
    refine WX.next ?_
    refine WC.seq ?_
    refine WC.block ?_
    refine WC.seq ?_
    refine WC.region ?_
    refine seg 1 [] [0, 2, 4, 12, 13, 14, 16] [(0, (.slice A_p0 p0.length c_p0)), (2, (.bool p2)), (4, (pt g9341)), (12, (.slice A_p1_Cells p1.Cells.length c_p1_Cells)), (13, (iv (p1.Cells.length : Int))), (14, (iv x9512)), (16, (iv x9512))] [] (fun fb => by kernel_rfl) rfl trivial ?_
    obtain ⟨h9520, hl9518⟩ := as_some hl9518
    refine seg 5 [.v (iv (rdD p1.Cells x9512 0))] [0, 2, 4, 7, 8, 12, 13, 14] [(0, (.slice A_p0 p0.length c_p0)), (2, (.bool p2)), (4, (pt g9341)), (7, (iv x9512)), (8, (iv (rdD p1.Cells x9512 0))), (12, (.slice A_p1_Cells p1.Cells.length c_p1_Cells)), (13, (iv (p1.Cells.length : Int))), (14, (iv x9512))] [.idx A_p1_Cells x9512 p1.Cells.length, .cell ((adr A_p1_Cells).add ((x9512).toNat * 1)) (iv (rdD p1.Cells x9512 0))] (fun fb => by kernel_rfl) rfl ⟨rowR.adr (hS9517.rd 1).1 h9520.1 h9520.2, rowR.cell (hS9517.rd 1).1 0 h9520.1 h9520.2 0 rfl, trivial⟩ ?_
    refine WL.done rfl ?_
    refine WX.next ?_
    refine WC.seq ?_
    obtain ⟨h9525, hl9518⟩ := as_some hl9518
    refine WC.regionD ([(2, ⟨g9341, 0, none⟩, (iv p1.Width)), (6, ⟨g9341, 0, none⟩, (iv p1.Width))], [0, 1, 2, 3, 4, 5, 6, 7, 8, 9], [[], [], [1], [0, 1, 2], [], [], [5], [4, 5, 6], [0, 1, 2, 3], [0, 1, 2, 3, 4, 5, 6, 7, 8]]) [[0, 1, 2, 3, 4, 5, 6, 7, 8, 9]] (by kernel_rfl) (by kernel_rfl) (NoPanic.seq (NoPanic.block (NoPanic.seq (NoPanic.seq (NoPanic.block (NoPanic.seq (NoPanic.body))))))) ?_
    have hS9523 := hS9517.drew
    revert hS9523
    generalize World.drew w9516 = w9522
    intro hS9523
    refine ⟨⟨hS9523.cell 0 rfl 0 rfl, hS9523.cell 0 rfl 0 rfl, trivial⟩, forallC ?_ (forallN)⟩
    refine segF 10 [.v (iv p1.Width), .v (iv p1.Width)] [0, 2, 4, 8, 9, 10, 12, 13, 14] [(0, (.slice A_p0 p0.length c_p0)), (2, (.bool p2)), (4, (pt g9341)), (8, (iv (rdD p1.Cells x9512 0))), (9, (iv (Int.tmod x9512 p1.Width))), (10, (iv (w64 (Int.tdiv x9512 p1.Width)))), (12, (.slice A_p1_Cells p1.Cells.length c_p1_Cells)), (13, (iv (p1.Cells.length : Int))), (14, (iv x9512))] [.ne p1.Width, .ne p1.Width] [0, 1] [(2, ⟨g9341, 0, none⟩, (iv p1.Width)), (6, ⟨g9341, 0, none⟩, (iv p1.Width))] (fun fb => by kernel_rfl) rfl ⟨h9525, h9525, trivial⟩ rfl ?_
    refine WL.done rfl ?_
    refine WX.next ?_
    refine WC.seq ?_
    refine WC.seq ?_
    refine WC.region ?_
    refine seg 6 [.v (iv p1.Width)] [0, 2, 4, 8, 9, 10, 12, 13, 14, 32] [(0, (.slice A_p0 p0.length c_p0)), (2, (.bool p2)), (4, (pt g9341)), (8, (iv (rdD p1.Cells x9512 0))), (9, (iv (Int.tmod x9512 p1.Width))), (10, (iv (w64 (Int.tdiv x9512 p1.Width)))), (12, (.slice A_p1_Cells p1.Cells.length c_p1_Cells)), (13, (iv (p1.Cells.length : Int))), (14, (iv x9512)), (32, (.bool (decide (w64 ((Int.tmod x9512 p1.Width) + 1) < p1.Width))))] [.cell ⟨g9341, 0, none⟩ (iv p1.Width)] (fun fb => by kernel_rfl) rfl ⟨hS9523.cell 0 rfl 0 rfl, trivial⟩ ?_
    refine WL.cutV (T := Bool) 8 (fun t => [(34, (.bool t)), (0, (.slice A_p0 p0.length c_p0)), (2, (.bool p2)), (4, (pt g9341)), (8, (iv (rdD p1.Cells x9512 0))), (9, (iv (Int.tmod x9512 p1.Width))), (10, (iv (w64 (Int.tdiv x9512 p1.Width)))), (12, (.slice A_p1_Cells p1.Cells.length c_p1_Cells)), (13, (iv (p1.Cells.length : Int))), (14, (iv x9512))]) (fun t => ((decide (w64 ((Int.tmod x9512 p1.Width) + 1) < p1.Width)) || p2) = t) (fun K => ?_) ?_
    ·
     rcases Bool.eq_false_or_eq_true (decide (w64 ((Int.tmod x9512 p1.Width) + 1) < p1.Width)) with h9526 | h9526
     ·
      refine WL.setB 32 h9526 rfl ?_
      refine seg 8 [] [0, 2, 4, 8, 9, 10, 12, 13, 14, 34] [(0, (.slice A_p0 p0.length c_p0)), (2, (.bool p2)), (4, (pt g9341)), (8, (iv (rdD p1.Cells x9512 0))), (9, (iv (Int.tmod x9512 p1.Width))), (10, (iv (w64 (Int.tdiv x9512 p1.Width)))), (12, (.slice A_p1_Cells p1.Cells.length c_p1_Cells)), (13, (iv (p1.Cells.length : Int))), (14, (iv x9512)), (34, (.bool true))] [] (fun fb => by kernel_rfl) rfl trivial ?_
      exact WL.toV K true [34, 0, 2, 4, 8, 9, 10, 12, 13, 14] rfl (by first | (rw [h9526]; done) | (rw [h9526]; rfl))
     refine WL.setB 32 h9526 rfl ?_
     refine seg 8 [] [0, 2, 4, 8, 9, 10, 12, 13, 14, 34] [(0, (.slice A_p0 p0.length c_p0)), (2, (.bool p2)), (4, (pt g9341)), (8, (iv (rdD p1.Cells x9512 0))), (9, (iv (Int.tmod x9512 p1.Width))), (10, (iv (w64 (Int.tdiv x9512 p1.Width)))), (12, (.slice A_p1_Cells p1.Cells.length c_p1_Cells)), (13, (iv (p1.Cells.length : Int))), (14, (iv x9512)), (34, (.bool p2))] [] (fun fb => by kernel_rfl) rfl trivial ?_
     exact WL.toV K p2 [34, 0, 2, 4, 8, 9, 10, 12, 13, 14] rfl (by first | (rw [h9526]; done) | (rw [h9526]; rfl))
    rintro b9527 rfl
    refine WL.done rfl ?_
    refine WX.next ?_
    obtain ⟨x9541, hx9542, hl9518⟩ := bind_some hl9518
    refine WC.cutN (T := Unit) (fun t => [(0, (.slice A_p0 p0.length c_p0)), (2, (.bool p2)), (4, (pt g9341)), (8, (iv (rdD p1.Cells x9512 0))), (9, (iv (Int.tmod x9512 p1.Width))), (10, (iv (w64 (Int.tdiv x9512 p1.Width)))), (12, (.slice A_p1_Cells p1.Cells.length c_p1_Cells)), (13, (iv (p1.Cells.length : Int))), (14, (iv x9512))]) (fun t w1 => St NoS w w1 [rowR enc_Tile A_p0 c_p0 p0, rowR encInt A_p1_Cells c_p1_Cells p1.Cells] [blk g9341 (.cells #[(iv p1.Width), (iv p1.Height), (.slice A_p1_Cells p1.Cells.length c_p1_Cells)] 27 (0, 0))] ∧ x9541 = .inr t) (fun Kx9541 => ?_) ?_
    ·
     rcases br_some hx9542 with ⟨h9543, hx9542⟩ | ⟨h9543, hx9542⟩
     ·refine WC.condT2 (fun fb => by kernel_rfl) h9543 ?_
      refine WC.seq ?_
      obtain ⟨h9552, hx9542⟩ := as_some hx9542
      obtain ⟨h9553, hx9542⟩ := as_some hx9542
      obtain ⟨h9554, hx9542⟩ := as_some hx9542
      refine WC.regionD ([(4, (((adr A_p0).add (((rdD p1.Cells x9512 0)).toNat * 4)).add 1), (iv ((rdD p0 (rdD p1.Cells x9512 0) z_Tile).E))), (7, ⟨g9341, 2, none⟩, (.slice A_p1_Cells p1.Cells.length c_p1_Cells)), (10, ⟨g9341, 0, none⟩, (iv p1.Width)), (15, ⟨g9341, 0, none⟩, (iv p1.Width)), (19, ((adr A_p1_Cells).add ((w64 ((w64 ((w64 (Int.tdiv x9512 p1.Width)) * p1.Width)) + (Int.tmod (w64 ((Int.tmod x9512 p1.Width) + 1)) p1.Width))).toNat * 1)), (iv (rdD p1.Cells (w64 ((w64 ((w64 (Int.tdiv x9512 p1.Width)) * p1.Width)) + (Int.tmod (w64 ((Int.tmod x9512 p1.Width) + 1)) p1.Width))) 0))), (22, (((adr A_p0).add (((rdD p1.Cells (w64 ((w64 ((w64 (Int.tdiv x9512 p1.Width)) * p1.Width)) + (Int.tmod (w64 ((Int.tmod x9512 p1.Width) + 1)) p1.Width))) 0)).toNat * 4)).add 3), (iv ((rdD p0 (rdD p1.Cells (w64 ((w64 ((w64 (Int.tdiv x9512 p1.Width)) * p1.Width)) + (Int.tmod (w64 ((Int.tmod x9512 p1.Width) + 1)) p1.Width))) 0) z_Tile).W)))], [0, 1, 2, 3, 4, 5, 6, 7, 8, 9, 10, 11, 12, 13, 14, 15, 16, 17, 18, 19, 20, 21, 22, 23], [[], [], [0, 1], [0, 1, 2], [0, 1, 2, 3], [], [], [6], [], [], [9], [8, 9, 10], [], [12], [], [14], [12, 13, 14, 15], [8, 9, 10, 11, 12, 13, 14, 15, 16], [6, 7, 8, 9, 10, 11, 12, 13, 14, 15, 16, 17], [6, 7, 8, 9, 10, 11, 12, 13, 14, 15, 16, 17, 18], [5, 6, 7, 8, 9, 10, 11, 12, 13, 14, 15, 16, 17, 18, 19], [5, 6, 7, 8, 9, 10, 11, 12, 13, 14, 15, 16, 17, 18, 19, 20], [5, 6, 7, 8, 9, 10, 11, 12, 13, 14, 15, 16, 17, 18, 19, 20, 21], [0, 1, 2, 3, 4, 5, 6, 7, 8, 9, 10, 11, 12, 13, 14, 15, 16, 17, 18, 19, 20, 21, 22]]) [[0, 1, 2, 3, 4, 5, 6, 7, 8, 9, 10, 11, 12, 13, 14, 15, 16, 17, 18, 19, 20, 21, 22, 23]] (by kernel_rfl) (by kernel_rfl) (NoPanic.seq (NoPanic.seq (NoPanic.block (NoPanic.seq (NoPanic.seq (NoPanic.block (NoPanic.seq (NoPanic.body)))))))) ?_
      have hS9548 := hS9523.drew
      revert hS9548
      generalize World.drew w9522 = w9547
      intro hS9548
      refine ⟨⟨rowR.cell (hS9548.rd 0).1 z_Tile h9552.1 h9552.2 1 rfl, hS9548.cell 0 rfl 2 rfl, hS9548.cell 0 rfl 0 rfl, hS9548.cell 0 rfl 0 rfl, rowR.cell (hS9548.rd 1).1 0 h9553.1 h9553.2 0 rfl, rowR.cell (hS9548.rd 0).1 z_Tile h9554.1 h9554.2 3 rfl, trivial⟩, forallC ?_ (forallN)⟩
      refine segF 24 [.v (iv ((rdD p0 (rdD p1.Cells x9512 0) z_Tile).E)), .v (.slice A_p1_Cells p1.Cells.length c_p1_Cells), .v (iv p1.Width), .v (iv p1.Width), .v (iv (rdD p1.Cells (w64 ((w64 ((w64 (Int.tdiv x9512 p1.Width)) * p1.Width)) + (Int.tmod (w64 ((Int.tmod x9512 p1.Width) + 1)) p1.Width))) 0)), .v (iv ((rdD p0 (rdD p1.Cells (w64 ((w64 ((w64 (Int.tdiv x9512 p1.Width)) * p1.Width)) + (Int.tmod (w64 ((Int.tmod x9512 p1.Width) + 1)) p1.Width))) 0) z_Tile).W))] [0, 2, 4, 8, 9, 10, 12, 13, 14, 58] [(0, (.slice A_p0 p0.length c_p0)), (2, (.bool p2)), (4, (pt g9341)), (8, (iv (rdD p1.Cells x9512 0))), (9, (iv (Int.tmod x9512 p1.Width))), (10, (iv (w64 (Int.tdiv x9512 p1.Width)))), (12, (.slice A_p1_Cells p1.Cells.length c_p1_Cells)), (13, (iv (p1.Cells.length : Int))), (14, (iv x9512)), (58, (.bool (((rdD p0 (rdD p1.Cells x9512 0) z_Tile).E) != ((rdD p0 (rdD p1.Cells (w64 ((w64 ((w64 (Int.tdiv x9512 p1.Width)) * p1.Width)) + (Int.tmod (w64 ((Int.tmod x9512 p1.Width) + 1)) p1.Width))) 0) z_Tile).W))))] [.idx A_p0 (rdD p1.Cells x9512 0) p0.length, .ne p1.Width, .idx A_p1_Cells (w64 ((w64 ((w64 (Int.tdiv x9512 p1.Width)) * p1.Width)) + (Int.tmod (w64 ((Int.tmod x9512 p1.Width) + 1)) p1.Width))) p1.Cells.length, .idx A_p0 (rdD p1.Cells (w64 ((w64 ((w64 (Int.tdiv x9512 p1.Width)) * p1.Width)) + (Int.tmod (w64 ((Int.tmod x9512 p1.Width) + 1)) p1.Width))) 0) p0.length] [0, 1, 2, 3, 4, 5] [(4, (((adr A_p0).add (((rdD p1.Cells x9512 0)).toNat * 4)).add 1), (iv ((rdD p0 (rdD p1.Cells x9512 0) z_Tile).E))), (7, ⟨g9341, 2, none⟩, (.slice A_p1_Cells p1.Cells.length c_p1_Cells)), (10, ⟨g9341, 0, none⟩, (iv p1.Width)), (15, ⟨g9341, 0, none⟩, (iv p1.Width)), (19, ((adr A_p1_Cells).add ((w64 ((w64 ((w64 (Int.tdiv x9512 p1.Width)) * p1.Width)) + (Int.tmod (w64 ((Int.tmod x9512 p1.Width) + 1)) p1.Width))).toNat * 1)), (iv (rdD p1.Cells (w64 ((w64 ((w64 (Int.tdiv x9512 p1.Width)) * p1.Width)) + (Int.tmod (w64 ((Int.tmod x9512 p1.Width) + 1)) p1.Width))) 0))), (22, (((adr A_p0).add (((rdD p1.Cells (w64 ((w64 ((w64 (Int.tdiv x9512 p1.Width)) * p1.Width)) + (Int.tmod (w64 ((Int.tmod x9512 p1.Width) + 1)) p1.Width))) 0)).toNat * 4)).add 3), (iv ((rdD p0 (rdD p1.Cells (w64 ((w64 ((w64 (Int.tdiv x9512 p1.Width)) * p1.Width)) + (Int.tmod (w64 ((Int.tmod x9512 p1.Width) + 1)) p1.Width))) 0) z_Tile).W)))] (fun fb => by kernel_rfl) rfl ⟨rowR.adr (hS9548.rd 0).1 h9552.1 h9552.2, h9525, rowR.adr (hS9548.rd 1).1 h9553.1 h9553.2, rowR.adr (hS9548.rd 0).1 h9554.1 h9554.2, trivial⟩ rfl ?_
      refine WL.done rfl ?_
      refine WX.next ?_
      rcases br_some hx9542 with ⟨h9555, hx9542⟩ | ⟨h9555, hx9542⟩
      ·refine WC.condT2 (fun fb => by kernel_rfl) h9555 ?_
       refine WC.seq ?_
       refine WC.region ?_
       refine seg 1 [] [6] [(6, (.bool false))] [] (fun fb => by kernel_rfl) rfl trivial ?_
       refine WL.done rfl ?_
       refine WX.next ?_
       refine WC.ret ?_
       injection hx9542 with hx9542
       subst hx9542
       injection hl9518 with hl9518
       subst hl9518
       injection hf with hf
       subst hf
       exact WX.thenR (WX.blockR (WX.thenR (WX.thenR (WX.blockR (WX.thenR (WX.ret_ [] (.bool false) [] (fun fb => by kernel_rfl) trivial ⟨_, rfl, rfl, hS9548.keep⟩))))))
      refine WC.condF2 (fun fb => by kernel_rfl) h9555 ?_
      refine WC.skip ?_
      injection hx9542 with hx9542
      exact WX.to Kx9541 () [0, 2, 4, 8, 9, 10, 12, 13, 14] rfl ⟨(hS9548.subR [0, 1]).sub [0] (by decide), hx9542.symm⟩
     refine WC.condF2 (fun fb => by kernel_rfl) h9543 ?_
     refine WC.skip ?_
     injection hx9542 with hx9542
     exact WX.to Kx9541 () [0, 2, 4, 8, 9, 10, 12, 13, 14] rfl ⟨(hS9523.subR [0, 1]).sub [0] (by decide), hx9542.symm⟩
    rintro y9559 w9556 ⟨hS9557, hq9558⟩
    subst hq9558
    have hl9518 := sum_inr hl9518
    refine WX.next ?_
    refine WC.seq ?_
    refine WC.region ?_
    refine seg 6 [.v (iv p1.Height)] [0, 2, 4, 8, 9, 10, 12, 13, 14, 64] [(0, (.slice A_p0 p0.length c_p0)), (2, (.bool p2)), (4, (pt g9341)), (8, (iv (rdD p1.Cells x9512 0))), (9, (iv (Int.tmod x9512 p1.Width))), (10, (iv (w64 (Int.tdiv x9512 p1.Width)))), (12, (.slice A_p1_Cells p1.Cells.length c_p1_Cells)), (13, (iv (p1.Cells.length : Int))), (14, (iv x9512)), (64, (.bool (decide (w64 ((w64 (Int.tdiv x9512 p1.Width)) + 1) < p1.Height))))] [.cell ⟨g9341, 1, none⟩ (iv p1.Height)] (fun fb => by kernel_rfl) rfl ⟨hS9557.cell 0 rfl 1 rfl, trivial⟩ ?_
    refine WL.cutV (T := Bool) 8 (fun t => [(66, (.bool t)), (0, (.slice A_p0 p0.length c_p0)), (2, (.bool p2)), (4, (pt g9341)), (8, (iv (rdD p1.Cells x9512 0))), (9, (iv (Int.tmod x9512 p1.Width))), (10, (iv (w64 (Int.tdiv x9512 p1.Width)))), (12, (.slice A_p1_Cells p1.Cells.length c_p1_Cells)), (13, (iv (p1.Cells.length : Int))), (14, (iv x9512))]) (fun t => ((decide (w64 ((w64 (Int.tdiv x9512 p1.Width)) + 1) < p1.Height)) || p2) = t) (fun K => ?_) ?_
    ·
     rcases Bool.eq_false_or_eq_true (decide (w64 ((w64 (Int.tdiv x9512 p1.Width)) + 1) < p1.Height)) with h9561 | h9561
     ·
      refine WL.setB 64 h9561 rfl ?_
      refine seg 8 [] [0, 2, 4, 8, 9, 10, 12, 13, 14, 66] [(0, (.slice A_p0 p0.length c_p0)), (2, (.bool p2)), (4, (pt g9341)), (8, (iv (rdD p1.Cells x9512 0))), (9, (iv (Int.tmod x9512 p1.Width))), (10, (iv (w64 (Int.tdiv x9512 p1.Width)))), (12, (.slice A_p1_Cells p1.Cells.length c_p1_Cells)), (13, (iv (p1.Cells.length : Int))), (14, (iv x9512)), (66, (.bool true))] [] (fun fb => by kernel_rfl) rfl trivial ?_
      exact WL.toV K true [66, 0, 2, 4, 8, 9, 10, 12, 13, 14] rfl (by first | (rw [h9561]; done) | (rw [h9561]; rfl))
     refine WL.setB 64 h9561 rfl ?_
     refine seg 8 [] [0, 2, 4, 8, 9, 10, 12, 13, 14, 66] [(0, (.slice A_p0 p0.length c_p0)), (2, (.bool p2)), (4, (pt g9341)), (8, (iv (rdD p1.Cells x9512 0))), (9, (iv (Int.tmod x9512 p1.Width))), (10, (iv (w64 (Int.tdiv x9512 p1.Width)))), (12, (.slice A_p1_Cells p1.Cells.length c_p1_Cells)), (13, (iv (p1.Cells.length : Int))), (14, (iv x9512)), (66, (.bool p2))] [] (fun fb => by kernel_rfl) rfl trivial ?_
     exact WL.toV K p2 [66, 0, 2, 4, 8, 9, 10, 12, 13, 14] rfl (by first | (rw [h9561]; done) | (rw [h9561]; rfl))
    rintro b9562 rfl
    refine WL.done rfl ?_
    refine WX.next ?_
    obtain ⟨x9579, hx9580, hl9518⟩ := bind_some hl9518
    refine WC.cutN (T := Unit) (fun t => [(0, (.slice A_p0 p0.length c_p0)), (2, (.bool p2)), (4, (pt g9341)), (12, (.slice A_p1_Cells p1.Cells.length c_p1_Cells)), (13, (iv (p1.Cells.length : Int))), (14, (iv x9512))]) (fun t w1 => St NoS w w1 [rowR enc_Tile A_p0 c_p0 p0, rowR encInt A_p1_Cells c_p1_Cells p1.Cells] [blk g9341 (.cells #[(iv p1.Width), (iv p1.Height), (.slice A_p1_Cells p1.Cells.length c_p1_Cells)] 27 (0, 0))] ∧ x9579 = .inr t) (fun Kx9579 => ?_) ?_
    ·
     rcases br_some hx9580 with ⟨h9581, hx9580⟩ | ⟨h9581, hx9580⟩
     ·refine WC.condT2 (fun fb => by kernel_rfl) h9581 ?_
      refine WC.seq ?_
      obtain ⟨h9592, hx9580⟩ := as_some hx9580
      obtain ⟨h9593, hx9580⟩ := as_some hx9580
      obtain ⟨h9594, hx9580⟩ := as_some hx9580
      obtain ⟨h9595, hx9580⟩ := as_some hx9580
      refine WC.regionD ([(4, ((adr A_p0).add (((rdD p1.Cells x9512 0)).toNat * 4)), (iv ((rdD p0 (rdD p1.Cells x9512 0) z_Tile).N))), (7, ⟨g9341, 2, none⟩, (.slice A_p1_Cells p1.Cells.length c_p1_Cells)), (11, ⟨g9341, 1, none⟩, (iv p1.Height)), (14, ⟨g9341, 0, none⟩, (iv p1.Width)), (19, ((adr A_p1_Cells).add ((w64 ((w64 ((Int.tmod (w64 ((w64 (Int.tdiv x9512 p1.Width)) + 1)) p1.Height) * p1.Width)) + (Int.tmod x9512 p1.Width))).toNat * 1)), (iv (rdD p1.Cells (w64 ((w64 ((Int.tmod (w64 ((w64 (Int.tdiv x9512 p1.Width)) + 1)) p1.Height) * p1.Width)) + (Int.tmod x9512 p1.Width))) 0))), (22, (((adr A_p0).add (((rdD p1.Cells (w64 ((w64 ((Int.tmod (w64 ((w64 (Int.tdiv x9512 p1.Width)) + 1)) p1.Height) * p1.Width)) + (Int.tmod x9512 p1.Width))) 0)).toNat * 4)).add 2), (iv ((rdD p0 (rdD p1.Cells (w64 ((w64 ((Int.tmod (w64 ((w64 (Int.tdiv x9512 p1.Width)) + 1)) p1.Height) * p1.Width)) + (Int.tmod x9512 p1.Width))) 0) z_Tile).S)))], [0, 1, 2, 3, 4, 5, 6, 7, 8, 9, 10, 11, 12, 13, 14, 15, 16, 17, 18, 19, 20, 21, 22, 23], [[], [], [0, 1], [0, 1, 2], [0, 1, 2, 3], [], [], [6], [], [8], [], [10], [8, 9, 10, 11], [], [13], [8, 9, 10, 11, 12, 13, 14], [], [8, 9, 10, 11, 12, 13, 14, 15, 16], [6, 7, 8, 9, 10, 11, 12, 13, 14, 15, 16, 17], [6, 7, 8, 9, 10, 11, 12, 13, 14, 15, 16, 17, 18], [5, 6, 7, 8, 9, 10, 11, 12, 13, 14, 15, 16, 17, 18, 19], [5, 6, 7, 8, 9, 10, 11, 12, 13, 14, 15, 16, 17, 18, 19, 20], [5, 6, 7, 8, 9, 10, 11, 12, 13, 14, 15, 16, 17, 18, 19, 20, 21], [0, 1, 2, 3, 4, 5, 6, 7, 8, 9, 10, 11, 12, 13, 14, 15, 16, 17, 18, 19, 20, 21, 22]]) [[0, 1, 2, 3, 4, 5, 6, 7, 8, 9, 10, 11, 12, 13, 14, 15, 16, 17, 18, 19, 20, 21, 22, 23]] (by kernel_rfl) (by kernel_rfl) (NoPanic.seq (NoPanic.block (NoPanic.seq (NoPanic.seq (NoPanic.block (NoPanic.seq (NoPanic.body))))))) ?_
      have hS9587 := hS9557.drew
      revert hS9587
      generalize World.drew w9556 = w9586
      intro hS9587
      refine ⟨⟨rowR.cell (hS9587.rd 0).1 z_Tile h9592.1 h9592.2 0 rfl, hS9587.cell 0 rfl 2 rfl, hS9587.cell 0 rfl 1 rfl, hS9587.cell 0 rfl 0 rfl, rowR.cell (hS9587.rd 1).1 0 h9594.1 h9594.2 0 rfl, rowR.cell (hS9587.rd 0).1 z_Tile h9595.1 h9595.2 2 rfl, trivial⟩, forallC ?_ (forallN)⟩
      refine segF 24 [.v (iv ((rdD p0 (rdD p1.Cells x9512 0) z_Tile).N)), .v (.slice A_p1_Cells p1.Cells.length c_p1_Cells), .v (iv p1.Height), .v (iv p1.Width), .v (iv (rdD p1.Cells (w64 ((w64 ((Int.tmod (w64 ((w64 (Int.tdiv x9512 p1.Width)) + 1)) p1.Height) * p1.Width)) + (Int.tmod x9512 p1.Width))) 0)), .v (iv ((rdD p0 (rdD p1.Cells (w64 ((w64 ((Int.tmod (w64 ((w64 (Int.tdiv x9512 p1.Width)) + 1)) p1.Height) * p1.Width)) + (Int.tmod x9512 p1.Width))) 0) z_Tile).S))] [0, 2, 4, 12, 13, 14, 90] [(0, (.slice A_p0 p0.length c_p0)), (2, (.bool p2)), (4, (pt g9341)), (12, (.slice A_p1_Cells p1.Cells.length c_p1_Cells)), (13, (iv (p1.Cells.length : Int))), (14, (iv x9512)), (90, (.bool (((rdD p0 (rdD p1.Cells x9512 0) z_Tile).N) != ((rdD p0 (rdD p1.Cells (w64 ((w64 ((Int.tmod (w64 ((w64 (Int.tdiv x9512 p1.Width)) + 1)) p1.Height) * p1.Width)) + (Int.tmod x9512 p1.Width))) 0) z_Tile).S))))] [.idx A_p0 (rdD p1.Cells x9512 0) p0.length, .ne p1.Height, .idx A_p1_Cells (w64 ((w64 ((Int.tmod (w64 ((w64 (Int.tdiv x9512 p1.Width)) + 1)) p1.Height) * p1.Width)) + (Int.tmod x9512 p1.Width))) p1.Cells.length, .idx A_p0 (rdD p1.Cells (w64 ((w64 ((Int.tmod (w64 ((w64 (Int.tdiv x9512 p1.Width)) + 1)) p1.Height) * p1.Width)) + (Int.tmod x9512 p1.Width))) 0) p0.length] [0, 1, 2, 3, 4, 5] [(4, ((adr A_p0).add (((rdD p1.Cells x9512 0)).toNat * 4)), (iv ((rdD p0 (rdD p1.Cells x9512 0) z_Tile).N))), (7, ⟨g9341, 2, none⟩, (.slice A_p1_Cells p1.Cells.length c_p1_Cells)), (11, ⟨g9341, 1, none⟩, (iv p1.Height)), (14, ⟨g9341, 0, none⟩, (iv p1.Width)), (19, ((adr A_p1_Cells).add ((w64 ((w64 ((Int.tmod (w64 ((w64 (Int.tdiv x9512 p1.Width)) + 1)) p1.Height) * p1.Width)) + (Int.tmod x9512 p1.Width))).toNat * 1)), (iv (rdD p1.Cells (w64 ((w64 ((Int.tmod (w64 ((w64 (Int.tdiv x9512 p1.Width)) + 1)) p1.Height) * p1.Width)) + (Int.tmod x9512 p1.Width))) 0))), (22, (((adr A_p0).add (((rdD p1.Cells (w64 ((w64 ((Int.tmod (w64 ((w64 (Int.tdiv x9512 p1.Width)) + 1)) p1.Height) * p1.Width)) + (Int.tmod x9512 p1.Width))) 0)).toNat * 4)).add 2), (iv ((rdD p0 (rdD p1.Cells (w64 ((w64 ((Int.tmod (w64 ((w64 (Int.tdiv x9512 p1.Width)) + 1)) p1.Height) * p1.Width)) + (Int.tmod x9512 p1.Width))) 0) z_Tile).S)))] (fun fb => by kernel_rfl) rfl ⟨rowR.adr (hS9587.rd 0).1 h9592.1 h9592.2, h9593, rowR.adr (hS9587.rd 1).1 h9594.1 h9594.2, rowR.adr (hS9587.rd 0).1 h9595.1 h9595.2, trivial⟩ rfl ?_
      refine WL.done rfl ?_
      refine WX.next ?_
      rcases br_some hx9580 with ⟨h9596, hx9580⟩ | ⟨h9596, hx9580⟩
      ·refine WC.condT2 (fun fb => by kernel_rfl) h9596 ?_
       refine WC.seq ?_
       refine WC.region ?_
       refine seg 1 [] [6] [(6, (.bool false))] [] (fun fb => by kernel_rfl) rfl trivial ?_
       refine WL.done rfl ?_
       refine WX.next ?_
       refine WC.ret ?_
       injection hx9580 with hx9580
       subst hx9580
       injection hl9518 with hl9518
       subst hl9518
       injection hf with hf
       subst hf
       exact WX.blockR (WX.thenR (WX.thenR (WX.blockR (WX.thenR (WX.ret_ [] (.bool false) [] (fun fb => by kernel_rfl) trivial ⟨_, rfl, rfl, hS9587.keep⟩)))))
      refine WC.condF2 (fun fb => by kernel_rfl) h9596 ?_
      refine WC.skip ?_
      injection hx9580 with hx9580
      exact WX.to Kx9579 () [0, 2, 4, 12, 13, 14] rfl ⟨(hS9587.subR [0, 1]).sub [0] (by decide), hx9580.symm⟩
     refine WC.condF2 (fun fb => by kernel_rfl) h9581 ?_
     refine WC.skip ?_
     injection hx9580 with hx9580
     exact WX.to Kx9579 () [0, 2, 4, 12, 13, 14] rfl ⟨(hS9557.subR [0, 1]).sub [0] (by decide), hx9580.symm⟩
    rintro y9600 w9597 ⟨hS9598, hq9599⟩
    subst hq9599
    have hl9518 := sum_inr hl9518
    refine WX.blockN (WX.next ?_)
    refine WC.region ?_
    refine seg 2 [] [0, 2, 4, 12, 13, 14] [(0, (.slice A_p0 p0.length c_p0)), (2, (.bool p2)), (4, (pt g9341)), (12, (.slice A_p1_Cells p1.Cells.length c_p1_Cells)), (13, (iv (p1.Cells.length : Int))), (14, (iv (w64 (x9512 + 1))))] [] (fun fb => by kernel_rfl) rfl trivial ?_
    refine WL.done rfl ?_
    exact WX.again k9515 (Nat.lt_succ_self _) (w64 (x9512 + 1)) [0, 2, 4, 12, 13, 14] rfl ⟨(hS9598.subR [0, 1]).sub [0] (by decide), hl9518⟩
   refine WC.condF2 (fun fb => by kernel_rfl) h9519 ?_
   refine WC.exit ?_
   injection hl9518 with hl9518
   exact WX.thenX (WX.thenX (WX.blockHere (WX.to Kx9513 () [] rfl ⟨(hS9517.subR [0, 1]).sub [] (by decide), hl9518.symm⟩)))
 rintro y9605 w9602 ⟨hS9603, hq9604⟩
 subst hq9604
 have hf := sum_inr hf
 refine WX.next ?_
 refine WC.seq ?_
 refine WC.region ?_
 refine seg 1 [] [6] [(6, (.bool true))] [] (fun fb => by kernel_rfl) rfl trivial ?_
 refine WL.done rfl ?_
 refine WX.next ?_
 refine WC.ret ?_
 injection hf with hf
 subst hf
 exact WX.ret_ [] (.bool true) [] (fun fb => by kernel_rfl) trivial ⟨_, rfl, rfl, hS9603.keep⟩
theorem tile_Repeats_calls (k : Nat) (p0 : List Tile) (p1 : Pattern) (A_p0 : Option Addr) (c_p0 : Nat) (A_p1_Cells : Option Addr) (c_p1_Cells : Nat) (r : Bool) (w : World) (hR0 : RO NoS w (rowR enc_Tile A_p0 c_p0 p0)) (hR1 : RO NoS w (rowR encInt A_p1_Cells c_p1_Cells p1.Cells)) (hf : tile_Repeats k p0 p1 = some r) :
  CallsR Tryd.prog 48 #[(.slice A_p0 p0.length c_p0), (.agg #[(iv p1.Width), (iv p1.Height), (.slice A_p1_Cells p1.Cells.length c_p1_Cells)])] w (fun v w' => v = (.bool r) ∧ Keeps NoS w w') := by
 have hS : St NoS w w [rowR enc_Tile A_p0 c_p0 p0, rowR encInt A_p1_Cells c_p1_Cells p1.Cells] [] := St.init (ro_cons hR0 (ro_cons hR1 (ro_nil _ _)))
 refine enter 13 Tryd.func48 rfl Tryd.ntmps48 rfl ?_
 unfold tile_Repeats at hf
 refine WC.seq ?_
 refine WC.region ?_
 refine WL.new hS 3 [] (fun g => (.pointer (some ⟨g, 0, none⟩))) (.cells #[(iv p1.Width), (iv p1.Height), (.slice A_p1_Cells p1.Cells.length c_p1_Cells)] 27 (0, 0)) [] (fun fb g => by kernel_rfl) trivial (fun g9237 w9238 hS9239 => ?_)
 refine ⟨trivial, ?_⟩
 refine seg 2 [] [0, 3] [(0, (.slice A_p0 p0.length c_p0)), (3, (pt g9237))] [] (fun fb => by kernel_rfl) rfl trivial ?_
 refine WL.done rfl ?_
 refine WX.next ?_
 refine WC.seq ?_
 refine WC.region ?_
 refine seg 2 [.v (iv p1.Width), .v (iv p1.Height), .v (.slice A_p1_Cells p1.Cells.length c_p1_Cells)] [0, 3, 5, 6] [(0, (.slice A_p0 p0.length c_p0)), (3, (pt g9237)), (5, (.slice A_p0 p0.length c_p0)), (6, (.agg #[(iv p1.Width), (iv p1.Height), (.slice A_p1_Cells p1.Cells.length c_p1_Cells)]))] [.cell ⟨g9237, 0, none⟩ (iv p1.Width), .cell ⟨g9237, 1, none⟩ (iv p1.Height), .cell ⟨g9237, 2, none⟩ (.slice A_p1_Cells p1.Cells.length c_p1_Cells)] (fun fb => by kernel_rfl) rfl ⟨hS9239.cell 0 rfl 0 rfl, hS9239.cell 0 rfl 1 rfl, hS9239.cell 0 rfl 2 rfl, trivial⟩ ?_
 obtain ⟨t9336, ht9337, hf⟩ := bind_some hf
 refine WL.call (some 7) 75 #[(.slice A_p0 p0.length c_p0), (.agg #[(iv p1.Width), (iv p1.Height), (.slice A_p1_Cells p1.Cells.length c_p1_Cells)])] (fun fb => by kernel_rfl) (tile_of_calls _ p0 p1 A_p0 c_p0 A_p1_Cells c_p1_Cells t9336 _ (hS9239.rd 0) (hS9239.rd 1) ht9337) (fun v w9338 hR9339 => ?_)
 obtain ⟨rfl, hk_⟩ := hR9339
 have hS9340 := hS9239.keepN hk_
 refine ⟨trivial, ?_⟩
 refine seg 4 [] [0, 3, 8] [(0, (.slice A_p0 p0.length c_p0)), (3, (pt g9237)), (8, (.bool t9336))] [] (fun fb => by kernel_rfl) rfl trivial ?_
 obtain ⟨x9613, hx9614, hf⟩ := bind_some hf
 refine WL.cutW (T := Bool) 8 (fun t => [(12, (.bool t))]) (fun t w1 => (St NoS w w1 [rowR enc_Tile A_p0 c_p0 p0, rowR encInt A_p1_Cells c_p1_Cells p1.Cells] [] ∧ x9613 = t) ∧ CellsOK [] w1) (fun K => ?_) ?_
 ·
  rcases br_some hx9614 with ⟨h9615, hx9614⟩ | ⟨h9615, hx9614⟩
  ·
   refine WL.setB 8 h9615 rfl ?_
   refine seg 6 [.v (iv p1.Width), .v (iv p1.Height), .v (.slice A_p1_Cells p1.Cells.length c_p1_Cells)] [8, 9, 10] [(8, (.bool true)), (9, (.slice A_p0 p0.length c_p0)), (10, (.agg #[(iv p1.Width), (iv p1.Height), (.slice A_p1_Cells p1.Cells.length c_p1_Cells)]))] [.cell ⟨g9237, 0, none⟩ (iv p1.Width), .cell ⟨g9237, 1, none⟩ (iv p1.Height), .cell ⟨g9237, 2, none⟩ (.slice A_p1_Cells p1.Cells.length c_p1_Cells)] (fun fb => by kernel_rfl) rfl ⟨hS9340.cell 0 rfl 0 rfl, hS9340.cell 0 rfl 1 rfl, hS9340.cell 0 rfl 2 rfl, trivial⟩ ?_
   obtain ⟨t9616, ht9617, hx9614⟩ := bind_some hx9614
   refine WL.call (some 11) 76 #[(.slice A_p0 p0.length c_p0), (.agg #[(iv p1.Width), (iv p1.Height), (.slice A_p1_Cells p1.Cells.length c_p1_Cells)]), (.bool true)] (fun fb => by kernel_rfl) (tile_joins_calls _ p0 p1 true A_p0 c_p0 A_p1_Cells c_p1_Cells t9616 _ (hS9340.rd 0) (hS9340.rd 1) ht9617) (fun v w9618 hR9619 => ?_)
   obtain ⟨rfl, hk_⟩ := hR9619
   have hS9620 := hS9340.keepN hk_
   refine ⟨trivial, ?_⟩
   refine seg 8 [] [12] [(12, (.bool t9616))] [] (fun fb => by kernel_rfl) rfl trivial ?_
   injection hx9614 with hx9614
   exact WL.to K t9616 [12] rfl ⟨⟨(hS9620.subR [0, 1]).sub [] (by decide), hx9614.symm⟩, trivial⟩
  refine WL.setB 8 h9615 rfl ?_
  refine seg 8 [] [12] [(12, (.bool false))] [] (fun fb => by kernel_rfl) rfl trivial ?_
  injection hx9614 with hx9614
  exact WL.to K false [12] rfl ⟨⟨(hS9340.subR [0, 1]).sub [] (by decide), hx9614.symm⟩, trivial⟩
 rintro y9621 w9623 ⟨⟨hS9624, hq9622⟩, hF9625⟩
 subst hq9622
 refine seg 9 [] [4] [(4, (.bool x9613))] [] (fun fb => by kernel_rfl) rfl trivial ?_
 refine WL.done rfl ?_
 refine WX.next ?_
 refine WC.ret ?_
 injection hf with hf
 subst hf
 exact WX.ret_ [] (.bool x9613) [] (fun fb => by kernel_rfl) trivial ⟨_, rfl, rfl, hS9624.keep⟩
end Gp
