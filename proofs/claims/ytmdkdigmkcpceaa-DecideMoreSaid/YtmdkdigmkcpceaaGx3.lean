/- Walks: each function of the program computes its plain function. -/
import Derived.Test.YtmdkdigmkcpceaaGx2
set_option linter.unusedVariables false
set_option linter.unusedSimpArgs false
set_option maxHeartbeats 4000000
namespace Gp
open Go Gw Go.Proofs
theorem law09_chess_calls   (r : (List Tile)) (w : World)  (hf : law09_chess = some r) :
  CallsR Try.prog 36 #[] w (fun v w' => ∃ (A1_ : Option Addr), ∃ (c1_ : Nat), v = (.slice A1_ r.length c1_) ∧ St NoS w w' [] [rowO 24 enc_Tile A1_ c1_ r]) := by
 have hS : St NoS w w [] [] := St.init (ro_nil _ _)
 refine enter 4 Try.func36 rfl Try.ntmps36 rfl ?_
 unfold law09_chess at hf
 refine WC.seq ?_
 refine WC.region ?_
 refine seg 1 [] [] [] [] (fun fb => by kernel_rfl) rfl trivial ?_
 refine WL.done rfl ?_
 refine WX.next ?_
 refine WC.seq ?_
 refine WC.region ?_
 refine seg 2 [] [1, 2] [(1, (.agg #[(iv 0), (iv 1), (iv 1), (iv 0)])), (2, (.agg #[(iv 1), (iv 0), (iv 0), (iv 1)]))] [] (fun fb => by kernel_rfl) rfl trivial ?_
 refine WL.new hS 3 [] (fun g => (.slice (some ⟨g, 0, none⟩) 2 2)) (.cells #[(iv 0), (iv 1), (iv 1), (iv 0), (iv 1), (iv 0), (iv 0), (iv 1)] 24 (0, 0)) [] (fun fb g => by kernel_rfl) trivial (fun g9638 w9639 hS9640 => ?_)
 refine ⟨trivial, ?_⟩
 have hS9642 : St NoS w w9639 [] [rowO 24 enc_Tile (some ⟨g9638, 0, none⟩) 2 [(Tile.mk 0 1 1 0), (Tile.mk 1 0 0 1)]] := hS9640.map1 0 _ (fun h => rowO.ofBlk h rfl (Nat.le_of_ble_eq_true (by kernel_rfl))) (fun _ h => by obtain ⟨_, h1, h2⟩ := h; injection h1 with h1; subst h1; exact h2) [] (by decide) (by decide)
 refine seg 4 [] [0] [(0, (.slice (some ⟨g9638, 0, none⟩) [(Tile.mk 0 1 1 0), (Tile.mk 1 0 0 1)].length 2))] [] (fun fb => by kernel_rfl) rfl trivial ?_
 refine WL.done rfl ?_
 refine WX.next ?_
 refine WC.ret ?_
 injection hf with hf
 subst hf
 exact WX.ret_ [] (.slice (some ⟨g9638, 0, none⟩) [(Tile.mk 0 1 1 0), (Tile.mk 1 0 0 1)].length 2) [] (fun fb => by kernel_rfl) trivial ⟨_, rfl, (some ⟨g9638, 0, none⟩), 2, rfl, (hS9642.sub [0] (by decide)).noR⟩
theorem ref01_Same_calls (k : Nat) (p0 : List Int) (p1 : List Int) (A_p0 : Option Addr) (c_p0 : Nat) (A_p1 : Option Addr) (c_p1 : Nat) (r : Bool) (w : World) (hR0 : RO NoS w (rowR encInt A_p0 c_p0 p0)) (hR1 : RO NoS w (rowR encInt A_p1 c_p1 p1)) (hf : ref01_Same k p0 p1 = some r) :
  CallsR Try.prog 47 #[(.slice A_p0 p0.length c_p0), (.slice A_p1 p1.length c_p1)] w (fun v w' => v = (.bool r) ∧ Keeps NoS w w') := by
 have hS : St NoS w w [rowR encInt A_p0 c_p0 p0, rowR encInt A_p1 c_p1 p1] [] := St.init (ro_cons hR0 (ro_cons hR1 (ro_nil _ _)))
 refine enter 26 Try.func47 rfl Try.ntmps47 rfl ?_
 unfold ref01_Same at hf
 refine WC.seq ?_
 refine WC.region ?_
 refine seg 1 [] [0, 1] [(0, (.slice A_p0 p0.length c_p0)), (1, (.slice A_p1 p1.length c_p1))] [] (fun fb => by kernel_rfl) rfl trivial ?_
 refine WL.done rfl ?_
 refine WX.next ?_
 refine WC.seq ?_
 refine WC.seq ?_
 refine WC.region ?_
 refine seg 5 [] [0, 1, 10] [(0, (.slice A_p0 p0.length c_p0)), (1, (.slice A_p1 p1.length c_p1)), (10, (.bool ((p0.length : Int) != (p1.length : Int))))] [] (fun fb => by kernel_rfl) rfl trivial ?_
 refine WL.done rfl ?_
 refine WX.next ?_
 rcases br_some hf with ⟨h9701, hf⟩ | ⟨h9701, hf⟩
 ·refine WC.condT2 (fun fb => by kernel_rfl) h9701 ?_
  refine WC.seq ?_
  refine WC.region ?_
  refine seg 1 [] [4] [(4, (.bool false))] [] (fun fb => by kernel_rfl) rfl trivial ?_
  refine WL.done rfl ?_
  refine WX.next ?_
  refine WC.ret ?_
  injection hf with hf
  subst hf
  exact WX.thenR (WX.ret_ [] (.bool false) [] (fun fb => by kernel_rfl) trivial ⟨_, rfl, rfl, hS.keep⟩)
 refine WC.condF2 (fun fb => by kernel_rfl) h9701 ?_
 refine WC.skip ?_
 refine WX.next ?_
 refine WC.seq ?_
 refine WC.seq ?_
 refine WC.region ?_
 refine seg 1 [] [0, 1, 5] [(0, (.slice A_p0 p0.length c_p0)), (1, (.slice A_p1 p1.length c_p1)), (5, (iv 0))] [] (fun fb => by kernel_rfl) rfl trivial ?_
 refine WL.done rfl ?_
 refine WX.next ?_
 obtain ⟨x9724, hx9725, hf⟩ := bind_some hf
 refine WC.cutN (T := Unit) (fun t => []) (fun t w1 => St NoS w w1 [rowR encInt A_p0 c_p0 p0, rowR encInt A_p1 c_p1 p1] [] ∧ x9724 = .inr t) (fun Kx9724 => ?_) ?_
 ·
  refine WC.block ?_
  refine WC.loop (T := Int) (fun t => [(0, (.slice A_p0 p0.length c_p0)), (1, (.slice A_p1 p1.length c_p1)), (5, (iv t))]) (fun n t w1 => St NoS w w1 [rowR encInt A_p0 c_p0 p0, rowR encInt A_p1 c_p1 p1] [] ∧ ref01_Same.l0 n t p0 p1 = some x9724) k 0 [0, 1, 5] rfl ⟨(hS.subR [0, 1]).sub [] (by decide), hx9725⟩ ?_
  rintro k9726 x9723 w9727 ⟨hS9728, hl9729⟩
  cases k9726 with
  | zero => rw [ref01_Same.l0] at hl9729; cases hl9729
  | succ k9726 =>
   rw [ref01_Same.l0] at hl9729
   refine WC.seq ?_
   refine WC.seq ?_
   refine WC.region ?_
   refine seg 4 [] [0, 1, 5, 14] [(0, (.slice A_p0 p0.length c_p0)), (1, (.slice A_p1 p1.length c_p1)), (5, (iv x9723)), (14, (.bool (decide (x9723 < (p0.length : Int)))))] [] (fun fb => by kernel_rfl) rfl trivial ?_
   refine WL.done rfl ?_
   refine WX.next ?_
   rcases br_some hl9729 with ⟨h9730, hl9729⟩ | ⟨h9730, hl9729⟩
   ·refine WC.condT2 (fun fb => by kernel_rfl) h9730 ?_
    refine WC.skip ?_
    refine WX.next ?_
    refine WC.seq ?_
    refine WC.block ?_
    refine WC.seq ?_
    obtain ⟨h9737, hl9729⟩ := as_some hl9729
    obtain ⟨h9738, hl9729⟩ := as_some hl9729
    refine WC.regionD ([(3, ((adr A_p0).add ((x9723).toNat * 1)), (iv (rdD p0 x9723 0))), (7, ((adr A_p1).add ((x9723).toNat * 1)), (iv (rdD p1 x9723 0)))], [0, 1, 2, 3, 4, 5, 6, 7, 8], [[], [], [0, 1], [0, 1, 2], [], [], [4, 5], [4, 5, 6], [0, 1, 2, 3, 4, 5, 6, 7]]) [[0, 1, 2, 3, 4, 5, 6, 7, 8]] (by kernel_rfl) (by kernel_rfl) (NoPanic.seq (NoPanic.block (NoPanic.seq (NoPanic.seq (NoPanic.block (NoPanic.seq (NoPanic.body))))))) ?_
    have hS9734 := hS9728.drew
    revert hS9734
    generalize World.drew w9727 = w9733
    intro hS9734
    refine ⟨⟨rowR.cell (hS9734.rd 0).1 0 h9737.1 h9737.2 0 rfl, rowR.cell (hS9734.rd 1).1 0 h9738.1 h9738.2 0 rfl, trivial⟩, forallC ?_ (forallN)⟩
    refine segF 9 [.v (iv (rdD p0 x9723 0)), .v (iv (rdD p1 x9723 0))] [0, 1, 5, 25] [(0, (.slice A_p0 p0.length c_p0)), (1, (.slice A_p1 p1.length c_p1)), (5, (iv x9723)), (25, (.bool ((rdD p0 x9723 0) != (rdD p1 x9723 0))))] [.idx A_p0 x9723 p0.length, .idx A_p1 x9723 p1.length] [0, 1] [(3, ((adr A_p0).add ((x9723).toNat * 1)), (iv (rdD p0 x9723 0))), (7, ((adr A_p1).add ((x9723).toNat * 1)), (iv (rdD p1 x9723 0)))] (fun fb => by kernel_rfl) rfl ⟨rowR.adr (hS9734.rd 0).1 h9737.1 h9737.2, rowR.adr (hS9734.rd 1).1 h9738.1 h9738.2, trivial⟩ rfl ?_
    refine WL.done rfl ?_
    refine WX.next ?_
    rcases br_some hl9729 with ⟨h9739, hl9729⟩ | ⟨h9739, hl9729⟩
    ·refine WC.condT2 (fun fb => by kernel_rfl) h9739 ?_
     refine WC.seq ?_
     refine WC.region ?_
     refine seg 1 [] [4] [(4, (.bool false))] [] (fun fb => by kernel_rfl) rfl trivial ?_
     refine WL.done rfl ?_
     refine WX.next ?_
     refine WC.ret ?_
     injection hl9729 with hl9729
     subst hl9729
     injection hf with hf
     subst hf
     exact WX.blockR (WX.thenR (WX.thenR (WX.blockR (WX.thenR (WX.ret_ [] (.bool false) [] (fun fb => by kernel_rfl) trivial ⟨_, rfl, rfl, hS9734.keep⟩)))))
    refine WC.condF2 (fun fb => by kernel_rfl) h9739 ?_
    refine WC.skip ?_
    refine WX.blockN (WX.next ?_)
    refine WC.region ?_
    refine seg 3 [] [0, 1, 5] [(0, (.slice A_p0 p0.length c_p0)), (1, (.slice A_p1 p1.length c_p1)), (5, (iv (w64 (x9723 + 1))))] [] (fun fb => by kernel_rfl) rfl trivial ?_
    refine WL.done rfl ?_
    exact WX.again k9726 (Nat.lt_succ_self _) (w64 (x9723 + 1)) [0, 1, 5] rfl ⟨(hS9734.subR [0, 1]).sub [] (by decide), hl9729⟩
   refine WC.condF2 (fun fb => by kernel_rfl) h9730 ?_
   refine WC.exit ?_
   injection hl9729 with hl9729
   exact WX.thenX (WX.thenX (WX.blockHere (WX.to Kx9724 () [] rfl ⟨(hS9728.subR [0, 1]).sub [] (by decide), hl9729.symm⟩)))
 rintro y9743 w9740 ⟨hS9741, hq9742⟩
 subst hq9742
 have hf := sum_inr hf
 refine WX.next ?_
 refine WC.seq ?_
 refine WC.region ?_
 refine seg 1 [] [4] [(4, (.bool true))] [] (fun fb => by kernel_rfl) rfl trivial ?_
 refine WL.done rfl ?_
 refine WX.next ?_
 refine WC.ret ?_
 injection hf with hf
 subst hf
 exact WX.ret_ [] (.bool true) [] (fun fb => by kernel_rfl) trivial ⟨_, rfl, rfl, hS9741.keep⟩
theorem ref01_SamePattern_calls (k : Nat) (p0 : Pattern) (p1 : Pattern) (A_p0_Cells : Option Addr) (c_p0_Cells : Nat) (A_p1_Cells : Option Addr) (c_p1_Cells : Nat) (r : Bool) (w : World) (hR0 : RO NoS w (rowR encInt A_p0_Cells c_p0_Cells p0.Cells)) (hR1 : RO NoS w (rowR encInt A_p1_Cells c_p1_Cells p1.Cells)) (hf : ref01_SamePattern k p0 p1 = some r) :
  CallsR Try.prog 26 #[(.agg #[(iv p0.Width), (iv p0.Height), (.slice A_p0_Cells p0.Cells.length c_p0_Cells)]), (.agg #[(iv p1.Width), (iv p1.Height), (.slice A_p1_Cells p1.Cells.length c_p1_Cells)])] w (fun v w' => v = (.bool r) ∧ Keeps NoS w w') := by
 have hS : St NoS w w [rowR encInt A_p0_Cells c_p0_Cells p0.Cells, rowR encInt A_p1_Cells c_p1_Cells p1.Cells] [] := St.init (ro_cons hR0 (ro_cons hR1 (ro_nil _ _)))
 refine enter 24 Try.func26 rfl Try.ntmps26 rfl ?_
 unfold ref01_SamePattern at hf
 refine WC.seq ?_
 refine WC.region ?_
 refine WL.new hS 2 [] (fun g => (.pointer (some ⟨g, 0, none⟩))) (.cells #[(iv p0.Width), (iv p0.Height), (.slice A_p0_Cells p0.Cells.length c_p0_Cells)] 38 (0, 0)) [] (fun fb g => by kernel_rfl) trivial (fun g9691 w9692 hS9693 => ?_)
 refine ⟨trivial, ?_⟩
 refine WL.new hS9693 3 [] (fun g => (.pointer (some ⟨g, 0, none⟩))) (.cells #[(iv p1.Width), (iv p1.Height), (.slice A_p1_Cells p1.Cells.length c_p1_Cells)] 38 (0, 0)) [] (fun fb g => by kernel_rfl) trivial (fun g9695 w9696 hS9697 => ?_)
 refine ⟨trivial, ?_⟩
 refine seg 3 [] [2, 3] [(2, (pt g9691)), (3, (pt g9695))] [] (fun fb => by kernel_rfl) rfl trivial ?_
 refine WL.done rfl ?_
 refine WX.next ?_
 refine WC.seq ?_
 refine WC.region ?_
 refine seg 6 [.v (iv p0.Width), .v (iv p1.Width)] [2, 3, 10] [(2, (pt g9691)), (3, (pt g9695)), (10, (.bool (p0.Width == p1.Width)))] [.cell ⟨g9691, 0, none⟩ (iv p0.Width), .cell ⟨g9695, 0, none⟩ (iv p1.Width)] (fun fb => by kernel_rfl) rfl ⟨hS9697.cell 1 rfl 0 rfl, hS9697.cell 0 rfl 0 rfl, trivial⟩ ?_
 refine WL.cutV (T := Bool) 12 (fun t => [(16, (.bool t)), (2, (pt g9691)), (3, (pt g9695))]) (fun t => ((p0.Width == p1.Width) && (p0.Height == p1.Height)) = t) (fun K => ?_) ?_
 ·
  rcases Bool.eq_false_or_eq_true (p0.Width == p1.Width) with h9699 | h9699
  ·
   refine WL.setB 10 h9699 rfl ?_
   refine seg 12 [.v (iv p0.Height), .v (iv p1.Height)] [2, 3, 16] [(2, (pt g9691)), (3, (pt g9695)), (16, (.bool (p0.Height == p1.Height)))] [.cell ⟨g9691, 1, none⟩ (iv p0.Height), .cell ⟨g9695, 1, none⟩ (iv p1.Height)] (fun fb => by kernel_rfl) rfl ⟨hS9697.cell 1 rfl 1 rfl, hS9697.cell 0 rfl 1 rfl, trivial⟩ ?_
   exact WL.toV K (p0.Height == p1.Height) [16, 2, 3] rfl (by first | (rw [h9699]; done) | (rw [h9699]; rfl))
  refine WL.setB 10 h9699 rfl ?_
  refine seg 12 [] [2, 3, 16] [(2, (pt g9691)), (3, (pt g9695)), (16, (.bool false))] [] (fun fb => by kernel_rfl) rfl trivial ?_
  exact WL.toV K false [16, 2, 3] rfl (by first | (rw [h9699]; done) | (rw [h9699]; rfl))
 rintro b9700 rfl
 refine seg 13 [] [2, 3, 17] [(2, (pt g9691)), (3, (pt g9695)), (17, (.bool ((p0.Width == p1.Width) && (p0.Height == p1.Height))))] [] (fun fb => by kernel_rfl) rfl trivial ?_
 obtain ⟨x9751, hx9752, hf⟩ := bind_some hf
 refine WL.cutW (T := Bool) 19 (fun t => [(23, (.bool t))]) (fun t w1 => (St NoS w w1 [rowR encInt A_p0_Cells c_p0_Cells p0.Cells, rowR encInt A_p1_Cells c_p1_Cells p1.Cells] [] ∧ x9751 = t) ∧ CellsOK [] w1) (fun K => ?_) ?_
 ·
  rcases br_some hx9752 with ⟨h9753, hx9752⟩ | ⟨h9753, hx9752⟩
  ·
   refine WL.setB 17 h9753 rfl ?_
   refine seg 17 [.v (.slice A_p0_Cells p0.Cells.length c_p0_Cells), .v (.slice A_p1_Cells p1.Cells.length c_p1_Cells)] [17, 19, 21] [(17, (.bool true)), (19, (.slice A_p0_Cells p0.Cells.length c_p0_Cells)), (21, (.slice A_p1_Cells p1.Cells.length c_p1_Cells))] [.cell ⟨g9691, 2, none⟩ (.slice A_p0_Cells p0.Cells.length c_p0_Cells), .cell ⟨g9695, 2, none⟩ (.slice A_p1_Cells p1.Cells.length c_p1_Cells)] (fun fb => by kernel_rfl) rfl ⟨hS9697.cell 1 rfl 2 rfl, hS9697.cell 0 rfl 2 rfl, trivial⟩ ?_
   obtain ⟨t9754, ht9755, hx9752⟩ := bind_some hx9752
   refine WL.call (some 22) 47 #[(.slice A_p0_Cells p0.Cells.length c_p0_Cells), (.slice A_p1_Cells p1.Cells.length c_p1_Cells)] (fun fb => by kernel_rfl) (ref01_Same_calls _ p0.Cells p1.Cells A_p0_Cells c_p0_Cells A_p1_Cells c_p1_Cells t9754 _ (hS9697.rd 0) (hS9697.rd 1) ht9755) (fun v w9756 hR9757 => ?_)
   obtain ⟨rfl, hk_⟩ := hR9757
   have hS9758 := hS9697.keepN hk_
   refine ⟨trivial, ?_⟩
   refine seg 19 [] [23] [(23, (.bool t9754))] [] (fun fb => by kernel_rfl) rfl trivial ?_
   injection hx9752 with hx9752
   exact WL.to K t9754 [23] rfl ⟨⟨(hS9758.subR [0, 1]).sub [] (by decide), hx9752.symm⟩, trivial⟩
  refine WL.setB 17 h9753 rfl ?_
  refine seg 19 [] [23] [(23, (.bool false))] [] (fun fb => by kernel_rfl) rfl trivial ?_
  injection hx9752 with hx9752
  exact WL.to K false [23] rfl ⟨⟨(hS9697.subR [0, 1]).sub [] (by decide), hx9752.symm⟩, trivial⟩
 rintro y9759 w9761 ⟨⟨hS9762, hq9760⟩, hF9763⟩
 subst hq9760
 refine seg 20 [] [4] [(4, (.bool x9751))] [] (fun fb => by kernel_rfl) rfl trivial ?_
 refine WL.done rfl ?_
 refine WX.next ?_
 refine WC.ret ?_
 injection hf with hf
 subst hf
 exact WX.ret_ [] (.bool x9751) [] (fun fb => by kernel_rfl) trivial ⟨_, rfl, rfl, hS9762.keep⟩
theorem law09_awake_calls (k : Nat)   (r : Bool) (w : World)  (hf : law09_awake k = some r) :
  CallsR Try.prog 14 #[] w (fun v w' => v = (.bool r) ∧ Keeps NoS w w') := by
 have hS : St NoS w w [] [] := St.init (ro_nil _ _)
 refine enter 63 Try.func14 rfl Try.ntmps14 rfl ?_
 unfold law09_awake at hf
 refine WC.seq ?_
 refine WC.region ?_
 refine seg 1 [] [] [] [] (fun fb => by kernel_rfl) rfl trivial ?_
 refine WL.done rfl ?_
 refine WX.next ?_
 refine WC.seq ?_
 refine WC.region ?_
 refine seg 1 [] [8] [(8, (.agg #[(iv 0), (iv 0), (iv 1), (iv 0)]))] [] (fun fb => by kernel_rfl) rfl trivial ?_
 refine WL.new hS 9 [] (fun g => (.slice (some ⟨g, 0, none⟩) 1 1)) (.cells #[(iv 0), (iv 0), (iv 1), (iv 0)] 24 (0, 0)) [] (fun fb g => by kernel_rfl) trivial (fun g9620 w9621 hS9622 => ?_)
 refine ⟨trivial, ?_⟩
 have hS9624 : St NoS w w9621 [] [rowO 24 enc_Tile (some ⟨g9620, 0, none⟩) 1 [(Tile.mk 0 0 1 0)]] := hS9622.map1 0 _ (fun h => rowO.ofBlk h rfl (Nat.le_of_ble_eq_true (by kernel_rfl))) (fun _ h => by obtain ⟨_, h1, h2⟩ := h; injection h1 with h1; subst h1; exact h2) [] (by decide) (by decide)
 obtain ⟨t9625, ht9626, hf⟩ := bind_some hf
 refine WL.call (some 10) 22 #[(.slice (some ⟨g9620, 0, none⟩) [(Tile.mk 0 0 1 0)].length 1)] (fun fb => by kernel_rfl) (decide_Decide_calls _ [(Tile.mk 0 0 1 0)] (some ⟨g9620, 0, none⟩) 1 t9625 _ (hS9624.ow 0).ofO ht9626) (fun v w9627 hR9628 => ?_)
 obtain ⟨A9630, c9631, rfl, hk_⟩ := hR9628
 have hS9629 : St NoS w w9627 [] [rowO 3 encInt A9630 c9631 t9625.1.Torus.Cells, rowO 24 enc_Tile (some ⟨g9620, 0, none⟩) 1 [(Tile.mk 0 0 1 0)]] := hS9624.call hk_ [] [0] (fun g hg => hg.elim) (by simp) (by decide)
 refine ⟨trivial, ?_⟩
 refine seg 6 [] [11, 12] [(11, (.agg #[(.bool t9625.1.Fills), (iv t9625.1.Torus.Width), (iv t9625.1.Torus.Height), (.slice A9630 t9625.1.Torus.Cells.length c9631), (iv t9625.1.Side)])), (12, (iv t9625.2))] [] (fun fb => by kernel_rfl) rfl trivial ?_
 refine WL.new hS9629 1 [] (fun g => (.pointer (some ⟨g, 0, none⟩))) (.cells #[(.bool false), (iv 0), (iv 0), (.slice none 0 0), (iv 0)] 40 (0, 0)) [] (fun fb g => by kernel_rfl) trivial (fun g9632 w9633 hS9634 => ?_)
 refine ⟨trivial, ?_⟩
 refine WL.store hS9634 0 rfl [(0, (.bool t9625.1.Fills)), (1, (iv t9625.1.Torus.Width)), (2, (iv t9625.1.Torus.Height)), (3, (.slice A9630 t9625.1.Torus.Cells.length c9631)), (4, (iv t9625.1.Side))] #[(.bool t9625.1.Fills), (iv t9625.1.Torus.Width), (iv t9625.1.Torus.Height), (.slice A9630 t9625.1.Torus.Cells.length c9631), (iv t9625.1.Side)] (fun fb => by kernel_rfl) (by kernel_rfl) rfl [1, 2] (by decide) (by decide) (fun w9636 hS9637 => ?_)
 refine ⟨trivial, ?_⟩
 refine seg 9 [] [1, 2] [(1, (pt g9632)), (2, (iv t9625.2))] [] (fun fb => by kernel_rfl) rfl trivial ?_
 refine WL.done rfl ?_
 refine WX.next ?_
 refine WC.seq ?_
 refine WC.region ?_
 obtain ⟨t9643, ht9644, hf⟩ := bind_some hf
 refine WL.call (some 14) 36 #[] (fun fb => by kernel_rfl) (law09_chess_calls t9643 _ ht9644) (fun v w9645 hR9646 => ?_)
 obtain ⟨A9648, c9649, rfl, hk_⟩ := hR9646
 have hS9647 : St NoS w w9645 [] [rowO 24 enc_Tile A9648 c9649 t9643, blk g9632 (.cells #[(.bool t9625.1.Fills), (iv t9625.1.Torus.Width), (iv t9625.1.Torus.Height), (.slice A9630 t9625.1.Torus.Cells.length c9631), (iv t9625.1.Side)] 40 (0, 0)), rowO 3 encInt A9630 c9631 t9625.1.Torus.Cells, rowO 24 enc_Tile (some ⟨g9620, 0, none⟩) 1 [(Tile.mk 0 0 1 0)]] := hS9637.call hk_ [] [0, 1, 2] (fun g hg => hg.elim) (by simp) (by decide)
 refine ⟨trivial, ?_⟩
 obtain ⟨t9650, ht9651, hf⟩ := bind_some hf
 refine WL.call (some 15) 22 #[(.slice A9648 t9643.length c9649)] (fun fb => by kernel_rfl) (decide_Decide_calls _ t9643 A9648 c9649 t9650 _ (hS9647.ow 0).ofO ht9651) (fun v w9652 hR9653 => ?_)
 obtain ⟨A9655, c9656, rfl, hk_⟩ := hR9653
 have hS9654 : St NoS w w9652 [] [rowO 3 encInt A9655 c9656 t9650.1.Torus.Cells, rowO 24 enc_Tile A9648 c9649 t9643, blk g9632 (.cells #[(.bool t9625.1.Fills), (iv t9625.1.Torus.Width), (iv t9625.1.Torus.Height), (.slice A9630 t9625.1.Torus.Cells.length c9631), (iv t9625.1.Side)] 40 (0, 0)), rowO 3 encInt A9630 c9631 t9625.1.Torus.Cells, rowO 24 enc_Tile (some ⟨g9620, 0, none⟩) 1 [(Tile.mk 0 0 1 0)]] := hS9647.call hk_ [] [0, 1, 2, 3] (fun g hg => hg.elim) (by simp) (by decide)
 refine ⟨trivial, ?_⟩
 refine seg 5 [] [1, 2, 16, 17] [(1, (pt g9632)), (2, (iv t9625.2)), (16, (.agg #[(.bool t9650.1.Fills), (iv t9650.1.Torus.Width), (iv t9650.1.Torus.Height), (.slice A9655 t9650.1.Torus.Cells.length c9656), (iv t9650.1.Side)])), (17, (iv t9650.2))] [] (fun fb => by kernel_rfl) rfl trivial ?_
 refine WL.new hS9654 3 [] (fun g => (.pointer (some ⟨g, 0, none⟩))) (.cells #[(.bool false), (iv 0), (iv 0), (.slice none 0 0), (iv 0)] 40 (0, 0)) [] (fun fb g => by kernel_rfl) trivial (fun g9657 w9658 hS9659 => ?_)
 refine ⟨trivial, ?_⟩
 refine WL.store hS9659 0 rfl [(0, (.bool t9650.1.Fills)), (1, (iv t9650.1.Torus.Width)), (2, (iv t9650.1.Torus.Height)), (3, (.slice A9655 t9650.1.Torus.Cells.length c9656)), (4, (iv t9650.1.Side))] #[(.bool t9650.1.Fills), (iv t9650.1.Torus.Width), (iv t9650.1.Torus.Height), (.slice A9655 t9650.1.Torus.Cells.length c9656), (iv t9650.1.Side)] (fun fb => by kernel_rfl) (by kernel_rfl) rfl [1, 2, 3, 4, 5] (by decide) (by decide) (fun w9661 hS9662 => ?_)
 refine ⟨trivial, ?_⟩
 refine seg 8 [] [1, 2, 3, 4] [(1, (pt g9632)), (2, (iv t9625.2)), (3, (pt g9657)), (4, (iv t9650.2))] [] (fun fb => by kernel_rfl) rfl trivial ?_
 refine WL.done rfl ?_
 refine WX.next ?_
 refine WC.seq ?_
 refine WC.region ?_
 obtain ⟨t9663, ht9664, hf⟩ := bind_some hf
 refine WL.call (some 19) 22 #[(.slice none 0 0)] (fun fb => by kernel_rfl) (decide_Decide_calls _ ([] : List Tile) none 0 t9663 _ (RO.nilR _ _ _) ht9664) (fun v w9665 hR9666 => ?_)
 obtain ⟨A9668, c9669, rfl, hk_⟩ := hR9666
 have hS9667 : St NoS w w9665 [] [rowO 3 encInt A9668 c9669 t9663.1.Torus.Cells, blk g9657 (.cells #[(.bool t9650.1.Fills), (iv t9650.1.Torus.Width), (iv t9650.1.Torus.Height), (.slice A9655 t9650.1.Torus.Cells.length c9656), (iv t9650.1.Side)] 40 (0, 0)), rowO 3 encInt A9655 c9656 t9650.1.Torus.Cells, rowO 24 enc_Tile A9648 c9649 t9643, blk g9632 (.cells #[(.bool t9625.1.Fills), (iv t9625.1.Torus.Width), (iv t9625.1.Torus.Height), (.slice A9630 t9625.1.Torus.Cells.length c9631), (iv t9625.1.Side)] 40 (0, 0)), rowO 3 encInt A9630 c9631 t9625.1.Torus.Cells, rowO 24 enc_Tile (some ⟨g9620, 0, none⟩) 1 [(Tile.mk 0 0 1 0)]] := hS9662.call hk_ [] [0, 1, 2, 3, 4, 5] (fun g hg => hg.elim) (by simp) (by decide)
 refine ⟨trivial, ?_⟩
 refine seg 4 [] [1, 2, 3, 4, 20, 21] [(1, (pt g9632)), (2, (iv t9625.2)), (3, (pt g9657)), (4, (iv t9650.2)), (20, (.agg #[(.bool t9663.1.Fills), (iv t9663.1.Torus.Width), (iv t9663.1.Torus.Height), (.slice A9668 t9663.1.Torus.Cells.length c9669), (iv t9663.1.Side)])), (21, (iv t9663.2))] [] (fun fb => by kernel_rfl) rfl trivial ?_
 refine WL.new hS9667 5 [] (fun g => (.pointer (some ⟨g, 0, none⟩))) (.cells #[(.bool false), (iv 0), (iv 0), (.slice none 0 0), (iv 0)] 40 (0, 0)) [] (fun fb g => by kernel_rfl) trivial (fun g9670 w9671 hS9672 => ?_)
 refine ⟨trivial, ?_⟩
 refine WL.store hS9672 0 rfl [(0, (.bool t9663.1.Fills)), (1, (iv t9663.1.Torus.Width)), (2, (iv t9663.1.Torus.Height)), (3, (.slice A9668 t9663.1.Torus.Cells.length c9669)), (4, (iv t9663.1.Side))] #[(.bool t9663.1.Fills), (iv t9663.1.Torus.Width), (iv t9663.1.Torus.Height), (.slice A9668 t9663.1.Torus.Cells.length c9669), (iv t9663.1.Side)] (fun fb => by kernel_rfl) (by kernel_rfl) rfl [1, 2, 3, 4, 5, 6, 7] (by decide) (by decide) (fun w9674 hS9675 => ?_)
 refine ⟨trivial, ?_⟩
 refine seg 7 [] [1, 2, 3, 4, 5, 6] [(1, (pt g9632)), (2, (iv t9625.2)), (3, (pt g9657)), (4, (iv t9650.2)), (5, (pt g9670)), (6, (iv t9663.2))] [] (fun fb => by kernel_rfl) rfl trivial ?_
 refine WL.done rfl ?_
 refine WX.next ?_
 refine WC.seq ?_
 refine WC.region ?_
 refine seg 3 [] [1, 3, 4, 5, 6, 24] [(1, (pt g9632)), (3, (pt g9657)), (4, (iv t9650.2)), (5, (pt g9670)), (6, (iv t9663.2)), (24, (.bool (t9625.2 == 0)))] [] (fun fb => by kernel_rfl) rfl trivial ?_
 refine WL.cutV (T := Bool) 6 (fun t => [(27, (.bool t)), (1, (pt g9632)), (3, (pt g9657)), (5, (pt g9670)), (6, (iv t9663.2))]) (fun t => ((t9625.2 == 0) && (t9650.2 == 0)) = t) (fun K => ?_) ?_
 ·
  rcases Bool.eq_false_or_eq_true (t9625.2 == 0) with h9676 | h9676
  ·
   refine WL.setB 24 h9676 rfl ?_
   refine seg 6 [] [1, 3, 5, 6, 27] [(1, (pt g9632)), (3, (pt g9657)), (5, (pt g9670)), (6, (iv t9663.2)), (27, (.bool (t9650.2 == 0)))] [] (fun fb => by kernel_rfl) rfl trivial ?_
   exact WL.toV K (t9650.2 == 0) [27, 1, 3, 5, 6] rfl (by first | (rw [h9676]; done) | (rw [h9676]; rfl))
  refine WL.setB 24 h9676 rfl ?_
  refine seg 6 [] [1, 3, 5, 6, 27] [(1, (pt g9632)), (3, (pt g9657)), (5, (pt g9670)), (6, (iv t9663.2)), (27, (.bool false))] [] (fun fb => by kernel_rfl) rfl trivial ?_
  exact WL.toV K false [27, 1, 3, 5, 6] rfl (by first | (rw [h9676]; done) | (rw [h9676]; rfl))
 rintro b9677 rfl
 refine seg 7 [] [1, 3, 5, 6, 28] [(1, (pt g9632)), (3, (pt g9657)), (5, (pt g9670)), (6, (iv t9663.2)), (28, (.bool ((t9625.2 == 0) && (t9650.2 == 0))))] [] (fun fb => by kernel_rfl) rfl trivial ?_
 refine WL.cutV (T := Bool) 10 (fun t => [(31, (.bool t)), (1, (pt g9632)), (3, (pt g9657)), (5, (pt g9670))]) (fun t => (((t9625.2 == 0) && (t9650.2 == 0)) && (t9663.2 == 0)) = t) (fun K => ?_) ?_
 ·
  rcases Bool.eq_false_or_eq_true ((t9625.2 == 0) && (t9650.2 == 0)) with h9678 | h9678
  ·
   refine WL.setB 28 h9678 rfl ?_
   refine seg 10 [] [1, 3, 5, 31] [(1, (pt g9632)), (3, (pt g9657)), (5, (pt g9670)), (31, (.bool (t9663.2 == 0)))] [] (fun fb => by kernel_rfl) rfl trivial ?_
   exact WL.toV K (t9663.2 == 0) [31, 1, 3, 5] rfl (by first | (rw [h9678]; done) | (rw [h9678]; rfl))
  refine WL.setB 28 h9678 rfl ?_
  refine seg 10 [] [1, 3, 5, 31] [(1, (pt g9632)), (3, (pt g9657)), (5, (pt g9670)), (31, (.bool false))] [] (fun fb => by kernel_rfl) rfl trivial ?_
  exact WL.toV K false [31, 1, 3, 5] rfl (by first | (rw [h9678]; done) | (rw [h9678]; rfl))
 rintro b9679 rfl
 refine seg 11 [] [1, 3, 5, 32] [(1, (pt g9632)), (3, (pt g9657)), (5, (pt g9670)), (32, (.bool (((t9625.2 == 0) && (t9650.2 == 0)) && (t9663.2 == 0))))] [] (fun fb => by kernel_rfl) rfl trivial ?_
 refine WL.cutV (T := Bool) 15 (fun t => [(36, (.bool t)), (1, (pt g9632)), (3, (pt g9657)), (5, (pt g9670))]) (fun t => ((((t9625.2 == 0) && (t9650.2 == 0)) && (t9663.2 == 0)) && (!t9625.1.Fills)) = t) (fun K => ?_) ?_
 ·
  rcases Bool.eq_false_or_eq_true (((t9625.2 == 0) && (t9650.2 == 0)) && (t9663.2 == 0)) with h9680 | h9680
  ·
   refine WL.setB 32 h9680 rfl ?_
   refine seg 15 [.v (.bool t9625.1.Fills)] [1, 3, 5, 36] [(1, (pt g9632)), (3, (pt g9657)), (5, (pt g9670)), (36, (.bool (!t9625.1.Fills)))] [.cell ⟨g9632, 0, none⟩ (.bool t9625.1.Fills)] (fun fb => by kernel_rfl) rfl ⟨hS9675.cell 5 rfl 0 rfl, trivial⟩ ?_
   exact WL.toV K (!t9625.1.Fills) [36, 1, 3, 5] rfl (by first | (rw [h9680]; done) | (rw [h9680]; rfl))
  refine WL.setB 32 h9680 rfl ?_
  refine seg 15 [] [1, 3, 5, 36] [(1, (pt g9632)), (3, (pt g9657)), (5, (pt g9670)), (36, (.bool false))] [] (fun fb => by kernel_rfl) rfl trivial ?_
  exact WL.toV K false [36, 1, 3, 5] rfl (by first | (rw [h9680]; done) | (rw [h9680]; rfl))
 rintro b9681 rfl
 refine seg 16 [] [1, 3, 5, 37] [(1, (pt g9632)), (3, (pt g9657)), (5, (pt g9670)), (37, (.bool ((((t9625.2 == 0) && (t9650.2 == 0)) && (t9663.2 == 0)) && (!t9625.1.Fills))))] [] (fun fb => by kernel_rfl) rfl trivial ?_
 refine WL.cutV (T := Bool) 20 (fun t => [(41, (.bool t)), (3, (pt g9657)), (5, (pt g9670))]) (fun t => (((((t9625.2 == 0) && (t9650.2 == 0)) && (t9663.2 == 0)) && (!t9625.1.Fills)) && (t9625.1.Side == 2)) = t) (fun K => ?_) ?_
 ·
  rcases Bool.eq_false_or_eq_true ((((t9625.2 == 0) && (t9650.2 == 0)) && (t9663.2 == 0)) && (!t9625.1.Fills)) with h9682 | h9682
  ·
   refine WL.setB 37 h9682 rfl ?_
   refine seg 20 [.v (iv t9625.1.Side)] [3, 5, 41] [(3, (pt g9657)), (5, (pt g9670)), (41, (.bool (t9625.1.Side == 2)))] [.cell ⟨g9632, 4, none⟩ (iv t9625.1.Side)] (fun fb => by kernel_rfl) rfl ⟨hS9675.cell 5 rfl 4 rfl, trivial⟩ ?_
   exact WL.toV K (t9625.1.Side == 2) [41, 3, 5] rfl (by first | (rw [h9682]; done) | (rw [h9682]; rfl))
  refine WL.setB 37 h9682 rfl ?_
  refine seg 20 [] [3, 5, 41] [(3, (pt g9657)), (5, (pt g9670)), (41, (.bool false))] [] (fun fb => by kernel_rfl) rfl trivial ?_
  exact WL.toV K false [41, 3, 5] rfl (by first | (rw [h9682]; done) | (rw [h9682]; rfl))
 rintro b9683 rfl
 refine seg 21 [] [3, 5, 42] [(3, (pt g9657)), (5, (pt g9670)), (42, (.bool (((((t9625.2 == 0) && (t9650.2 == 0)) && (t9663.2 == 0)) && (!t9625.1.Fills)) && (t9625.1.Side == 2))))] [] (fun fb => by kernel_rfl) rfl trivial ?_
 refine WL.cutV (T := Bool) 24 (fun t => [(45, (.bool t)), (3, (pt g9657)), (5, (pt g9670))]) (fun t => ((((((t9625.2 == 0) && (t9650.2 == 0)) && (t9663.2 == 0)) && (!t9625.1.Fills)) && (t9625.1.Side == 2)) && t9650.1.Fills) = t) (fun K => ?_) ?_
 ·
  rcases Bool.eq_false_or_eq_true (((((t9625.2 == 0) && (t9650.2 == 0)) && (t9663.2 == 0)) && (!t9625.1.Fills)) && (t9625.1.Side == 2)) with h9684 | h9684
  ·
   refine WL.setB 42 h9684 rfl ?_
   refine seg 24 [.v (.bool t9650.1.Fills)] [3, 5, 45] [(3, (pt g9657)), (5, (pt g9670)), (45, (.bool t9650.1.Fills))] [.cell ⟨g9657, 0, none⟩ (.bool t9650.1.Fills)] (fun fb => by kernel_rfl) rfl ⟨hS9675.cell 2 rfl 0 rfl, trivial⟩ ?_
   exact WL.toV K t9650.1.Fills [45, 3, 5] rfl (by first | (rw [h9684]; done) | (rw [h9684]; rfl))
  refine WL.setB 42 h9684 rfl ?_
  refine seg 24 [] [3, 5, 45] [(3, (pt g9657)), (5, (pt g9670)), (45, (.bool false))] [] (fun fb => by kernel_rfl) rfl trivial ?_
  exact WL.toV K false [45, 3, 5] rfl (by first | (rw [h9684]; done) | (rw [h9684]; rfl))
 rintro b9685 rfl
 refine seg 25 [] [3, 5, 46] [(3, (pt g9657)), (5, (pt g9670)), (46, (.bool ((((((t9625.2 == 0) && (t9650.2 == 0)) && (t9663.2 == 0)) && (!t9625.1.Fills)) && (t9625.1.Side == 2)) && t9650.1.Fills)))] [] (fun fb => by kernel_rfl) rfl trivial ?_
 obtain ⟨x9770, hx9771, hf⟩ := bind_some hf
 refine WL.cutW (T := Bool) 31 (fun t => [(5, (pt g9670)), (52, (.bool t))]) (fun t w1 => (St NoS w w1 [] [blk g9670 (.cells #[(.bool t9663.1.Fills), (iv t9663.1.Torus.Width), (iv t9663.1.Torus.Height), (.slice A9668 t9663.1.Torus.Cells.length c9669), (iv t9663.1.Side)] 40 (0, 0)), rowO 3 encInt A9668 c9669 t9663.1.Torus.Cells] ∧ x9770 = t) ∧ CellsOK [] w1) (fun K => ?_) ?_
 ·
  rcases br_some hx9771 with ⟨h9772, hx9771⟩ | ⟨h9772, hx9771⟩
  ·
   refine WL.setB 46 h9772 rfl ?_
   refine seg 27 [.v (iv t9650.1.Torus.Width), .v (iv t9650.1.Torus.Height), .v (.slice A9655 t9650.1.Torus.Cells.length c9656)] [5, 46, 48] [(5, (pt g9670)), (46, (.bool true)), (48, (.agg #[(iv t9650.1.Torus.Width), (iv t9650.1.Torus.Height), (.slice A9655 t9650.1.Torus.Cells.length c9656)]))] [.cell ⟨g9657, 1, none⟩ (iv t9650.1.Torus.Width), .cell ⟨g9657, 2, none⟩ (iv t9650.1.Torus.Height), .cell ⟨g9657, 3, none⟩ (.slice A9655 t9650.1.Torus.Cells.length c9656)] (fun fb => by kernel_rfl) rfl ⟨hS9675.cell 2 rfl 1 rfl, hS9675.cell 2 rfl 2 rfl, hS9675.cell 2 rfl 3 rfl, trivial⟩ ?_
   refine WL.new hS9675 49 [] (fun g => (.slice (some ⟨g, 0, none⟩) 4 4)) (.cells #[(iv 0), (iv 1), (iv 1), (iv 0)] 3 (0, 0)) [] (fun fb g => by kernel_rfl) trivial (fun g9773 w9774 hS9775 => ?_)
   refine ⟨trivial, ?_⟩
   have hS9777 : St NoS w w9774 [] [rowO 3 encInt (some ⟨g9773, 0, none⟩) 4 [0, 1, 1, 0], blk g9670 (.cells #[(.bool t9663.1.Fills), (iv t9663.1.Torus.Width), (iv t9663.1.Torus.Height), (.slice A9668 t9663.1.Torus.Cells.length c9669), (iv t9663.1.Side)] 40 (0, 0)), rowO 3 encInt A9668 c9669 t9663.1.Torus.Cells, blk g9657 (.cells #[(.bool t9650.1.Fills), (iv t9650.1.Torus.Width), (iv t9650.1.Torus.Height), (.slice A9655 t9650.1.Torus.Cells.length c9656), (iv t9650.1.Side)] 40 (0, 0)), rowO 3 encInt A9655 c9656 t9650.1.Torus.Cells, rowO 24 enc_Tile A9648 c9649 t9643, blk g9632 (.cells #[(.bool t9625.1.Fills), (iv t9625.1.Torus.Width), (iv t9625.1.Torus.Height), (.slice A9630 t9625.1.Torus.Cells.length c9631), (iv t9625.1.Side)] 40 (0, 0)), rowO 3 encInt A9630 c9631 t9625.1.Torus.Cells, rowO 24 enc_Tile (some ⟨g9620, 0, none⟩) 1 [(Tile.mk 0 0 1 0)]] := hS9775.map1 0 _ (fun h => rowO.ofBlk h rfl (Nat.le_of_ble_eq_true (by kernel_rfl))) (fun _ h => by obtain ⟨_, h1, h2⟩ := h; injection h1 with h1; subst h1; exact h2) [1, 2, 3, 4, 5, 6, 7, 8] (by decide) (by decide)
   refine seg 29 [] [5, 46, 48, 50] [(5, (pt g9670)), (46, (.bool true)), (48, (.agg #[(iv t9650.1.Torus.Width), (iv t9650.1.Torus.Height), (.slice A9655 t9650.1.Torus.Cells.length c9656)])), (50, (.agg #[(iv 2), (iv 2), (.slice (some ⟨g9773, 0, none⟩) [0, 1, 1, 0].length 4)]))] [] (fun fb => by kernel_rfl) rfl trivial ?_
   obtain ⟨t9778, ht9779, hx9771⟩ := bind_some hx9771
   refine WL.call (some 51) 26 #[(.agg #[(iv t9650.1.Torus.Width), (iv t9650.1.Torus.Height), (.slice A9655 t9650.1.Torus.Cells.length c9656)]), (.agg #[(iv 2), (iv 2), (.slice (some ⟨g9773, 0, none⟩) [0, 1, 1, 0].length 4)])] (fun fb => by kernel_rfl) (ref01_SamePattern_calls _ t9650.1.Torus (Pattern.mk 2 2 [0, 1, 1, 0]) A9655 c9656 (some ⟨g9773, 0, none⟩) 4 t9778 _ (hS9777.ow 4).ofO (hS9777.ow 0).ofO ht9779) (fun v w9780 hR9781 => ?_)
   obtain ⟨rfl, hk_⟩ := hR9781
   have hS9782 := hS9777.keepN hk_
   refine ⟨trivial, ?_⟩
   refine seg 31 [] [5, 52] [(5, (pt g9670)), (52, (.bool t9778))] [] (fun fb => by kernel_rfl) rfl trivial ?_
   injection hx9771 with hx9771
   exact WL.to K t9778 [5, 52] rfl ⟨⟨(hS9782.subR []).sub [1, 2] (by decide), hx9771.symm⟩, trivial⟩
  refine WL.setB 46 h9772 rfl ?_
  refine seg 31 [] [5, 52] [(5, (pt g9670)), (52, (.bool false))] [] (fun fb => by kernel_rfl) rfl trivial ?_
  injection hx9771 with hx9771
  exact WL.to K false [5, 52] rfl ⟨⟨(hS9675.subR []).sub [0, 1] (by decide), hx9771.symm⟩, trivial⟩
 rintro y9783 w9785 ⟨⟨hS9786, hq9784⟩, hF9787⟩
 subst hq9784
 refine seg 32 [] [5, 53] [(5, (pt g9670)), (53, (.bool x9770))] [] (fun fb => by kernel_rfl) rfl trivial ?_
 refine WL.cutV (T := Bool) 36 (fun t => [(57, (.bool t)), (5, (pt g9670))]) (fun t => (x9770 && (!t9663.1.Fills)) = t) (fun K => ?_) ?_
 ·
  rcases Bool.eq_false_or_eq_true x9770 with h9788 | h9788
  ·
   refine WL.setB 53 h9788 rfl ?_
   refine seg 36 [.v (.bool t9663.1.Fills)] [5, 57] [(5, (pt g9670)), (57, (.bool (!t9663.1.Fills)))] [.cell ⟨g9670, 0, none⟩ (.bool t9663.1.Fills)] (fun fb => by kernel_rfl) rfl ⟨hS9786.cell 0 rfl 0 rfl, trivial⟩ ?_
   exact WL.toV K (!t9663.1.Fills) [57, 5] rfl (by first | (rw [h9788]; done) | (rw [h9788]; rfl))
  refine WL.setB 53 h9788 rfl ?_
  refine seg 36 [] [5, 57] [(5, (pt g9670)), (57, (.bool false))] [] (fun fb => by kernel_rfl) rfl trivial ?_
  exact WL.toV K false [57, 5] rfl (by first | (rw [h9788]; done) | (rw [h9788]; rfl))
 rintro b9789 rfl
 refine seg 37 [] [5, 58] [(5, (pt g9670)), (58, (.bool (x9770 && (!t9663.1.Fills))))] [] (fun fb => by kernel_rfl) rfl trivial ?_
 refine WL.cutV (T := Bool) 41 (fun t => [(62, (.bool t))]) (fun t => ((x9770 && (!t9663.1.Fills)) && (t9663.1.Side == 1)) = t) (fun K => ?_) ?_
 ·
  rcases Bool.eq_false_or_eq_true (x9770 && (!t9663.1.Fills)) with h9790 | h9790
  ·
   refine WL.setB 58 h9790 rfl ?_
   refine seg 41 [.v (iv t9663.1.Side)] [62] [(62, (.bool (t9663.1.Side == 1)))] [.cell ⟨g9670, 4, none⟩ (iv t9663.1.Side)] (fun fb => by kernel_rfl) rfl ⟨hS9786.cell 0 rfl 4 rfl, trivial⟩ ?_
   exact WL.toV K (t9663.1.Side == 1) [62] rfl (by first | (rw [h9790]; done) | (rw [h9790]; rfl))
  refine WL.setB 58 h9790 rfl ?_
  refine seg 41 [] [62] [(62, (.bool false))] [] (fun fb => by kernel_rfl) rfl trivial ?_
  exact WL.toV K false [62] rfl (by first | (rw [h9790]; done) | (rw [h9790]; rfl))
 rintro b9791 rfl
 refine seg 42 [] [0] [(0, (.bool ((x9770 && (!t9663.1.Fills)) && (t9663.1.Side == 1))))] [] (fun fb => by kernel_rfl) rfl trivial ?_
 refine WL.done rfl ?_
 refine WX.next ?_
 refine WC.ret ?_
 injection hf with hf
 subst hf
 exact WX.ret_ [] (.bool ((x9770 && (!t9663.1.Fills)) && (t9663.1.Side == 1))) [] (fun fb => by kernel_rfl) trivial ⟨_, rfl, rfl, hS9786.keep⟩
theorem law09_DecideMore_calls (k : Nat) (p0 : List Tile) (p1 : Tile) (A_p0 : Option Addr) (c_p0 : Nat) (r : Bool) (w : World) (hR0 : RO NoS w (rowR enc_Tile A_p0 c_p0 p0)) (hf : law09_DecideMore k p0 p1 = some r) :
  CallsR Try.prog 3 #[(.slice A_p0 p0.length c_p0), (.agg #[(iv p1.N), (iv p1.E), (iv p1.S), (iv p1.W)])] w (fun v w' => v = (.bool r) ∧ Keeps NoS w w') := by
 have hS : St NoS w w [rowR enc_Tile A_p0 c_p0 p0] [] := St.init (ro_cons hR0 (ro_nil _ _))
 refine enter 69 Try.func3 rfl Try.ntmps3 rfl ?_
 unfold law09_DecideMore at hf
 refine WC.seq ?_
 refine WC.region ?_
 refine WL.new hS 3 [] (fun g => (.pointer (some ⟨g, 0, none⟩))) (.cells #[(iv p1.N), (iv p1.E), (iv p1.S), (iv p1.W)] 24 (0, 0)) [] (fun fb g => by kernel_rfl) trivial (fun g1 w2 hS3 => ?_)
 refine ⟨trivial, ?_⟩
 refine seg 2 [] [0, 3] [(0, (.slice A_p0 p0.length c_p0)), (3, (pt g1))] [] (fun fb => by kernel_rfl) rfl trivial ?_
 refine WL.done rfl ?_
 refine WX.next ?_
 refine WC.seq ?_
 refine WC.region ?_
 refine seg 1 [] [0, 3, 12] [(0, (.slice A_p0 p0.length c_p0)), (3, (pt g1)), (12, (.slice A_p0 p0.length c_p0))] [] (fun fb => by kernel_rfl) rfl trivial ?_
 obtain ⟨t8961, ht8962, hf⟩ := bind_some hf
 refine WL.call (some 13) 11 #[(.slice A_p0 p0.length c_p0)] (fun fb => by kernel_rfl) (decide_Fills_calls _ p0 A_p0 c_p0 t8961 _ (hS3.rd 0) ht8962) (fun v w8963 hR8964 => ?_)
 obtain ⟨rfl, hk_⟩ := hR8964
 have hS8965 := hS3.keepN hk_
 refine ⟨trivial, ?_⟩
 refine seg 7 [] [0, 3, 5, 6] [(0, (.slice A_p0 p0.length c_p0)), (3, (pt g1)), (5, (.bool t8961.1)), (6, (iv t8961.2))] [] (fun fb => by kernel_rfl) rfl trivial ?_
 refine WL.done rfl ?_
 refine WX.next ?_
 refine WC.seq ?_
 refine WC.seq ?_
 refine WC.region ?_
 refine seg 3 [] [0, 3, 5, 18] [(0, (.slice A_p0 p0.length c_p0)), (3, (pt g1)), (5, (.bool t8961.1)), (18, (.bool (t8961.2 != 0)))] [] (fun fb => by kernel_rfl) rfl trivial ?_
 refine WL.cutV (T := Bool) 7 (fun t => [(22, (.bool t)), (0, (.slice A_p0 p0.length c_p0)), (3, (pt g1)), (5, (.bool t8961.1))]) (fun t => ((t8961.2 != 0) || (decide ((p0.length : Int) ≥ 3))) = t) (fun K => ?_) ?_
 ·
  rcases Bool.eq_false_or_eq_true (t8961.2 != 0) with h8966 | h8966
  ·
   refine WL.setB 18 h8966 rfl ?_
   refine seg 7 [] [0, 3, 5, 22] [(0, (.slice A_p0 p0.length c_p0)), (3, (pt g1)), (5, (.bool t8961.1)), (22, (.bool true))] [] (fun fb => by kernel_rfl) rfl trivial ?_
   exact WL.toV K true [22, 0, 3, 5] rfl (by first | (rw [h8966]; done) | (rw [h8966]; rfl))
  refine WL.setB 18 h8966 rfl ?_
  refine seg 7 [] [0, 3, 5, 22] [(0, (.slice A_p0 p0.length c_p0)), (3, (pt g1)), (5, (.bool t8961.1)), (22, (.bool (decide ((p0.length : Int) ≥ 3))))] [] (fun fb => by kernel_rfl) rfl trivial ?_
  exact WL.toV K (decide ((p0.length : Int) ≥ 3)) [22, 0, 3, 5] rfl (by first | (rw [h8966]; done) | (rw [h8966]; rfl))
 rintro b8967 rfl
 refine seg 8 [] [0, 3, 5, 23] [(0, (.slice A_p0 p0.length c_p0)), (3, (pt g1)), (5, (.bool t8961.1)), (23, (.bool ((t8961.2 != 0) || (decide ((p0.length : Int) ≥ 3)))))] [] (fun fb => by kernel_rfl) rfl trivial ?_
 obtain ⟨x9012, hx9013, hf⟩ := bind_some hf
 refine WL.cutW (T := Bool) 13 (fun t => [(0, (.slice A_p0 p0.length c_p0)), (3, (pt g1)), (5, (.bool t8961.1)), (28, (.bool t))]) (fun t w1 => (St NoS w w1 [rowR enc_Tile A_p0 c_p0 p0] [blk g1 (.cells #[(iv p1.N), (iv p1.E), (iv p1.S), (iv p1.W)] 24 (0, 0))] ∧ x9012 = t) ∧ CellsOK [] w1) (fun K => ?_) ?_
 ·
  rcases br_some hx9013 with ⟨h9014, hx9013⟩ | ⟨h9014, hx9013⟩
  ·
   refine WL.setB 23 h9014 rfl ?_
   refine seg 13 [] [0, 3, 5, 28] [(0, (.slice A_p0 p0.length c_p0)), (3, (pt g1)), (5, (.bool t8961.1)), (28, (.bool true))] [] (fun fb => by kernel_rfl) rfl trivial ?_
   injection hx9013 with hx9013
   exact WL.to K true [0, 3, 5, 28] rfl ⟨⟨(hS8965.subR [0]).sub [0] (by decide), hx9013.symm⟩, trivial⟩
  refine WL.setB 23 h9014 rfl ?_
  refine seg 10 [.v (iv p1.N), .v (iv p1.E), .v (iv p1.S), .v (iv p1.W)] [0, 3, 5, 23, 24, 25] [(0, (.slice A_p0 p0.length c_p0)), (3, (pt g1)), (5, (.bool t8961.1)), (23, (.bool false)), (24, (.slice A_p0 p0.length c_p0)), (25, (.agg #[(iv p1.N), (iv p1.E), (iv p1.S), (iv p1.W)]))] [.cell ⟨g1, 0, none⟩ (iv p1.N), .cell ⟨g1, 1, none⟩ (iv p1.E), .cell ⟨g1, 2, none⟩ (iv p1.S), .cell ⟨g1, 3, none⟩ (iv p1.W)] (fun fb => by kernel_rfl) rfl ⟨hS8965.cell 0 rfl 0 rfl, hS8965.cell 0 rfl 1 rfl, hS8965.cell 0 rfl 2 rfl, hS8965.cell 0 rfl 3 rfl, trivial⟩ ?_
  obtain ⟨t9015, ht9016, hx9013⟩ := bind_some hx9013
  refine WL.call (some 26) 12 #[(.slice A_p0 p0.length c_p0), (.agg #[(iv p1.N), (iv p1.E), (iv p1.S), (iv p1.W)])] (fun fb => by kernel_rfl) (ref01_Index_calls _ p0 p1 A_p0 c_p0 t9015 _ (hS8965.rd 0) ht9016) (fun v w9017 hR9018 => ?_)
  obtain ⟨rfl, hk_⟩ := hR9018
  have hS9019 := hS8965.keepN hk_
  refine ⟨trivial, ?_⟩
  refine seg 13 [] [0, 3, 5, 28] [(0, (.slice A_p0 p0.length c_p0)), (3, (pt g1)), (5, (.bool t8961.1)), (28, (.bool (decide (t9015 ≥ 0))))] [] (fun fb => by kernel_rfl) rfl trivial ?_
  injection hx9013 with hx9013
  exact WL.to K (decide (t9015 ≥ 0)) [0, 3, 5, 28] rfl ⟨⟨(hS9019.subR [0]).sub [0] (by decide), hx9013.symm⟩, trivial⟩
 rintro y9020 w9022 ⟨⟨hS9023, hq9021⟩, hF9024⟩
 subst hq9021
 refine seg 14 [] [0, 3, 5, 29] [(0, (.slice A_p0 p0.length c_p0)), (3, (pt g1)), (5, (.bool t8961.1)), (29, (.bool x9012))] [] (fun fb => by kernel_rfl) rfl trivial ?_
 obtain ⟨x9601, hx9602, hf⟩ := bind_some hf
 refine WL.cutW (T := Bool) 19 (fun t => [(0, (.slice A_p0 p0.length c_p0)), (3, (pt g1)), (5, (.bool t8961.1)), (34, (.bool t))]) (fun t w1 => (St NoS w w1 [rowR enc_Tile A_p0 c_p0 p0] [blk g1 (.cells #[(iv p1.N), (iv p1.E), (iv p1.S), (iv p1.W)] 24 (0, 0))] ∧ x9601 = t) ∧ CellsOK [] w1) (fun K => ?_) ?_
 ·
  rcases br_some hx9602 with ⟨h9603, hx9602⟩ | ⟨h9603, hx9602⟩
  ·
   refine WL.setB 29 h9603 rfl ?_
   refine seg 19 [] [0, 3, 5, 34] [(0, (.slice A_p0 p0.length c_p0)), (3, (pt g1)), (5, (.bool t8961.1)), (34, (.bool true))] [] (fun fb => by kernel_rfl) rfl trivial ?_
   injection hx9602 with hx9602
   exact WL.to K true [0, 3, 5, 34] rfl ⟨⟨(hS9023.subR [0]).sub [0] (by decide), hx9602.symm⟩, trivial⟩
  refine WL.setB 29 h9603 rfl ?_
  refine seg 15 [.v (iv p1.N), .v (iv p1.E), .v (iv p1.S), .v (iv p1.W)] [0, 3, 5, 29, 30] [(0, (.slice A_p0 p0.length c_p0)), (3, (pt g1)), (5, (.bool t8961.1)), (29, (.bool false)), (30, (.agg #[(iv p1.N), (iv p1.E), (iv p1.S), (iv p1.W)]))] [.cell ⟨g1, 0, none⟩ (iv p1.N), .cell ⟨g1, 1, none⟩ (iv p1.E), .cell ⟨g1, 2, none⟩ (iv p1.S), .cell ⟨g1, 3, none⟩ (iv p1.W)] (fun fb => by kernel_rfl) rfl ⟨hS9023.cell 0 rfl 0 rfl, hS9023.cell 0 rfl 1 rfl, hS9023.cell 0 rfl 2 rfl, hS9023.cell 0 rfl 3 rfl, trivial⟩ ?_
  refine WL.new hS9023 31 [] (fun g => (.slice (some ⟨g, 0, none⟩) 1 1)) (.cells #[(iv p1.N), (iv p1.E), (iv p1.S), (iv p1.W)] 24 (0, 0)) [] (fun fb g => by kernel_rfl) trivial (fun g9604 w9605 hS9606 => ?_)
  refine ⟨trivial, ?_⟩
  have hS9608 : St NoS w w9605 [rowR enc_Tile A_p0 c_p0 p0] [rowO 24 enc_Tile (some ⟨g9604, 0, none⟩) 1 [p1], blk g1 (.cells #[(iv p1.N), (iv p1.E), (iv p1.S), (iv p1.W)] 24 (0, 0))] := hS9606.map1 0 _ (fun h => rowO.ofBlk h rfl (Nat.le_of_ble_eq_true (by kernel_rfl))) (fun _ h => by obtain ⟨_, h1, h2⟩ := h; injection h1 with h1; subst h1; exact h2) [1] (by decide) (by decide)
  obtain ⟨t9609, ht9610, hx9602⟩ := bind_some hx9602
  refine WL.call (some 32) 13 #[(.slice (some ⟨g9604, 0, none⟩) [p1].length 1)] (fun fb => by kernel_rfl) (ref01_Valid_calls _ [p1] (some ⟨g9604, 0, none⟩) 1 t9609 _ (hS9608.ow 0).ofO ht9610) (fun v w9611 hR9612 => ?_)
  obtain ⟨rfl, hk_⟩ := hR9612
  have hS9613 := hS9608.keepN hk_
  refine ⟨trivial, ?_⟩
  refine seg 19 [] [0, 3, 5, 34] [(0, (.slice A_p0 p0.length c_p0)), (3, (pt g1)), (5, (.bool t8961.1)), (34, (.bool (!t9609)))] [] (fun fb => by kernel_rfl) rfl trivial ?_
  injection hx9602 with hx9602
  exact WL.to K (!t9609) [0, 3, 5, 34] rfl ⟨⟨(hS9613.subR [0]).sub [1] (by decide), hx9602.symm⟩, trivial⟩
 rintro y9614 w9616 ⟨⟨hS9617, hq9615⟩, hF9618⟩
 subst hq9615
 refine WL.done rfl ?_
 refine WX.next ?_
 rcases br_some hf with ⟨h9619, hf⟩ | ⟨h9619, hf⟩
 ·refine WC.condT2 (fun fb => by kernel_rfl) h9619 ?_
  refine WC.seq ?_
  refine WC.region ?_
  obtain ⟨t9792, ht9793, hf⟩ := bind_some hf
  refine WL.call (some 35) 14 #[] (fun fb => by kernel_rfl) (law09_awake_calls _ t9792 _ ht9793) (fun v w9794 hR9795 => ?_)
  obtain ⟨rfl, hk_⟩ := hR9795
  have hS9796 := hS9617.keepN hk_
  refine ⟨trivial, ?_⟩
  refine seg 2 [] [4] [(4, (.bool t9792))] [] (fun fb => by kernel_rfl) rfl trivial ?_
  refine WL.done rfl ?_
  refine WX.next ?_
  refine WC.ret ?_
  injection hf with hf
  subst hf
  exact WX.thenR (WX.ret_ [] (.bool t9792) [] (fun fb => by kernel_rfl) trivial ⟨_, rfl, rfl, hS9796.keep⟩)
 refine WC.condF2 (fun fb => by kernel_rfl) h9619 ?_
 refine WC.skip ?_
 refine WX.next ?_
 refine WC.seq ?_
 refine WC.seq ?_
 refine WC.region ?_
 refine seg 1 [] [0, 3, 5, 7] [(0, (.slice A_p0 p0.length c_p0)), (3, (pt g1)), (5, (.bool t8961.1)), (7, (iv 0))] [] (fun fb => by kernel_rfl) rfl trivial ?_
 refine WL.done rfl ?_
 refine WX.next ?_
 obtain ⟨x10257, hx10258, hf⟩ := bind_some hf
 refine WC.cutN (T := Unit) (fun t => []) (fun t w1 => St NoS w w1 [rowR enc_Tile A_p0 c_p0 p0] [] ∧ x10257 = .inr t) (fun Kx10257 => ?_) ?_
 ·
  refine WC.block ?_
  refine WC.loop (T := Int) (fun t => [(0, (.slice A_p0 p0.length c_p0)), (3, (pt g1)), (5, (.bool t8961.1)), (7, (iv t))]) (fun n t w1 => St NoS w w1 [rowR enc_Tile A_p0 c_p0 p0] [blk g1 (.cells #[(iv p1.N), (iv p1.E), (iv p1.S), (iv p1.W)] 24 (0, 0))] ∧ law09_DecideMore.l0 n t p0 p1 t8961 = some x10257) k 0 [0, 3, 5, 7] rfl ⟨(hS9617.subR [0]).sub [0] (by decide), hx10258⟩ ?_
  rintro k10259 x10256 w10260 ⟨hS10261, hl10262⟩
  cases k10259 with
  | zero => rw [law09_DecideMore.l0] at hl10262; cases hl10262
  | succ k10259 =>
   rw [law09_DecideMore.l0] at hl10262
   refine WC.seq ?_
   refine WC.seq ?_
   refine WC.region ?_
   refine seg 4 [] [0, 3, 5, 7, 39] [(0, (.slice A_p0 p0.length c_p0)), (3, (pt g1)), (5, (.bool t8961.1)), (7, (iv x10256)), (39, (.bool (decide (x10256 ≤ (p0.length : Int)))))] [] (fun fb => by kernel_rfl) rfl trivial ?_
   refine WL.done rfl ?_
   refine WX.next ?_
   rcases br_some hl10262 with ⟨h10263, hl10262⟩ | ⟨h10263, hl10262⟩
   ·refine WC.condT2 (fun fb => by kernel_rfl) h10263 ?_
    refine WC.skip ?_
    refine WX.next ?_
    refine WC.seq ?_
    refine WC.block ?_
    refine WC.seq ?_
    obtain ⟨x10385, hx10386, hl10262⟩ := bind_some hl10262
    refine WC.cutN (T := (List Tile) × (Option Addr) × Nat) (fun t => [(0, (.slice A_p0 p0.length c_p0)), (3, (pt g1)), (5, (.bool t8961.1)), (7, (iv x10256)), (8, (.slice t.2.1 t.1.length t.2.2))]) (fun t w1 => St NoS w w1 [rowR enc_Tile A_p0 c_p0 p0] [blk g1 (.cells #[(iv p1.N), (iv p1.E), (iv p1.S), (iv p1.W)] 24 (0, 0)), rowO 24 enc_Tile t.2.1 t.2.2 t.1] ∧ x10385 = t.1) (fun Kx10385 => ?_) ?_
    ·
     obtain ⟨h10393, hx10386⟩ := as_some hx10386
     obtain ⟨h10394, hx10386⟩ := as_some hx10386
     refine WC.regionD ([(5, ⟨g1, 0, none⟩, (iv p1.N)), (5, ⟨g1, 1, none⟩, (iv p1.E)), (5, ⟨g1, 2, none⟩, (iv p1.S)), (5, ⟨g1, 3, none⟩, (iv p1.W))], [1, 2, 3, 5, 8, 9, 10, 12], [[], [], [], [1, 2], [0, 1, 2, 3], [], [5], [0, 1, 2, 3, 4, 5, 6], [], [], [8, 9], [0, 1, 2, 3, 4, 5, 6, 7, 8, 9, 10], [0, 1, 2, 3, 4, 5, 6, 7, 8, 9, 10, 11]]) [[1, 2, 3, 5, 8, 9, 10, 0, 4, 6, 7, 11, 12], [1, 2, 3, 5, 8, 9, 10, 0, 6, 4, 7, 11, 12], [1, 2, 3, 5, 8, 9, 10, 6, 0, 4, 7, 11, 12]] (by kernel_rfl) (by kernel_rfl) (NoPanic.seq (NoPanic.block (NoPanic.seq (NoPanic.seq (NoPanic.block (NoPanic.seq (NoPanic.body))))))) ?_
     have hS10388 := hS10261.drew
     revert hS10388
     generalize World.drew w10260 = w10387
     intro hS10388
     refine ⟨⟨hS10388.cell 0 rfl 0 rfl, hS10388.cell 0 rfl 1 rfl, hS10388.cell 0 rfl 2 rfl, hS10388.cell 0 rfl 3 rfl, trivial⟩, forallC ?_ (forallC ?_ (forallC ?_ (forallN)))⟩
     ·
      refine seg 2 [] [0, 3, 5, 7, 43, 44] [(0, (.slice A_p0 p0.length c_p0)), (3, (pt g1)), (5, (.bool t8961.1)), (7, (iv x10256)), (43, (.slice A_p0 p0.length c_p0)), (44, (iv x10256))] [] (fun fb => by kernel_rfl) rfl trivial ?_
      refine seg 3 [] [0, 3, 5, 7, 45] [(0, (.slice A_p0 p0.length c_p0)), (3, (pt g1)), (5, (.bool t8961.1)), (7, (iv x10256)), (45, (.slice (subA A_p0 c_p0 (0 : Int).toNat 4) (x10256.toNat - (0 : Int).toNat) (c_p0 - (0 : Int).toNat)))] [.idx (some ⟨0, 0, none⟩) (0 : Int) (x10256.toNat + 1), .idx (some ⟨0, 0, none⟩) x10256 (c_p0 + 1)] (fun fb => by kernel_rfl) rfl ⟨cut1 h10393.1 h10393.2.1, cut2 h10393.1 h10393.2.1 h10393.2.2 (hS10388.rd 0).1.2, trivial⟩ ?_
      refine WL.reE [0, 3, 5, 7, 45] [(0, (.slice A_p0 p0.length c_p0)), (3, (pt g1)), (5, (.bool t8961.1)), (7, (iv x10256)), (45, (.slice (subA A_p0 c_p0 (0 : Int).toNat 4) (x10256.toNat - (0 : Int).toNat) (c_p0 - (0 : Int).toNat)))] [(0, (.slice A_p0 p0.length c_p0)), (3, (pt g1)), (5, (.bool t8961.1)), (7, (iv x10256)), (45, (.slice (subA A_p0 c_p0 (0 : Int).toNat 4) (cut p0 (0 : Int) x10256).length (c_p0 - (0 : Int).toNat)))] rfl (by rw [cut_length h10393.1 h10393.2.1 h10393.2.2]) ?_
      have hS10395 := hS10388.cutR 0 rfl h10393.1 h10393.2.1 h10393.2.2
      refine segF 6 [.v (iv p1.N), .v (iv p1.E), .v (iv p1.S), .v (iv p1.W)] [0, 3, 5, 7, 45, 47, 50, 51] [(0, (.slice A_p0 p0.length c_p0)), (3, (pt g1)), (5, (.bool t8961.1)), (7, (iv x10256)), (45, (.slice (subA A_p0 c_p0 (0 : Int).toNat 4) (cut p0 (0 : Int) x10256).length (c_p0 - (0 : Int).toNat))), (47, (.agg #[(iv p1.N), (iv p1.E), (iv p1.S), (iv p1.W)])), (50, (.slice A_p0 p0.length c_p0)), (51, (iv x10256))] [] [0, 1, 2, 3] [(5, ⟨g1, 0, none⟩, (iv p1.N)), (5, ⟨g1, 1, none⟩, (iv p1.E)), (5, ⟨g1, 2, none⟩, (iv p1.S)), (5, ⟨g1, 3, none⟩, (iv p1.W))] (fun fb => by kernel_rfl) rfl trivial rfl ?_
      refine seg 7 [] [0, 3, 5, 7, 45, 47, 52] [(0, (.slice A_p0 p0.length c_p0)), (3, (pt g1)), (5, (.bool t8961.1)), (7, (iv x10256)), (45, (.slice (subA A_p0 c_p0 (0 : Int).toNat 4) (cut p0 (0 : Int) x10256).length (c_p0 - (0 : Int).toNat))), (47, (.agg #[(iv p1.N), (iv p1.E), (iv p1.S), (iv p1.W)])), (52, (.slice (subA A_p0 c_p0 x10256.toNat 4) ((p0.length : Int).toNat - x10256.toNat) (c_p0 - x10256.toNat)))] [.idx (some ⟨0, 0, none⟩) x10256 ((p0.length : Int).toNat + 1), .idx (some ⟨0, 0, none⟩) (p0.length : Int) (c_p0 + 1)] (fun fb => by kernel_rfl) rfl ⟨cut1 h10394.1 h10394.2.1, cut2 h10394.1 h10394.2.1 h10394.2.2 (hS10395.rd 1).1.2, trivial⟩ ?_
      refine WL.reE [0, 3, 5, 7, 45, 47, 52] [(0, (.slice A_p0 p0.length c_p0)), (3, (pt g1)), (5, (.bool t8961.1)), (7, (iv x10256)), (45, (.slice (subA A_p0 c_p0 (0 : Int).toNat 4) (cut p0 (0 : Int) x10256).length (c_p0 - (0 : Int).toNat))), (47, (.agg #[(iv p1.N), (iv p1.E), (iv p1.S), (iv p1.W)])), (52, (.slice (subA A_p0 c_p0 x10256.toNat 4) ((p0.length : Int).toNat - x10256.toNat) (c_p0 - x10256.toNat)))] [(0, (.slice A_p0 p0.length c_p0)), (3, (pt g1)), (5, (.bool t8961.1)), (7, (iv x10256)), (45, (.slice (subA A_p0 c_p0 (0 : Int).toNat 4) (cut p0 (0 : Int) x10256).length (c_p0 - (0 : Int).toNat))), (47, (.agg #[(iv p1.N), (iv p1.E), (iv p1.S), (iv p1.W)])), (52, (.slice (subA A_p0 c_p0 x10256.toNat 4) (cut p0 x10256 (p0.length : Int)).length (c_p0 - x10256.toNat)))] rfl (by rw [cut_length h10394.1 h10394.2.1 h10394.2.2]) ?_
      have hS10396 := hS10395.cutR 1 rfl h10394.1 h10394.2.1 h10394.2.2
      refine WL.new hS10396 42 [] (fun g => (.slice (some ⟨g, 0, none⟩) 0 0)) (.cells #[] 24 (0, 0)) [] (fun fb g => by kernel_rfl) trivial (fun g10397 w10398 hS10399 => ?_)
      refine ⟨⟨hS10399.cell 1 rfl 0 rfl, hS10399.cell 1 rfl 1 rfl, hS10399.cell 1 rfl 2 rfl, hS10399.cell 1 rfl 3 rfl, trivial⟩, ?_⟩
      have hS10401 : St NoS w w10398 [rowR enc_Tile (subA A_p0 c_p0 x10256.toNat 4) (c_p0 - x10256.toNat) (cut p0 x10256 (p0.length : Int)), rowR enc_Tile (subA A_p0 c_p0 (0 : Int).toNat 4) (c_p0 - (0 : Int).toNat) (cut p0 (0 : Int) x10256), rowR enc_Tile A_p0 c_p0 p0] [rowO 24 enc_Tile (some ⟨g10397, 0, none⟩) 0 ([] : List Tile), blk g1 (.cells #[(iv p1.N), (iv p1.E), (iv p1.S), (iv p1.W)] 24 (0, 0))] := hS10399.map1 0 _ (fun h => rowO.ofBlk h rfl (Nat.le_of_ble_eq_true (by kernel_rfl))) (fun _ h => by obtain ⟨_, h1, h2⟩ := h; injection h1 with h1; subst h1; exact h2) [1] (by decide) (by decide)
      obtain ⟨h10402, hx10386⟩ := as_some hx10386
      refine WL.append hS10401 0 (d := 46) (tS := 22) (z := (.agg #[(iv 0), (iv 0), (iv 0), (iv 0)])) (bytes := 32) (c2 := (c_p0 - (0 : Int).toNat)) rfl (fun fb => by kernel_rfl) (hS10401.rd 1).1 (by kernel_rfl) (by kernel_rfl) rfl (by decide) h10402 (by decide) [1] (by decide) (by decide) (fun A10403 c10404 w10405 hS10406 => ?_)
      refine ⟨⟨hS10406.cell 1 rfl 0 rfl, hS10406.cell 1 rfl 1 rfl, hS10406.cell 1 rfl 2 rfl, hS10406.cell 1 rfl 3 rfl, trivial⟩, ?_⟩
      refine WL.new hS10406 48 [] (fun g => (.slice (some ⟨g, 0, none⟩) 1 1)) (.cells #[(iv p1.N), (iv p1.E), (iv p1.S), (iv p1.W)] 24 (0, 0)) [] (fun fb g => by kernel_rfl) trivial (fun g10407 w10408 hS10409 => ?_)
      refine ⟨trivial, ?_⟩
      have hS10411 : St NoS w w10408 [rowR enc_Tile (subA A_p0 c_p0 x10256.toNat 4) (c_p0 - x10256.toNat) (cut p0 x10256 (p0.length : Int)), rowR enc_Tile (subA A_p0 c_p0 (0 : Int).toNat 4) (c_p0 - (0 : Int).toNat) (cut p0 (0 : Int) x10256), rowR enc_Tile A_p0 c_p0 p0] [rowO 24 enc_Tile (some ⟨g10407, 0, none⟩) 1 [p1], rowO 24 enc_Tile A10403 c10404 (([] : List Tile) ++ (cut p0 (0 : Int) x10256)), blk g1 (.cells #[(iv p1.N), (iv p1.E), (iv p1.S), (iv p1.W)] 24 (0, 0))] := hS10409.map1 0 _ (fun h => rowO.ofBlk h rfl (Nat.le_of_ble_eq_true (by kernel_rfl))) (fun _ h => by obtain ⟨_, h1, h2⟩ := h; injection h1 with h1; subst h1; exact h2) [1, 2] (by decide) (by decide)
      obtain ⟨h10412, hx10386⟩ := as_some hx10386
      refine WL.append hS10411 1 (d := 49) (tS := 22) (z := (.agg #[(iv 0), (iv 0), (iv 0), (iv 0)])) (bytes := 32) (c2 := 1) rfl (fun fb => by kernel_rfl) (rowO.rd (hS10411.own 0).1) (by kernel_rfl) (by kernel_rfl) rfl (by decide) h10412 (by decide) [0, 2] (by decide) (by decide) (fun A10413 c10414 w10415 hS10416 => ?_)
      refine ⟨trivial, ?_⟩
      obtain ⟨h10417, hx10386⟩ := as_some hx10386
      refine WL.append hS10416 0 (d := 53) (tS := 22) (z := (.agg #[(iv 0), (iv 0), (iv 0), (iv 0)])) (bytes := 32) (c2 := (c_p0 - x10256.toNat)) rfl (fun fb => by kernel_rfl) (hS10416.rd 0).1 (by kernel_rfl) (by kernel_rfl) rfl (by decide) h10417 (by decide) [1, 2] (by decide) (by decide) (fun A10418 c10419 w10420 hS10421 => ?_)
      refine ⟨trivial, ?_⟩
      refine seg 13 [] [0, 3, 5, 7, 8] [(0, (.slice A_p0 p0.length c_p0)), (3, (pt g1)), (5, (.bool t8961.1)), (7, (iv x10256)), (8, (.slice A10418 (((([] : List Tile) ++ (cut p0 (0 : Int) x10256)) ++ [p1]) ++ (cut p0 x10256 (p0.length : Int))).length c10419))] [] (fun fb => by kernel_rfl) rfl trivial ?_
      refine WL.done rfl ?_
      injection hx10386 with hx10386
      exact WX.to Kx10385 (((([] : List Tile) ++ (cut p0 (0 : Int) x10256)) ++ [p1]) ++ (cut p0 x10256 (p0.length : Int)), A10418, c10419) [0, 3, 5, 7, 8] rfl ⟨(hS10421.subR [2]).sub [2, 0] (by decide), hx10386.symm⟩
     ·
      refine seg 2 [] [0, 3, 5, 7, 43, 44] [(0, (.slice A_p0 p0.length c_p0)), (3, (pt g1)), (5, (.bool t8961.1)), (7, (iv x10256)), (43, (.slice A_p0 p0.length c_p0)), (44, (iv x10256))] [] (fun fb => by kernel_rfl) rfl trivial ?_
      refine seg 3 [] [0, 3, 5, 7, 45] [(0, (.slice A_p0 p0.length c_p0)), (3, (pt g1)), (5, (.bool t8961.1)), (7, (iv x10256)), (45, (.slice (subA A_p0 c_p0 (0 : Int).toNat 4) (x10256.toNat - (0 : Int).toNat) (c_p0 - (0 : Int).toNat)))] [.idx (some ⟨0, 0, none⟩) (0 : Int) (x10256.toNat + 1), .idx (some ⟨0, 0, none⟩) x10256 (c_p0 + 1)] (fun fb => by kernel_rfl) rfl ⟨cut1 h10393.1 h10393.2.1, cut2 h10393.1 h10393.2.1 h10393.2.2 (hS10388.rd 0).1.2, trivial⟩ ?_
      refine WL.reE [0, 3, 5, 7, 45] [(0, (.slice A_p0 p0.length c_p0)), (3, (pt g1)), (5, (.bool t8961.1)), (7, (iv x10256)), (45, (.slice (subA A_p0 c_p0 (0 : Int).toNat 4) (x10256.toNat - (0 : Int).toNat) (c_p0 - (0 : Int).toNat)))] [(0, (.slice A_p0 p0.length c_p0)), (3, (pt g1)), (5, (.bool t8961.1)), (7, (iv x10256)), (45, (.slice (subA A_p0 c_p0 (0 : Int).toNat 4) (cut p0 (0 : Int) x10256).length (c_p0 - (0 : Int).toNat)))] rfl (by rw [cut_length h10393.1 h10393.2.1 h10393.2.2]) ?_
      have hS10422 := hS10388.cutR 0 rfl h10393.1 h10393.2.1 h10393.2.2
      refine segF 6 [.v (iv p1.N), .v (iv p1.E), .v (iv p1.S), .v (iv p1.W)] [0, 3, 5, 7, 45, 47, 50, 51] [(0, (.slice A_p0 p0.length c_p0)), (3, (pt g1)), (5, (.bool t8961.1)), (7, (iv x10256)), (45, (.slice (subA A_p0 c_p0 (0 : Int).toNat 4) (cut p0 (0 : Int) x10256).length (c_p0 - (0 : Int).toNat))), (47, (.agg #[(iv p1.N), (iv p1.E), (iv p1.S), (iv p1.W)])), (50, (.slice A_p0 p0.length c_p0)), (51, (iv x10256))] [] [0, 1, 2, 3] [(5, ⟨g1, 0, none⟩, (iv p1.N)), (5, ⟨g1, 1, none⟩, (iv p1.E)), (5, ⟨g1, 2, none⟩, (iv p1.S)), (5, ⟨g1, 3, none⟩, (iv p1.W))] (fun fb => by kernel_rfl) rfl trivial rfl ?_
      refine seg 7 [] [0, 3, 5, 7, 45, 47, 52] [(0, (.slice A_p0 p0.length c_p0)), (3, (pt g1)), (5, (.bool t8961.1)), (7, (iv x10256)), (45, (.slice (subA A_p0 c_p0 (0 : Int).toNat 4) (cut p0 (0 : Int) x10256).length (c_p0 - (0 : Int).toNat))), (47, (.agg #[(iv p1.N), (iv p1.E), (iv p1.S), (iv p1.W)])), (52, (.slice (subA A_p0 c_p0 x10256.toNat 4) ((p0.length : Int).toNat - x10256.toNat) (c_p0 - x10256.toNat)))] [.idx (some ⟨0, 0, none⟩) x10256 ((p0.length : Int).toNat + 1), .idx (some ⟨0, 0, none⟩) (p0.length : Int) (c_p0 + 1)] (fun fb => by kernel_rfl) rfl ⟨cut1 h10394.1 h10394.2.1, cut2 h10394.1 h10394.2.1 h10394.2.2 (hS10422.rd 1).1.2, trivial⟩ ?_
      refine WL.reE [0, 3, 5, 7, 45, 47, 52] [(0, (.slice A_p0 p0.length c_p0)), (3, (pt g1)), (5, (.bool t8961.1)), (7, (iv x10256)), (45, (.slice (subA A_p0 c_p0 (0 : Int).toNat 4) (cut p0 (0 : Int) x10256).length (c_p0 - (0 : Int).toNat))), (47, (.agg #[(iv p1.N), (iv p1.E), (iv p1.S), (iv p1.W)])), (52, (.slice (subA A_p0 c_p0 x10256.toNat 4) ((p0.length : Int).toNat - x10256.toNat) (c_p0 - x10256.toNat)))] [(0, (.slice A_p0 p0.length c_p0)), (3, (pt g1)), (5, (.bool t8961.1)), (7, (iv x10256)), (45, (.slice (subA A_p0 c_p0 (0 : Int).toNat 4) (cut p0 (0 : Int) x10256).length (c_p0 - (0 : Int).toNat))), (47, (.agg #[(iv p1.N), (iv p1.E), (iv p1.S), (iv p1.W)])), (52, (.slice (subA A_p0 c_p0 x10256.toNat 4) (cut p0 x10256 (p0.length : Int)).length (c_p0 - x10256.toNat)))] rfl (by rw [cut_length h10394.1 h10394.2.1 h10394.2.2]) ?_
      have hS10423 := hS10422.cutR 1 rfl h10394.1 h10394.2.1 h10394.2.2
      refine WL.new hS10423 42 [] (fun g => (.slice (some ⟨g, 0, none⟩) 0 0)) (.cells #[] 24 (0, 0)) [] (fun fb g => by kernel_rfl) trivial (fun g10424 w10425 hS10426 => ?_)
      refine ⟨⟨hS10426.cell 1 rfl 0 rfl, hS10426.cell 1 rfl 1 rfl, hS10426.cell 1 rfl 2 rfl, hS10426.cell 1 rfl 3 rfl, trivial⟩, ?_⟩
      have hS10428 : St NoS w w10425 [rowR enc_Tile (subA A_p0 c_p0 x10256.toNat 4) (c_p0 - x10256.toNat) (cut p0 x10256 (p0.length : Int)), rowR enc_Tile (subA A_p0 c_p0 (0 : Int).toNat 4) (c_p0 - (0 : Int).toNat) (cut p0 (0 : Int) x10256), rowR enc_Tile A_p0 c_p0 p0] [rowO 24 enc_Tile (some ⟨g10424, 0, none⟩) 0 ([] : List Tile), blk g1 (.cells #[(iv p1.N), (iv p1.E), (iv p1.S), (iv p1.W)] 24 (0, 0))] := hS10426.map1 0 _ (fun h => rowO.ofBlk h rfl (Nat.le_of_ble_eq_true (by kernel_rfl))) (fun _ h => by obtain ⟨_, h1, h2⟩ := h; injection h1 with h1; subst h1; exact h2) [1] (by decide) (by decide)
      refine WL.new hS10428 48 [] (fun g => (.slice (some ⟨g, 0, none⟩) 1 1)) (.cells #[(iv p1.N), (iv p1.E), (iv p1.S), (iv p1.W)] 24 (0, 0)) [] (fun fb g => by kernel_rfl) trivial (fun g10429 w10430 hS10431 => ?_)
      refine ⟨trivial, ?_⟩
      have hS10433 : St NoS w w10430 [rowR enc_Tile (subA A_p0 c_p0 x10256.toNat 4) (c_p0 - x10256.toNat) (cut p0 x10256 (p0.length : Int)), rowR enc_Tile (subA A_p0 c_p0 (0 : Int).toNat 4) (c_p0 - (0 : Int).toNat) (cut p0 (0 : Int) x10256), rowR enc_Tile A_p0 c_p0 p0] [rowO 24 enc_Tile (some ⟨g10429, 0, none⟩) 1 [p1], rowO 24 enc_Tile (some ⟨g10424, 0, none⟩) 0 ([] : List Tile), blk g1 (.cells #[(iv p1.N), (iv p1.E), (iv p1.S), (iv p1.W)] 24 (0, 0))] := hS10431.map1 0 _ (fun h => rowO.ofBlk h rfl (Nat.le_of_ble_eq_true (by kernel_rfl))) (fun _ h => by obtain ⟨_, h1, h2⟩ := h; injection h1 with h1; subst h1; exact h2) [1, 2] (by decide) (by decide)
      obtain ⟨h10434, hx10386⟩ := as_some hx10386
      refine WL.append hS10433 1 (d := 46) (tS := 22) (z := (.agg #[(iv 0), (iv 0), (iv 0), (iv 0)])) (bytes := 32) (c2 := (c_p0 - (0 : Int).toNat)) rfl (fun fb => by kernel_rfl) (hS10433.rd 1).1 (by kernel_rfl) (by kernel_rfl) rfl (by decide) h10434 (by decide) [0, 2] (by decide) (by decide) (fun A10435 c10436 w10437 hS10438 => ?_)
      refine ⟨⟨hS10438.cell 2 rfl 0 rfl, hS10438.cell 2 rfl 1 rfl, hS10438.cell 2 rfl 2 rfl, hS10438.cell 2 rfl 3 rfl, trivial⟩, ?_⟩
      obtain ⟨h10439, hx10386⟩ := as_some hx10386
      refine WL.append hS10438 0 (d := 49) (tS := 22) (z := (.agg #[(iv 0), (iv 0), (iv 0), (iv 0)])) (bytes := 32) (c2 := 1) rfl (fun fb => by kernel_rfl) (rowO.rd (hS10438.own 1).1) (by kernel_rfl) (by kernel_rfl) rfl (by decide) h10439 (by decide) [1, 2] (by decide) (by decide) (fun A10440 c10441 w10442 hS10443 => ?_)
      refine ⟨trivial, ?_⟩
      obtain ⟨h10444, hx10386⟩ := as_some hx10386
      refine WL.append hS10443 0 (d := 53) (tS := 22) (z := (.agg #[(iv 0), (iv 0), (iv 0), (iv 0)])) (bytes := 32) (c2 := (c_p0 - x10256.toNat)) rfl (fun fb => by kernel_rfl) (hS10443.rd 0).1 (by kernel_rfl) (by kernel_rfl) rfl (by decide) h10444 (by decide) [1, 2] (by decide) (by decide) (fun A10445 c10446 w10447 hS10448 => ?_)
      refine ⟨trivial, ?_⟩
      refine seg 13 [] [0, 3, 5, 7, 8] [(0, (.slice A_p0 p0.length c_p0)), (3, (pt g1)), (5, (.bool t8961.1)), (7, (iv x10256)), (8, (.slice A10445 (((([] : List Tile) ++ (cut p0 (0 : Int) x10256)) ++ [p1]) ++ (cut p0 x10256 (p0.length : Int))).length c10446))] [] (fun fb => by kernel_rfl) rfl trivial ?_
      refine WL.done rfl ?_
      injection hx10386 with hx10386
      exact WX.to Kx10385 (((([] : List Tile) ++ (cut p0 (0 : Int) x10256)) ++ [p1]) ++ (cut p0 x10256 (p0.length : Int)), A10445, c10446) [0, 3, 5, 7, 8] rfl ⟨(hS10448.subR [2]).sub [2, 0] (by decide), hx10386.symm⟩
     refine seg 2 [] [0, 3, 5, 7, 43, 44] [(0, (.slice A_p0 p0.length c_p0)), (3, (pt g1)), (5, (.bool t8961.1)), (7, (iv x10256)), (43, (.slice A_p0 p0.length c_p0)), (44, (iv x10256))] [] (fun fb => by kernel_rfl) rfl trivial ?_
     refine seg 3 [] [0, 3, 5, 7, 45] [(0, (.slice A_p0 p0.length c_p0)), (3, (pt g1)), (5, (.bool t8961.1)), (7, (iv x10256)), (45, (.slice (subA A_p0 c_p0 (0 : Int).toNat 4) (x10256.toNat - (0 : Int).toNat) (c_p0 - (0 : Int).toNat)))] [.idx (some ⟨0, 0, none⟩) (0 : Int) (x10256.toNat + 1), .idx (some ⟨0, 0, none⟩) x10256 (c_p0 + 1)] (fun fb => by kernel_rfl) rfl ⟨cut1 h10393.1 h10393.2.1, cut2 h10393.1 h10393.2.1 h10393.2.2 (hS10388.rd 0).1.2, trivial⟩ ?_
     refine WL.reE [0, 3, 5, 7, 45] [(0, (.slice A_p0 p0.length c_p0)), (3, (pt g1)), (5, (.bool t8961.1)), (7, (iv x10256)), (45, (.slice (subA A_p0 c_p0 (0 : Int).toNat 4) (x10256.toNat - (0 : Int).toNat) (c_p0 - (0 : Int).toNat)))] [(0, (.slice A_p0 p0.length c_p0)), (3, (pt g1)), (5, (.bool t8961.1)), (7, (iv x10256)), (45, (.slice (subA A_p0 c_p0 (0 : Int).toNat 4) (cut p0 (0 : Int) x10256).length (c_p0 - (0 : Int).toNat)))] rfl (by rw [cut_length h10393.1 h10393.2.1 h10393.2.2]) ?_
     have hS10449 := hS10388.cutR 0 rfl h10393.1 h10393.2.1 h10393.2.2
     refine segF 6 [.v (iv p1.N), .v (iv p1.E), .v (iv p1.S), .v (iv p1.W)] [0, 3, 5, 7, 45, 47, 50, 51] [(0, (.slice A_p0 p0.length c_p0)), (3, (pt g1)), (5, (.bool t8961.1)), (7, (iv x10256)), (45, (.slice (subA A_p0 c_p0 (0 : Int).toNat 4) (cut p0 (0 : Int) x10256).length (c_p0 - (0 : Int).toNat))), (47, (.agg #[(iv p1.N), (iv p1.E), (iv p1.S), (iv p1.W)])), (50, (.slice A_p0 p0.length c_p0)), (51, (iv x10256))] [] [0, 1, 2, 3] [(5, ⟨g1, 0, none⟩, (iv p1.N)), (5, ⟨g1, 1, none⟩, (iv p1.E)), (5, ⟨g1, 2, none⟩, (iv p1.S)), (5, ⟨g1, 3, none⟩, (iv p1.W))] (fun fb => by kernel_rfl) rfl trivial rfl ?_
     refine seg 7 [] [0, 3, 5, 7, 45, 47, 52] [(0, (.slice A_p0 p0.length c_p0)), (3, (pt g1)), (5, (.bool t8961.1)), (7, (iv x10256)), (45, (.slice (subA A_p0 c_p0 (0 : Int).toNat 4) (cut p0 (0 : Int) x10256).length (c_p0 - (0 : Int).toNat))), (47, (.agg #[(iv p1.N), (iv p1.E), (iv p1.S), (iv p1.W)])), (52, (.slice (subA A_p0 c_p0 x10256.toNat 4) ((p0.length : Int).toNat - x10256.toNat) (c_p0 - x10256.toNat)))] [.idx (some ⟨0, 0, none⟩) x10256 ((p0.length : Int).toNat + 1), .idx (some ⟨0, 0, none⟩) (p0.length : Int) (c_p0 + 1)] (fun fb => by kernel_rfl) rfl ⟨cut1 h10394.1 h10394.2.1, cut2 h10394.1 h10394.2.1 h10394.2.2 (hS10449.rd 1).1.2, trivial⟩ ?_
     refine WL.reE [0, 3, 5, 7, 45, 47, 52] [(0, (.slice A_p0 p0.length c_p0)), (3, (pt g1)), (5, (.bool t8961.1)), (7, (iv x10256)), (45, (.slice (subA A_p0 c_p0 (0 : Int).toNat 4) (cut p0 (0 : Int) x10256).length (c_p0 - (0 : Int).toNat))), (47, (.agg #[(iv p1.N), (iv p1.E), (iv p1.S), (iv p1.W)])), (52, (.slice (subA A_p0 c_p0 x10256.toNat 4) ((p0.length : Int).toNat - x10256.toNat) (c_p0 - x10256.toNat)))] [(0, (.slice A_p0 p0.length c_p0)), (3, (pt g1)), (5, (.bool t8961.1)), (7, (iv x10256)), (45, (.slice (subA A_p0 c_p0 (0 : Int).toNat 4) (cut p0 (0 : Int) x10256).length (c_p0 - (0 : Int).toNat))), (47, (.agg #[(iv p1.N), (iv p1.E), (iv p1.S), (iv p1.W)])), (52, (.slice (subA A_p0 c_p0 x10256.toNat 4) (cut p0 x10256 (p0.length : Int)).length (c_p0 - x10256.toNat)))] rfl (by rw [cut_length h10394.1 h10394.2.1 h10394.2.2]) ?_
     have hS10450 := hS10449.cutR 1 rfl h10394.1 h10394.2.1 h10394.2.2
     refine WL.new hS10450 48 [] (fun g => (.slice (some ⟨g, 0, none⟩) 1 1)) (.cells #[(iv p1.N), (iv p1.E), (iv p1.S), (iv p1.W)] 24 (0, 0)) [] (fun fb g => by kernel_rfl) trivial (fun g10451 w10452 hS10453 => ?_)
     refine ⟨trivial, ?_⟩
     have hS10455 : St NoS w w10452 [rowR enc_Tile (subA A_p0 c_p0 x10256.toNat 4) (c_p0 - x10256.toNat) (cut p0 x10256 (p0.length : Int)), rowR enc_Tile (subA A_p0 c_p0 (0 : Int).toNat 4) (c_p0 - (0 : Int).toNat) (cut p0 (0 : Int) x10256), rowR enc_Tile A_p0 c_p0 p0] [rowO 24 enc_Tile (some ⟨g10451, 0, none⟩) 1 [p1], blk g1 (.cells #[(iv p1.N), (iv p1.E), (iv p1.S), (iv p1.W)] 24 (0, 0))] := hS10453.map1 0 _ (fun h => rowO.ofBlk h rfl (Nat.le_of_ble_eq_true (by kernel_rfl))) (fun _ h => by obtain ⟨_, h1, h2⟩ := h; injection h1 with h1; subst h1; exact h2) [1] (by decide) (by decide)
     refine WL.new hS10455 42 [] (fun g => (.slice (some ⟨g, 0, none⟩) 0 0)) (.cells #[] 24 (0, 0)) [] (fun fb g => by kernel_rfl) trivial (fun g10456 w10457 hS10458 => ?_)
     refine ⟨⟨hS10458.cell 2 rfl 0 rfl, hS10458.cell 2 rfl 1 rfl, hS10458.cell 2 rfl 2 rfl, hS10458.cell 2 rfl 3 rfl, trivial⟩, ?_⟩
     have hS10460 : St NoS w w10457 [rowR enc_Tile (subA A_p0 c_p0 x10256.toNat 4) (c_p0 - x10256.toNat) (cut p0 x10256 (p0.length : Int)), rowR enc_Tile (subA A_p0 c_p0 (0 : Int).toNat 4) (c_p0 - (0 : Int).toNat) (cut p0 (0 : Int) x10256), rowR enc_Tile A_p0 c_p0 p0] [rowO 24 enc_Tile (some ⟨g10456, 0, none⟩) 0 ([] : List Tile), rowO 24 enc_Tile (some ⟨g10451, 0, none⟩) 1 [p1], blk g1 (.cells #[(iv p1.N), (iv p1.E), (iv p1.S), (iv p1.W)] 24 (0, 0))] := hS10458.map1 0 _ (fun h => rowO.ofBlk h rfl (Nat.le_of_ble_eq_true (by kernel_rfl))) (fun _ h => by obtain ⟨_, h1, h2⟩ := h; injection h1 with h1; subst h1; exact h2) [1, 2] (by decide) (by decide)
     obtain ⟨h10461, hx10386⟩ := as_some hx10386
     refine WL.append hS10460 0 (d := 46) (tS := 22) (z := (.agg #[(iv 0), (iv 0), (iv 0), (iv 0)])) (bytes := 32) (c2 := (c_p0 - (0 : Int).toNat)) rfl (fun fb => by kernel_rfl) (hS10460.rd 1).1 (by kernel_rfl) (by kernel_rfl) rfl (by decide) h10461 (by decide) [1, 2] (by decide) (by decide) (fun A10462 c10463 w10464 hS10465 => ?_)
     refine ⟨⟨hS10465.cell 2 rfl 0 rfl, hS10465.cell 2 rfl 1 rfl, hS10465.cell 2 rfl 2 rfl, hS10465.cell 2 rfl 3 rfl, trivial⟩, ?_⟩
     obtain ⟨h10466, hx10386⟩ := as_some hx10386
     refine WL.append hS10465 0 (d := 49) (tS := 22) (z := (.agg #[(iv 0), (iv 0), (iv 0), (iv 0)])) (bytes := 32) (c2 := 1) rfl (fun fb => by kernel_rfl) (rowO.rd (hS10465.own 1).1) (by kernel_rfl) (by kernel_rfl) rfl (by decide) h10466 (by decide) [1, 2] (by decide) (by decide) (fun A10467 c10468 w10469 hS10470 => ?_)
     refine ⟨trivial, ?_⟩
     obtain ⟨h10471, hx10386⟩ := as_some hx10386
     refine WL.append hS10470 0 (d := 53) (tS := 22) (z := (.agg #[(iv 0), (iv 0), (iv 0), (iv 0)])) (bytes := 32) (c2 := (c_p0 - x10256.toNat)) rfl (fun fb => by kernel_rfl) (hS10470.rd 0).1 (by kernel_rfl) (by kernel_rfl) rfl (by decide) h10471 (by decide) [1, 2] (by decide) (by decide) (fun A10472 c10473 w10474 hS10475 => ?_)
     refine ⟨trivial, ?_⟩
     refine seg 13 [] [0, 3, 5, 7, 8] [(0, (.slice A_p0 p0.length c_p0)), (3, (pt g1)), (5, (.bool t8961.1)), (7, (iv x10256)), (8, (.slice A10472 (((([] : List Tile) ++ (cut p0 (0 : Int) x10256)) ++ [p1]) ++ (cut p0 x10256 (p0.length : Int))).length c10473))] [] (fun fb => by kernel_rfl) rfl trivial ?_
     refine WL.done rfl ?_
     injection hx10386 with hx10386
     exact WX.to Kx10385 (((([] : List Tile) ++ (cut p0 (0 : Int) x10256)) ++ [p1]) ++ (cut p0 x10256 (p0.length : Int)), A10472, c10473) [0, 3, 5, 7, 8] rfl ⟨(hS10475.subR [2]).sub [2, 0] (by decide), hx10386.symm⟩
    rintro ⟨y10479, A10382, c10383⟩ w10476 ⟨hS10477, hq10478⟩
    subst hq10478
    refine WX.next ?_
    refine WC.seq ?_
    refine WC.region ?_
    refine seg 1 [] [0, 3, 5, 7, 55] [(0, (.slice A_p0 p0.length c_p0)), (3, (pt g1)), (5, (.bool t8961.1)), (7, (iv x10256)), (55, (.slice A10382 x10385.length c10383))] [] (fun fb => by kernel_rfl) rfl trivial ?_
    obtain ⟨t10480, ht10481, hl10262⟩ := bind_some hl10262
    refine WL.call (some 56) 11 #[(.slice A10382 x10385.length c10383)] (fun fb => by kernel_rfl) (decide_Fills_calls _ x10385 A10382 c10383 t10480 _ (hS10477.ow 1).ofO ht10481) (fun v w10482 hR10483 => ?_)
    obtain ⟨rfl, hk_⟩ := hR10483
    have hS10484 := hS10477.keepN hk_
    refine ⟨trivial, ?_⟩
    refine seg 7 [] [0, 3, 5, 7, 9, 10] [(0, (.slice A_p0 p0.length c_p0)), (3, (pt g1)), (5, (.bool t8961.1)), (7, (iv x10256)), (9, (.bool t10480.1)), (10, (iv t10480.2))] [] (fun fb => by kernel_rfl) rfl trivial ?_
    refine WL.done rfl ?_
    refine WX.next ?_
    refine WC.seq ?_
    refine WC.region ?_
    refine seg 3 [] [0, 3, 5, 7, 9, 61] [(0, (.slice A_p0 p0.length c_p0)), (3, (pt g1)), (5, (.bool t8961.1)), (7, (iv x10256)), (9, (.bool t10480.1)), (61, (.bool (t10480.2 != 0)))] [] (fun fb => by kernel_rfl) rfl trivial ?_
    refine WL.cutV (T := Bool) 9 (fun t => [(67, (.bool t)), (0, (.slice A_p0 p0.length c_p0)), (3, (pt g1)), (5, (.bool t8961.1)), (7, (iv x10256))]) (fun t => ((t10480.2 != 0) || (t8961.1 && (!t10480.1))) = t) (fun K => ?_) ?_
    ·
     rcases Bool.eq_false_or_eq_true (t10480.2 != 0) with h10487 | h10487
     ·
      refine WL.setB 61 h10487 rfl ?_
      refine seg 9 [] [0, 3, 5, 7, 67] [(0, (.slice A_p0 p0.length c_p0)), (3, (pt g1)), (5, (.bool t8961.1)), (7, (iv x10256)), (67, (.bool true))] [] (fun fb => by kernel_rfl) rfl trivial ?_
      exact WL.toV K true [67, 0, 3, 5, 7] rfl (by first | (rw [h10487]; done) | (rw [h10487]; rfl))
     refine WL.setB 61 h10487 rfl ?_
     refine seg 5 [] [0, 3, 5, 7, 9, 61, 63] [(0, (.slice A_p0 p0.length c_p0)), (3, (pt g1)), (5, (.bool t8961.1)), (7, (iv x10256)), (9, (.bool t10480.1)), (61, (.bool false)), (63, (.bool t8961.1))] [] (fun fb => by kernel_rfl) rfl trivial ?_
     refine WL.cutV (T := Bool) 8 (fun t => [(66, (.bool t)), (0, (.slice A_p0 p0.length c_p0)), (3, (pt g1)), (5, (.bool t8961.1)), (7, (iv x10256)), (61, (.bool false))]) (fun t => (t8961.1 && (!t10480.1)) = t) (fun K => ?_) ?_
     ·
      rcases Bool.eq_false_or_eq_true t8961.1 with h10488 | h10488
      ·
       refine WL.setB 63 h10488 rfl ?_
       refine seg 8 [] [0, 3, 5, 7, 61, 66] [(0, (.slice A_p0 p0.length c_p0)), (3, (pt g1)), (5, (.bool t8961.1)), (7, (iv x10256)), (61, (.bool false)), (66, (.bool (!t10480.1)))] [] (fun fb => by kernel_rfl) rfl trivial ?_
       exact WL.toV K (!t10480.1) [66, 0, 3, 5, 7, 61] rfl (by first | (rw [h10488]; done) | (rw [h10488]; rfl))
      refine WL.setB 63 h10488 rfl ?_
      refine seg 8 [] [0, 3, 5, 7, 61, 66] [(0, (.slice A_p0 p0.length c_p0)), (3, (pt g1)), (5, (.bool t8961.1)), (7, (iv x10256)), (61, (.bool false)), (66, (.bool false))] [] (fun fb => by kernel_rfl) rfl trivial ?_
      exact WL.toV K false [66, 0, 3, 5, 7, 61] rfl (by first | (rw [h10488]; done) | (rw [h10488]; rfl))
     rintro b10489 rfl
     refine seg 9 [] [0, 3, 5, 7, 67] [(0, (.slice A_p0 p0.length c_p0)), (3, (pt g1)), (5, (.bool t8961.1)), (7, (iv x10256)), (67, (.bool (t8961.1 && (!t10480.1))))] [] (fun fb => by kernel_rfl) rfl trivial ?_
     exact WL.toV K (t8961.1 && (!t10480.1)) [67, 0, 3, 5, 7] rfl (by first | (rw [h10487]; done) | (rw [h10487]; rfl))
    rintro b10490 rfl
    refine WL.done rfl ?_
    refine WX.next ?_
    rcases br_some hl10262 with ⟨h10491, hl10262⟩ | ⟨h10491, hl10262⟩
    ·refine WC.condT2 (fun fb => by kernel_rfl) h10491 ?_
     refine WC.seq ?_
     refine WC.region ?_
     refine seg 1 [] [4] [(4, (.bool false))] [] (fun fb => by kernel_rfl) rfl trivial ?_
     refine WL.done rfl ?_
     refine WX.next ?_
     refine WC.ret ?_
     injection hl10262 with hl10262
     subst hl10262
     injection hf with hf
     subst hf
     exact WX.blockR (WX.thenR (WX.thenR (WX.blockR (WX.thenR (WX.ret_ [] (.bool false) [] (fun fb => by kernel_rfl) trivial ⟨_, rfl, rfl, hS10484.keep⟩)))))
    refine WC.condF2 (fun fb => by kernel_rfl) h10491 ?_
    refine WC.skip ?_
    refine WX.blockN (WX.next ?_)
    refine WC.region ?_
    refine seg 3 [] [0, 3, 5, 7] [(0, (.slice A_p0 p0.length c_p0)), (3, (pt g1)), (5, (.bool t8961.1)), (7, (iv (w64 (x10256 + 1))))] [] (fun fb => by kernel_rfl) rfl trivial ?_
    refine WL.done rfl ?_
    exact WX.again k10259 (Nat.lt_succ_self _) (w64 (x10256 + 1)) [0, 3, 5, 7] rfl ⟨(hS10484.subR [0]).sub [0] (by decide), hl10262⟩
   refine WC.condF2 (fun fb => by kernel_rfl) h10263 ?_
   refine WC.exit ?_
   injection hl10262 with hl10262
   exact WX.thenX (WX.thenX (WX.blockHere (WX.to Kx10257 () [] rfl ⟨(hS10261.subR [0]).sub [] (by decide), hl10262.symm⟩)))
 rintro y10495 w10492 ⟨hS10493, hq10494⟩
 subst hq10494
 have hf := sum_inr hf
 refine WX.next ?_
 refine WC.seq ?_
 refine WC.region ?_
 obtain ⟨t10497, ht10498, hf⟩ := bind_some hf
 refine WL.call (some 68) 14 #[] (fun fb => by kernel_rfl) (law09_awake_calls _ t10497 _ ht10498) (fun v w10499 hR10500 => ?_)
 obtain ⟨rfl, hk_⟩ := hR10500
 have hS10501 := hS10493.keepN hk_
 refine ⟨trivial, ?_⟩
 refine seg 2 [] [4] [(4, (.bool t10497))] [] (fun fb => by kernel_rfl) rfl trivial ?_
 refine WL.done rfl ?_
 refine WX.next ?_
 refine WC.ret ?_
 injection hf with hf
 subst hf
 exact WX.ret_ [] (.bool t10497) [] (fun fb => by kernel_rfl) trivial ⟨_, rfl, rfl, hS10501.keep⟩
end Gp
