/- Walks: each function of the program computes its plain function. -/
import Derived.Test.YtmdkdigmkcpceaaGp
set_option linter.unusedVariables false
set_option linter.unusedSimpArgs false
set_option maxHeartbeats 4000000
namespace Gp
open Go Gw Go.Proofs
theorem top_cycle_calls (p0 : Int) (p1 : Int)  (r : Int) (w : World)  (hf : top_cycle p0 p1 = some r) :
  CallsR Try.prog 56 #[(iv p0), (iv p1)] w (fun v w' => v = (iv r) ∧ Keeps NoS w w') := by
 have hS : St NoS w w [] [] := St.init (ro_nil _ _)
 refine enter 12 Try.func56 rfl Try.ntmps56 rfl ?_
 unfold top_cycle at hf
 refine WC.seq ?_
 refine WC.region ?_
 refine seg 1 [] [0, 1] [(0, (iv p0)), (1, (iv p1))] [] (fun fb => by kernel_rfl) rfl trivial ?_
 refine WL.done rfl ?_
 refine WX.next ?_
 refine WC.seq ?_
 refine WC.region ?_
 refine seg 2 [] [1, 5, 6] [(1, (iv p1)), (5, (iv p0)), (6, (iv p1))] [] (fun fb => by kernel_rfl) rfl trivial ?_
 obtain ⟨h13, hf⟩ := as_some hf
 refine seg 8 [] [4] [(4, (iv (Int.tmod (w64 ((Int.tmod p0 p1) + p1)) p1)))] [.ne p1, .ne p1] (fun fb => by kernel_rfl) rfl ⟨h13, h13, trivial⟩ ?_
 refine WL.done rfl ?_
 refine WX.next ?_
 refine WC.ret ?_
 injection hf with hf
 subst hf
 exact WX.ret_ [] (iv (Int.tmod (w64 ((Int.tmod p0 p1) + p1)) p1)) [] (fun fb => by kernel_rfl) trivial ⟨_, rfl, rfl, hS.keep⟩
theorem top_small_calls (k : Nat) (p0 : A3_Tile) (p1 : Int)  (r : (List Tile)) (w : World)  (hf : top_small k p0 p1 = some r) :
  CallsR Try.prog 31 #[(.agg #[(iv p0.e0.N), (iv p0.e0.E), (iv p0.e0.S), (iv p0.e0.W), (iv p0.e1.N), (iv p0.e1.E), (iv p0.e1.S), (iv p0.e1.W), (iv p0.e2.N), (iv p0.e2.E), (iv p0.e2.S), (iv p0.e2.W)]), (iv p1)] w (fun v w' => ∃ (A1_ : Option Addr), ∃ (c1_ : Nat), v = (.slice A1_ r.length c1_) ∧ St NoS w w' [] [rowO 24 enc_Tile A1_ c1_ r]) := by
 have hS : St NoS w w [] [] := St.init (ro_nil _ _)
 refine enter 54 Try.func31 rfl Try.ntmps31 rfl ?_
 unfold top_small at hf
 refine WC.seq ?_
 refine WC.region ?_
 refine WL.new hS 2 [] (fun g => (.pointer (some ⟨g, 0, none⟩))) (.cells #[(iv p0.e0.N), (iv p0.e0.E), (iv p0.e0.S), (iv p0.e0.W), (iv p0.e1.N), (iv p0.e1.E), (iv p0.e1.S), (iv p0.e1.W), (iv p0.e2.N), (iv p0.e2.E), (iv p0.e2.S), (iv p0.e2.W)] 59 (0, 0)) [] (fun fb g => by kernel_rfl) trivial (fun g9 w10 hS11 => ?_)
 refine ⟨trivial, ?_⟩
 refine seg 2 [] [1, 2] [(1, (iv p1)), (2, (pt g9))] [] (fun fb => by kernel_rfl) rfl trivial ?_
 refine WL.done rfl ?_
 refine WX.next ?_
 refine WC.seq ?_
 refine WC.region ?_
 refine seg 1 [] [1, 2, 5] [(1, (iv p1)), (2, (pt g9)), (5, (.slice none 0 0))] [] (fun fb => by kernel_rfl) rfl trivial ?_
 refine WL.done rfl ?_
 refine WX.next ?_
 refine WC.seq ?_
 refine WC.seq ?_
 refine WC.region ?_
 refine seg 1 [] [1, 2, 5, 6] [(1, (iv p1)), (2, (pt g9)), (5, (.slice none 0 0)), (6, (iv 0))] [] (fun fb => by kernel_rfl) rfl trivial ?_
 refine WL.done rfl ?_
 refine WX.next ?_
 have hS645 := hS11.nilrow 24 enc_Tile
 obtain ⟨x653, hx654, hf⟩ := bind_some hf
 refine WC.cutN (T := (List Tile) × (Option Addr) × Nat) (fun t => [(5, (.slice t.2.1 t.1.length t.2.2))]) (fun t w1 => St NoS w w1 [] [rowO 24 enc_Tile t.2.1 t.2.2 t.1] ∧ x653 = t.1) (fun Kx653 => ?_) ?_
 ·
  refine WC.block ?_
  refine WC.loop (T := ((List Tile) × Int) × (Option Addr) × Nat) (fun t => [(1, (iv p1)), (2, (pt g9)), (5, (.slice t.2.1 t.1.1.length t.2.2)), (6, (iv t.1.2))]) (fun n t w1 => St NoS w w1 [] [blk g9 (.cells #[(iv p0.e0.N), (iv p0.e0.E), (iv p0.e0.S), (iv p0.e0.W), (iv p0.e1.N), (iv p0.e1.E), (iv p0.e1.S), (iv p0.e1.W), (iv p0.e2.N), (iv p0.e2.E), (iv p0.e2.S), (iv p0.e2.W)] 59 (0, 0)), rowO 24 enc_Tile t.2.1 t.2.2 t.1.1] ∧ top_small.l0 n t.1.1 t.1.2 p0 p1 = some x653) k ((([] : List Tile), 0), none, 0) [1, 2, 5, 6] rfl ⟨(hS645.subR []).sub [1, 0] (by decide), hx654⟩ ?_
  rintro k655 ⟨⟨l648, x649⟩, A646, c647⟩ w656 ⟨hS657, hl658⟩
  cases k655 with
  | zero => rw [top_small.l0] at hl658; cases hl658
  | succ k655 =>
   rw [top_small.l0] at hl658
   refine WC.seq ?_
   refine WC.seq ?_
   refine WC.region ?_
   refine seg 2 [] [1, 2, 5, 6, 10, 11] [(1, (iv p1)), (2, (pt g9)), (5, (.slice A646 l648.length c647)), (6, (iv x649)), (10, (iv x649)), (11, (iv p1))] [] (fun fb => by kernel_rfl) rfl trivial ?_
   obtain ⟨t659, ht660, hl658⟩ := bind_some hl658
   refine WL.call (some 12) 56 #[(iv p1), (iv 4)] (fun fb => by kernel_rfl) (top_cycle_calls p1 4 t659 _ ht660) (fun v w661 hR662 => ?_)
   obtain ⟨rfl, hk_⟩ := hR662
   have hS663 := hS657.keepN hk_
   refine ⟨trivial, ?_⟩
   refine seg 4 [] [1, 2, 5, 6, 13] [(1, (iv p1)), (2, (pt g9)), (5, (.slice A646 l648.length c647)), (6, (iv x649)), (13, (.bool (decide (x649 < t659))))] [] (fun fb => by kernel_rfl) rfl trivial ?_
   refine WL.done rfl ?_
   refine WX.next ?_
   rcases br_some hl658 with ⟨h664, hl658⟩ | ⟨h664, hl658⟩
   ·refine WC.condT2 (fun fb => by kernel_rfl) h664 ?_
    refine WC.skip ?_
    refine WX.next ?_
    refine WC.seq ?_
    refine WC.block ?_
    refine WC.seq ?_
    refine WC.region ?_
    refine seg 1 [] [1, 2, 5, 6, 16] [(1, (iv p1)), (2, (pt g9)), (5, (.slice A646 l648.length c647)), (6, (iv x649)), (16, (iv x649))] [] (fun fb => by kernel_rfl) rfl trivial ?_
    rcases br_some hl658 with ⟨h665, hl658⟩ | ⟨h665, hl658⟩
    ·
     refine WL.setI 16 (eq_of_beq h665) rfl ?_
     refine seg 2 [] [1, 2, 5, 6, 17] [(1, (iv p1)), (2, (pt g9)), (5, (.slice A646 l648.length c647)), (6, (iv x649)), (17, (pt g9))] [] (fun fb => by kernel_rfl) rfl trivial ?_
     refine seg 3 [.v (iv p0.e0.N), .v (iv p0.e0.E), .v (iv p0.e0.S), .v (iv p0.e0.W)] [1, 2, 5, 6, 18] [(1, (iv p1)), (2, (pt g9)), (5, (.slice A646 l648.length c647)), (6, (iv x649)), (18, (.agg #[(iv p0.e0.N), (iv p0.e0.E), (iv p0.e0.S), (iv p0.e0.W)]))] [.cell ⟨g9, 0, none⟩ (iv p0.e0.N), .cell ⟨g9, 1, none⟩ (iv p0.e0.E), .cell ⟨g9, 2, none⟩ (iv p0.e0.S), .cell ⟨g9, 3, none⟩ (iv p0.e0.W)] (fun fb => by kernel_rfl) rfl ⟨hS663.cell 0 rfl 0 rfl, hS663.cell 0 rfl 1 rfl, hS663.cell 0 rfl 2 rfl, hS663.cell 0 rfl 3 rfl, trivial⟩ ?_
     refine WL.new hS663 7 [] (fun g => (.pointer (some ⟨g, 0, none⟩))) (.cells #[(iv 0), (iv 0), (iv 0), (iv 0)] 24 (0, 0)) [] (fun fb g => by kernel_rfl) trivial (fun g666 w667 hS668 => ?_)
     refine ⟨trivial, ?_⟩
     refine WL.store hS668 0 rfl [(0, (iv p0.e0.N)), (1, (iv p0.e0.E)), (2, (iv p0.e0.S)), (3, (iv p0.e0.W))] #[(iv p0.e0.N), (iv p0.e0.E), (iv p0.e0.S), (iv p0.e0.W)] (fun fb => by kernel_rfl) (by kernel_rfl) rfl [1, 2] (by decide) (by decide) (fun w670 hS671 => ?_)
     refine ⟨trivial, ?_⟩
     refine WL.done rfl ?_
     refine WX.next ?_
     refine WC.seq ?_
     refine WC.regionD ([(1, ⟨g666, 0, none⟩, (iv p0.e0.N)), (4, ⟨g666, 1, none⟩, (iv p0.e0.E)), (7, ⟨g666, 2, none⟩, (iv p0.e0.S)), (10, ⟨g666, 3, none⟩, (iv p0.e0.W))], [0, 1, 3, 4, 6, 7, 9, 10, 12], [[], [0], [0, 1], [], [3], [0, 1, 2, 3, 4], [], [6], [0, 1, 2, 3, 4, 5, 6, 7], [], [9], [0, 1, 2, 3, 4, 5, 6, 7, 8, 9, 10], [0, 1, 2, 3, 4, 5, 6, 7, 8, 9, 10, 11], [0, 1, 2, 3, 4, 5, 6, 7, 8, 9, 10, 11, 12]]) [[0, 1, 3, 4, 6, 7, 9, 10, 2, 5, 8, 11, 12, 13]] (by kernel_rfl) (by kernel_rfl) (NoPanic.seq (NoPanic.block (NoPanic.seq (NoPanic.seq (NoPanic.block (NoPanic.seq (NoPanic.body))))))) ?_
     have hS695 := hS671.drew
     revert hS695
     generalize World.drew w670 = w694
     intro hS695
     refine ⟨⟨hS695.cell 0 rfl 0 rfl, hS695.cell 0 rfl 1 rfl, hS695.cell 0 rfl 2 rfl, hS695.cell 0 rfl 3 rfl, trivial⟩, forallC ?_ (forallN)⟩
     refine segF 8 [.v (iv p0.e0.N), .v (iv p0.e0.E), .v (iv p0.e0.S), .v (iv p0.e0.W)] [1, 2, 5, 6, 7, 20, 23, 26, 29] [(1, (iv p1)), (2, (pt g9)), (5, (.slice A646 l648.length c647)), (6, (iv x649)), (7, (pt g666)), (20, (iv p0.e0.N)), (23, (iv p0.e0.E)), (26, (iv p0.e0.S)), (29, (iv p0.e0.W))] [] [0, 1, 2, 3] [(1, ⟨g666, 0, none⟩, (iv p0.e0.N)), (4, ⟨g666, 1, none⟩, (iv p0.e0.E)), (7, ⟨g666, 2, none⟩, (iv p0.e0.S)), (10, ⟨g666, 3, none⟩, (iv p0.e0.W))] (fun fb => by kernel_rfl) rfl trivial rfl ?_
     obtain ⟨t696, ht697, hl658⟩ := bind_some hl658
     refine WL.call (some 21) 56 #[(iv p0.e0.N), (iv 6)] (fun fb => by kernel_rfl) (top_cycle_calls p0.e0.N 6 t696 _ ht697) (fun v w698 hR699 => ?_)
     obtain ⟨rfl, hk_⟩ := hR699
     have hS700 := hS695.keepN hk_
     refine ⟨⟨hS700.cell 0 rfl 1 rfl, hS700.cell 0 rfl 2 rfl, hS700.cell 0 rfl 3 rfl, trivial⟩, ?_⟩
     obtain ⟨t701, ht702, hl658⟩ := bind_some hl658
     refine WL.call (some 24) 56 #[(iv p0.e0.E), (iv 6)] (fun fb => by kernel_rfl) (top_cycle_calls p0.e0.E 6 t701 _ ht702) (fun v w703 hR704 => ?_)
     obtain ⟨rfl, hk_⟩ := hR704
     have hS705 := hS700.keepN hk_
     refine ⟨⟨hS705.cell 0 rfl 2 rfl, hS705.cell 0 rfl 3 rfl, trivial⟩, ?_⟩
     obtain ⟨t706, ht707, hl658⟩ := bind_some hl658
     refine WL.call (some 27) 56 #[(iv p0.e0.S), (iv 6)] (fun fb => by kernel_rfl) (top_cycle_calls p0.e0.S 6 t706 _ ht707) (fun v w708 hR709 => ?_)
     obtain ⟨rfl, hk_⟩ := hR709
     have hS710 := hS705.keepN hk_
     refine ⟨⟨hS710.cell 0 rfl 3 rfl, trivial⟩, ?_⟩
     obtain ⟨t711, ht712, hl658⟩ := bind_some hl658
     refine WL.call (some 30) 56 #[(iv p0.e0.W), (iv 6)] (fun fb => by kernel_rfl) (top_cycle_calls p0.e0.W 6 t711 _ ht712) (fun v w713 hR714 => ?_)
     obtain ⟨rfl, hk_⟩ := hR714
     have hS715 := hS710.keepN hk_
     refine ⟨trivial, ?_⟩
     refine seg 13 [] [1, 2, 5, 6, 7, 31] [(1, (iv p1)), (2, (pt g9)), (5, (.slice A646 l648.length c647)), (6, (iv x649)), (7, (pt g666)), (31, (.agg #[(iv t696), (iv t701), (iv t706), (iv t711)]))] [] (fun fb => by kernel_rfl) rfl trivial ?_
     refine WL.store hS715 0 rfl [(0, (iv t696)), (1, (iv t701)), (2, (iv t706)), (3, (iv t711))] #[(iv t696), (iv t701), (iv t706), (iv t711)] (fun fb => by kernel_rfl) (by kernel_rfl) rfl [1, 2] (by decide) (by decide) (fun w716 hS717 => ?_)
     refine ⟨trivial, ?_⟩
     refine WL.done rfl ?_
     refine WX.next ?_
     refine WC.seq ?_
     refine WC.region ?_
     refine seg 1 [] [1, 2, 5, 6, 7, 8] [(1, (iv p1)), (2, (pt g9)), (5, (.slice A646 l648.length c647)), (6, (iv x649)), (7, (pt g666)), (8, (.bool false))] [] (fun fb => by kernel_rfl) rfl trivial ?_
     refine WL.done rfl ?_
     refine WX.next ?_
     refine WC.seq ?_
     refine WC.seq ?_
     refine WC.region ?_
     refine seg 1 [] [1, 2, 5, 6, 7, 8, 9] [(1, (iv p1)), (2, (pt g9)), (5, (.slice A646 l648.length c647)), (6, (iv x649)), (7, (pt g666)), (8, (.bool false)), (9, (iv 0))] [] (fun fb => by kernel_rfl) rfl trivial ?_
     refine WL.done rfl ?_
     refine WX.next ?_
     obtain ⟨x753, hx754, hl658⟩ := bind_some hl658
     refine WC.cutN (T := Bool) (fun t => [(1, (iv p1)), (2, (pt g9)), (5, (.slice A646 l648.length c647)), (6, (iv x649)), (7, (pt g666)), (8, (.bool t))]) (fun t w1 => St NoS w w1 [] [blk g9 (.cells #[(iv p0.e0.N), (iv p0.e0.E), (iv p0.e0.S), (iv p0.e0.W), (iv p0.e1.N), (iv p0.e1.E), (iv p0.e1.S), (iv p0.e1.W), (iv p0.e2.N), (iv p0.e2.E), (iv p0.e2.S), (iv p0.e2.W)] 59 (0, 0)), rowO 24 enc_Tile A646 c647 l648, blk g666 (.cells #[(iv t696), (iv t701), (iv t706), (iv t711)] 24 (0, 0))] ∧ x753 = t) (fun Kx753 => ?_) ?_
     ·
      refine WC.block ?_
      refine WC.loop (T := Bool × Int) (fun t => [(1, (iv p1)), (2, (pt g9)), (5, (.slice A646 l648.length c647)), (6, (iv x649)), (7, (pt g666)), (8, (.bool t.1)), (9, (iv t.2))]) (fun n t w1 => St NoS w w1 [] [blk g9 (.cells #[(iv p0.e0.N), (iv p0.e0.E), (iv p0.e0.S), (iv p0.e0.W), (iv p0.e1.N), (iv p0.e1.E), (iv p0.e1.S), (iv p0.e1.W), (iv p0.e2.N), (iv p0.e2.E), (iv p0.e2.S), (iv p0.e2.W)] 59 (0, 0)), rowO 24 enc_Tile A646 c647 l648, blk g666 (.cells #[(iv t696), (iv t701), (iv t706), (iv t711)] 24 (0, 0))] ∧ top_small.l1 n t.1 t.2 l648 t696 t701 t706 t711 = some x753) k655 (false, 0) [1, 2, 5, 6, 7, 8, 9] rfl ⟨(hS717.subR []).sub [1, 2, 0] (by decide), hx754⟩ ?_
      rintro k755 ⟨b750, x751⟩ w756 ⟨hS757, hl758⟩
      cases k755 with
      | zero => rw [top_small.l1] at hl758; cases hl758
      | succ k755 =>
       rw [top_small.l1] at hl758
       refine WC.seq ?_
       refine WC.seq ?_
       refine WC.region ?_
       refine seg 4 [] [1, 2, 5, 6, 7, 8, 9, 35] [(1, (iv p1)), (2, (pt g9)), (5, (.slice A646 l648.length c647)), (6, (iv x649)), (7, (pt g666)), (8, (.bool b750)), (9, (iv x751)), (35, (.bool (decide (x751 < (l648.length : Int)))))] [] (fun fb => by kernel_rfl) rfl trivial ?_
       refine WL.done rfl ?_
       refine WX.next ?_
       rcases br_some hl758 with ⟨h759, hl758⟩ | ⟨h759, hl758⟩
       ·refine WC.condT2 (fun fb => by kernel_rfl) h759 ?_
        refine WC.skip ?_
        refine WX.next ?_
        refine WC.seq ?_
        refine WC.block ?_
        obtain ⟨x769, hx770, hl758⟩ := bind_some hl758
        refine WC.cutN (T := Bool) (fun t => [(1, (iv p1)), (2, (pt g9)), (5, (.slice A646 l648.length c647)), (6, (iv x649)), (7, (pt g666)), (8, (.bool t)), (9, (iv x751))]) (fun t w1 => St NoS w w1 [] [blk g9 (.cells #[(iv p0.e0.N), (iv p0.e0.E), (iv p0.e0.S), (iv p0.e0.W), (iv p0.e1.N), (iv p0.e1.E), (iv p0.e1.S), (iv p0.e1.W), (iv p0.e2.N), (iv p0.e2.E), (iv p0.e2.S), (iv p0.e2.W)] 59 (0, 0)), rowO 24 enc_Tile A646 c647 l648, blk g666 (.cells #[(iv t696), (iv t701), (iv t706), (iv t711)] 24 (0, 0))] ∧ x769 = t) (fun Kx769 => ?_) ?_
        ·
         rcases br_some hx770 with ⟨h771, hx770⟩ | ⟨h771, hx770⟩
         ·
          refine WC.regionD ([], [0, 1, 2, 3, 4, 5, 6, 7, 8, 9], [[], [0], [0, 1], [0, 1], [0, 1, 2, 3], [0, 1, 2, 3, 4], [0, 1], [0, 1, 2, 3, 4, 5, 6], [0, 1, 2, 3, 4, 5, 6, 7], [0, 1, 2, 3, 4, 5, 6, 7, 8]]) [[0, 1, 2, 3, 4, 5, 6, 7, 8, 9]] (by kernel_rfl) (by kernel_rfl) (NoPanic.block (NoPanic.seq (NoPanic.seq (NoPanic.block (NoPanic.seq (NoPanic.block (NoPanic.seq (NoPanic.seq (NoPanic.block (NoPanic.seq (NoPanic.body))))))))))) ?_
          have hS773 := hS757.drew
          revert hS773
          generalize World.drew w756 = w772
          intro hS773
          refine ⟨trivial, forallC ?_ (forallN)⟩
          refine seg 2 [] [1, 2, 5, 6, 7, 9, 39] [(1, (iv p1)), (2, (pt g9)), (5, (.slice A646 l648.length c647)), (6, (iv x649)), (7, (pt g666)), (9, (iv x751)), (39, (.bool b750))] [] (fun fb => by kernel_rfl) rfl trivial ?_
          refine WL.setB 39 h771 rfl ?_
          refine seg 10 [] [1, 2, 5, 6, 7, 8, 9] [(1, (iv p1)), (2, (pt g9)), (5, (.slice A646 l648.length c647)), (6, (iv x649)), (7, (pt g666)), (8, (.bool true)), (9, (iv x751))] [] (fun fb => by kernel_rfl) rfl trivial ?_
          refine WL.done rfl ?_
          injection hx770 with hx770
          exact WX.to Kx769 true [1, 2, 5, 6, 7, 8, 9] rfl ⟨(hS773.subR []).sub [0, 1, 2] (by decide), hx770.symm⟩
         obtain ⟨h778, hx770⟩ := as_some hx770
         refine WC.regionD ([(5, ((adr A646).add ((x751).toNat * 4)), (iv ((rdD l648 x751 z_Tile).N))), (5, (((adr A646).add ((x751).toNat * 4)).add 1), (iv ((rdD l648 x751 z_Tile).E))), (5, (((adr A646).add ((x751).toNat * 4)).add 2), (iv ((rdD l648 x751 z_Tile).S))), (5, (((adr A646).add ((x751).toNat * 4)).add 3), (iv ((rdD l648 x751 z_Tile).W))), (6, ⟨g666, 0, none⟩, (iv t696)), (6, ⟨g666, 1, none⟩, (iv t701)), (6, ⟨g666, 2, none⟩, (iv t706)), (6, ⟨g666, 3, none⟩, (iv t711))], [0, 1, 2, 3, 4, 5, 6, 7, 8, 9], [[], [0], [0, 1], [0, 1], [0, 1, 2, 3], [0, 1, 2, 3, 4], [0, 1], [0, 1, 2, 3, 4, 5, 6], [0, 1, 2, 3, 4, 5, 6, 7], [0, 1, 2, 3, 4, 5, 6, 7, 8]]) [[0, 1, 2, 3, 4, 5, 6, 7, 8, 9]] (by kernel_rfl) (by kernel_rfl) (NoPanic.block (NoPanic.seq (NoPanic.seq (NoPanic.block (NoPanic.seq (NoPanic.block (NoPanic.seq (NoPanic.seq (NoPanic.block (NoPanic.seq (NoPanic.body))))))))))) ?_
         have hS776 := hS757.drew
         revert hS776
         generalize World.drew w756 = w775
         intro hS776
         refine ⟨⟨rowR.cell (rowO.rd (hS776.own 1).1) z_Tile h778.1 h778.2 0 rfl, rowR.cell (rowO.rd (hS776.own 1).1) z_Tile h778.1 h778.2 1 rfl, rowR.cell (rowO.rd (hS776.own 1).1) z_Tile h778.1 h778.2 2 rfl, rowR.cell (rowO.rd (hS776.own 1).1) z_Tile h778.1 h778.2 3 rfl, hS776.cell 2 rfl 0 rfl, hS776.cell 2 rfl 1 rfl, hS776.cell 2 rfl 2 rfl, hS776.cell 2 rfl 3 rfl, trivial⟩, forallC ?_ (forallN)⟩
         refine seg 2 [] [1, 2, 5, 6, 7, 9, 39] [(1, (iv p1)), (2, (pt g9)), (5, (.slice A646 l648.length c647)), (6, (iv x649)), (7, (pt g666)), (9, (iv x751)), (39, (.bool b750))] [] (fun fb => by kernel_rfl) rfl trivial ?_
         refine WL.setB 39 h771 rfl ?_
         refine segF 10 [.v (iv ((rdD l648 x751 z_Tile).N)), .v (iv ((rdD l648 x751 z_Tile).E)), .v (iv ((rdD l648 x751 z_Tile).S)), .v (iv ((rdD l648 x751 z_Tile).W)), .v (iv t696), .v (iv t701), .v (iv t706), .v (iv t711)] [1, 2, 5, 6, 7, 8, 9] [(1, (iv p1)), (2, (pt g9)), (5, (.slice A646 l648.length c647)), (6, (iv x649)), (7, (pt g666)), (8, (.bool (((rdD l648 x751 z_Tile).N) == t696 && (((rdD l648 x751 z_Tile).E) == t701 && (((rdD l648 x751 z_Tile).S) == t706 && (((rdD l648 x751 z_Tile).W) == t711)))))), (9, (iv x751))] [.idx A646 x751 l648.length] [0, 1, 2, 3, 4, 5, 6, 7] [(5, ((adr A646).add ((x751).toNat * 4)), (iv ((rdD l648 x751 z_Tile).N))), (5, (((adr A646).add ((x751).toNat * 4)).add 1), (iv ((rdD l648 x751 z_Tile).E))), (5, (((adr A646).add ((x751).toNat * 4)).add 2), (iv ((rdD l648 x751 z_Tile).S))), (5, (((adr A646).add ((x751).toNat * 4)).add 3), (iv ((rdD l648 x751 z_Tile).W))), (6, ⟨g666, 0, none⟩, (iv t696)), (6, ⟨g666, 1, none⟩, (iv t701)), (6, ⟨g666, 2, none⟩, (iv t706)), (6, ⟨g666, 3, none⟩, (iv t711))] (fun fb => by kernel_rfl) rfl ⟨rowR.adr (rowO.rd (hS776.own 1).1) h778.1 h778.2, trivial⟩ rfl ?_
         refine WL.done rfl ?_
         injection hx770 with hx770
         exact WX.to Kx769 (((rdD l648 x751 z_Tile).N) == t696 && (((rdD l648 x751 z_Tile).E) == t701 && (((rdD l648 x751 z_Tile).S) == t706 && (((rdD l648 x751 z_Tile).W) == t711)))) [1, 2, 5, 6, 7, 8, 9] rfl ⟨(hS776.subR []).sub [0, 1, 2] (by decide), hx770.symm⟩
        rintro y782 w779 ⟨hS780, hq781⟩
        subst hq781
        refine WX.blockN (WX.next ?_)
        refine WC.region ?_
        refine seg 3 [] [1, 2, 5, 6, 7, 8, 9] [(1, (iv p1)), (2, (pt g9)), (5, (.slice A646 l648.length c647)), (6, (iv x649)), (7, (pt g666)), (8, (.bool x769)), (9, (iv (w64 (x751 + 1))))] [] (fun fb => by kernel_rfl) rfl trivial ?_
        refine WL.done rfl ?_
        exact WX.again k755 (Nat.lt_succ_self _) (x769, w64 (x751 + 1)) [1, 2, 5, 6, 7, 8, 9] rfl ⟨(hS780.subR []).sub [0, 1, 2] (by decide), hl758⟩
       refine WC.condF2 (fun fb => by kernel_rfl) h759 ?_
       refine WC.exit ?_
       injection hl758 with hl758
       exact WX.thenX (WX.thenX (WX.blockHere (WX.to Kx753 b750 [1, 2, 5, 6, 7, 8] rfl ⟨(hS757.subR []).sub [0, 1, 2] (by decide), hl758.symm⟩)))
     rintro y786 w783 ⟨hS784, hq785⟩
     subst hq785
     refine WX.next ?_
     refine WC.seq ?_
     refine WC.region ?_
     refine seg 2 [] [1, 2, 5, 6, 7, 48] [(1, (iv p1)), (2, (pt g9)), (5, (.slice A646 l648.length c647)), (6, (iv x649)), (7, (pt g666)), (48, (.bool (!x753)))] [] (fun fb => by kernel_rfl) rfl trivial ?_
     refine WL.done rfl ?_
     refine WX.next ?_
     obtain ⟨x801, hx802, hl658⟩ := bind_some hl658
     refine WC.cutN (T := (List Tile) × (Option Addr) × Nat) (fun t => [(1, (iv p1)), (2, (pt g9)), (5, (.slice t.2.1 t.1.length t.2.2)), (6, (iv x649))]) (fun t w1 => St NoS w w1 [] [blk g9 (.cells #[(iv p0.e0.N), (iv p0.e0.E), (iv p0.e0.S), (iv p0.e0.W), (iv p0.e1.N), (iv p0.e1.E), (iv p0.e1.S), (iv p0.e1.W), (iv p0.e2.N), (iv p0.e2.E), (iv p0.e2.S), (iv p0.e2.W)] 59 (0, 0)), rowO 24 enc_Tile t.2.1 t.2.2 t.1] ∧ x801 = t.1) (fun Kx801 => ?_) ?_
     ·
      rcases br_some hx802 with ⟨h803, hx802⟩ | ⟨h803, hx802⟩
      ·refine WC.condT2 (fun fb => by kernel_rfl) h803 ?_
       refine WC.region ?_
       refine seg 2 [.v (iv t696), .v (iv t701), .v (iv t706), .v (iv t711)] [1, 2, 6, 49, 50] [(1, (iv p1)), (2, (pt g9)), (6, (iv x649)), (49, (.slice A646 l648.length c647)), (50, (.agg #[(iv t696), (iv t701), (iv t706), (iv t711)]))] [.cell ⟨g666, 0, none⟩ (iv t696), .cell ⟨g666, 1, none⟩ (iv t701), .cell ⟨g666, 2, none⟩ (iv t706), .cell ⟨g666, 3, none⟩ (iv t711)] (fun fb => by kernel_rfl) rfl ⟨hS784.cell 2 rfl 0 rfl, hS784.cell 2 rfl 1 rfl, hS784.cell 2 rfl 2 rfl, hS784.cell 2 rfl 3 rfl, trivial⟩ ?_
       refine WL.new hS784 51 [] (fun g => (.slice (some ⟨g, 0, none⟩) 1 1)) (.cells #[(iv t696), (iv t701), (iv t706), (iv t711)] 24 (0, 0)) [] (fun fb g => by kernel_rfl) trivial (fun g804 w805 hS806 => ?_)
       refine ⟨trivial, ?_⟩
       have hS808 : St NoS w w805 [] [rowO 24 enc_Tile (some ⟨g804, 0, none⟩) 1 [(Tile.mk t696 t701 t706 t711)], blk g9 (.cells #[(iv p0.e0.N), (iv p0.e0.E), (iv p0.e0.S), (iv p0.e0.W), (iv p0.e1.N), (iv p0.e1.E), (iv p0.e1.S), (iv p0.e1.W), (iv p0.e2.N), (iv p0.e2.E), (iv p0.e2.S), (iv p0.e2.W)] 59 (0, 0)), rowO 24 enc_Tile A646 c647 l648, blk g666 (.cells #[(iv t696), (iv t701), (iv t706), (iv t711)] 24 (0, 0))] := hS806.map1 0 _ (fun h => rowO.ofBlk h rfl (Nat.le_of_ble_eq_true (by kernel_rfl))) (fun _ h => by obtain ⟨_, h1, h2⟩ := h; injection h1 with h1; subst h1; exact h2) [1, 2, 3] (by decide) (by decide)
       obtain ⟨h809, hx802⟩ := as_some hx802
       refine WL.append hS808 2 (d := 52) (tS := 22) (z := (.agg #[(iv 0), (iv 0), (iv 0), (iv 0)])) (bytes := 32) (c2 := 1) rfl (fun fb => by kernel_rfl) (rowO.rd (hS808.own 0).1) (by kernel_rfl) (by kernel_rfl) rfl (by decide) h809 (by decide) [0, 1, 3] (by decide) (by decide) (fun A810 c811 w812 hS813 => ?_)
       refine ⟨trivial, ?_⟩
       refine seg 5 [] [1, 2, 5, 6] [(1, (iv p1)), (2, (pt g9)), (5, (.slice A810 (l648 ++ [(Tile.mk t696 t701 t706 t711)]).length c811)), (6, (iv x649))] [] (fun fb => by kernel_rfl) rfl trivial ?_
       refine WL.done rfl ?_
       injection hx802 with hx802
       exact WX.to Kx801 (l648 ++ [(Tile.mk t696 t701 t706 t711)], A810, c811) [1, 2, 5, 6] rfl ⟨(hS813.subR []).sub [2, 0] (by decide), hx802.symm⟩
      refine WC.condF2 (fun fb => by kernel_rfl) h803 ?_
      refine WC.skip ?_
      injection hx802 with hx802
      exact WX.to Kx801 (l648, A646, c647) [1, 2, 5, 6] rfl ⟨(hS784.subR []).sub [0, 1] (by decide), hx802.symm⟩
     rintro ⟨y817, A798, c799⟩ w814 ⟨hS815, hq816⟩
     subst hq816
     refine WX.blockN (WX.next ?_)
     refine WC.region ?_
     refine seg 3 [] [1, 2, 5, 6] [(1, (iv p1)), (2, (pt g9)), (5, (.slice A798 x801.length c799)), (6, (iv (w64 (x649 + 1))))] [] (fun fb => by kernel_rfl) rfl trivial ?_
     refine WL.done rfl ?_
     exact WX.again k655 (Nat.lt_succ_self _) ((x801, w64 (x649 + 1)), A798, c799) [1, 2, 5, 6] rfl ⟨(hS815.subR []).sub [0, 1] (by decide), hl658⟩
    rcases br_some hl658 with ⟨h818, hl658⟩ | ⟨h818, hl658⟩
    ·
     refine WL.setI 16 (eq_of_beq h818) rfl ?_
     refine seg 2 [] [1, 2, 5, 6, 17] [(1, (iv p1)), (2, (pt g9)), (5, (.slice A646 l648.length c647)), (6, (iv x649)), (17, (.pointer (some ⟨g9, 4, none⟩)))] [] (fun fb => by kernel_rfl) rfl trivial ?_
     refine seg 3 [.v (iv p0.e1.N), .v (iv p0.e1.E), .v (iv p0.e1.S), .v (iv p0.e1.W)] [1, 2, 5, 6, 18] [(1, (iv p1)), (2, (pt g9)), (5, (.slice A646 l648.length c647)), (6, (iv x649)), (18, (.agg #[(iv p0.e1.N), (iv p0.e1.E), (iv p0.e1.S), (iv p0.e1.W)]))] [.cell ⟨g9, 4, none⟩ (iv p0.e1.N), .cell ⟨g9, 5, none⟩ (iv p0.e1.E), .cell ⟨g9, 6, none⟩ (iv p0.e1.S), .cell ⟨g9, 7, none⟩ (iv p0.e1.W)] (fun fb => by kernel_rfl) rfl ⟨hS663.cell 0 rfl 4 rfl, hS663.cell 0 rfl 5 rfl, hS663.cell 0 rfl 6 rfl, hS663.cell 0 rfl 7 rfl, trivial⟩ ?_
     refine WL.new hS663 7 [] (fun g => (.pointer (some ⟨g, 0, none⟩))) (.cells #[(iv 0), (iv 0), (iv 0), (iv 0)] 24 (0, 0)) [] (fun fb g => by kernel_rfl) trivial (fun g819 w820 hS821 => ?_)
     refine ⟨trivial, ?_⟩
     refine WL.store hS821 0 rfl [(0, (iv p0.e1.N)), (1, (iv p0.e1.E)), (2, (iv p0.e1.S)), (3, (iv p0.e1.W))] #[(iv p0.e1.N), (iv p0.e1.E), (iv p0.e1.S), (iv p0.e1.W)] (fun fb => by kernel_rfl) (by kernel_rfl) rfl [1, 2] (by decide) (by decide) (fun w823 hS824 => ?_)
     refine ⟨trivial, ?_⟩
     refine WL.done rfl ?_
     refine WX.next ?_
     refine WC.seq ?_
     refine WC.regionD ([(1, ⟨g819, 0, none⟩, (iv p0.e1.N)), (4, ⟨g819, 1, none⟩, (iv p0.e1.E)), (7, ⟨g819, 2, none⟩, (iv p0.e1.S)), (10, ⟨g819, 3, none⟩, (iv p0.e1.W))], [0, 1, 3, 4, 6, 7, 9, 10, 12], [[], [0], [0, 1], [], [3], [0, 1, 2, 3, 4], [], [6], [0, 1, 2, 3, 4, 5, 6, 7], [], [9], [0, 1, 2, 3, 4, 5, 6, 7, 8, 9, 10], [0, 1, 2, 3, 4, 5, 6, 7, 8, 9, 10, 11], [0, 1, 2, 3, 4, 5, 6, 7, 8, 9, 10, 11, 12]]) [[0, 1, 3, 4, 6, 7, 9, 10, 2, 5, 8, 11, 12, 13]] (by kernel_rfl) (by kernel_rfl) (NoPanic.seq (NoPanic.block (NoPanic.seq (NoPanic.seq (NoPanic.block (NoPanic.seq (NoPanic.body))))))) ?_
     have hS848 := hS824.drew
     revert hS848
     generalize World.drew w823 = w847
     intro hS848
     refine ⟨⟨hS848.cell 0 rfl 0 rfl, hS848.cell 0 rfl 1 rfl, hS848.cell 0 rfl 2 rfl, hS848.cell 0 rfl 3 rfl, trivial⟩, forallC ?_ (forallN)⟩
     refine segF 8 [.v (iv p0.e1.N), .v (iv p0.e1.E), .v (iv p0.e1.S), .v (iv p0.e1.W)] [1, 2, 5, 6, 7, 20, 23, 26, 29] [(1, (iv p1)), (2, (pt g9)), (5, (.slice A646 l648.length c647)), (6, (iv x649)), (7, (pt g819)), (20, (iv p0.e1.N)), (23, (iv p0.e1.E)), (26, (iv p0.e1.S)), (29, (iv p0.e1.W))] [] [0, 1, 2, 3] [(1, ⟨g819, 0, none⟩, (iv p0.e1.N)), (4, ⟨g819, 1, none⟩, (iv p0.e1.E)), (7, ⟨g819, 2, none⟩, (iv p0.e1.S)), (10, ⟨g819, 3, none⟩, (iv p0.e1.W))] (fun fb => by kernel_rfl) rfl trivial rfl ?_
     obtain ⟨t849, ht850, hl658⟩ := bind_some hl658
     refine WL.call (some 21) 56 #[(iv p0.e1.N), (iv 6)] (fun fb => by kernel_rfl) (top_cycle_calls p0.e1.N 6 t849 _ ht850) (fun v w851 hR852 => ?_)
     obtain ⟨rfl, hk_⟩ := hR852
     have hS853 := hS848.keepN hk_
     refine ⟨⟨hS853.cell 0 rfl 1 rfl, hS853.cell 0 rfl 2 rfl, hS853.cell 0 rfl 3 rfl, trivial⟩, ?_⟩
     obtain ⟨t854, ht855, hl658⟩ := bind_some hl658
     refine WL.call (some 24) 56 #[(iv p0.e1.E), (iv 6)] (fun fb => by kernel_rfl) (top_cycle_calls p0.e1.E 6 t854 _ ht855) (fun v w856 hR857 => ?_)
     obtain ⟨rfl, hk_⟩ := hR857
     have hS858 := hS853.keepN hk_
     refine ⟨⟨hS858.cell 0 rfl 2 rfl, hS858.cell 0 rfl 3 rfl, trivial⟩, ?_⟩
     obtain ⟨t859, ht860, hl658⟩ := bind_some hl658
     refine WL.call (some 27) 56 #[(iv p0.e1.S), (iv 6)] (fun fb => by kernel_rfl) (top_cycle_calls p0.e1.S 6 t859 _ ht860) (fun v w861 hR862 => ?_)
     obtain ⟨rfl, hk_⟩ := hR862
     have hS863 := hS858.keepN hk_
     refine ⟨⟨hS863.cell 0 rfl 3 rfl, trivial⟩, ?_⟩
     obtain ⟨t864, ht865, hl658⟩ := bind_some hl658
     refine WL.call (some 30) 56 #[(iv p0.e1.W), (iv 6)] (fun fb => by kernel_rfl) (top_cycle_calls p0.e1.W 6 t864 _ ht865) (fun v w866 hR867 => ?_)
     obtain ⟨rfl, hk_⟩ := hR867
     have hS868 := hS863.keepN hk_
     refine ⟨trivial, ?_⟩
     refine seg 13 [] [1, 2, 5, 6, 7, 31] [(1, (iv p1)), (2, (pt g9)), (5, (.slice A646 l648.length c647)), (6, (iv x649)), (7, (pt g819)), (31, (.agg #[(iv t849), (iv t854), (iv t859), (iv t864)]))] [] (fun fb => by kernel_rfl) rfl trivial ?_
     refine WL.store hS868 0 rfl [(0, (iv t849)), (1, (iv t854)), (2, (iv t859)), (3, (iv t864))] #[(iv t849), (iv t854), (iv t859), (iv t864)] (fun fb => by kernel_rfl) (by kernel_rfl) rfl [1, 2] (by decide) (by decide) (fun w869 hS870 => ?_)
     refine ⟨trivial, ?_⟩
     refine WL.done rfl ?_
     refine WX.next ?_
     refine WC.seq ?_
     refine WC.region ?_
     refine seg 1 [] [1, 2, 5, 6, 7, 8] [(1, (iv p1)), (2, (pt g9)), (5, (.slice A646 l648.length c647)), (6, (iv x649)), (7, (pt g819)), (8, (.bool false))] [] (fun fb => by kernel_rfl) rfl trivial ?_
     refine WL.done rfl ?_
     refine WX.next ?_
     refine WC.seq ?_
     refine WC.seq ?_
     refine WC.region ?_
     refine seg 1 [] [1, 2, 5, 6, 7, 8, 9] [(1, (iv p1)), (2, (pt g9)), (5, (.slice A646 l648.length c647)), (6, (iv x649)), (7, (pt g819)), (8, (.bool false)), (9, (iv 0))] [] (fun fb => by kernel_rfl) rfl trivial ?_
     refine WL.done rfl ?_
     refine WX.next ?_
     obtain ⟨x906, hx907, hl658⟩ := bind_some hl658
     refine WC.cutN (T := Bool) (fun t => [(1, (iv p1)), (2, (pt g9)), (5, (.slice A646 l648.length c647)), (6, (iv x649)), (7, (pt g819)), (8, (.bool t))]) (fun t w1 => St NoS w w1 [] [blk g9 (.cells #[(iv p0.e0.N), (iv p0.e0.E), (iv p0.e0.S), (iv p0.e0.W), (iv p0.e1.N), (iv p0.e1.E), (iv p0.e1.S), (iv p0.e1.W), (iv p0.e2.N), (iv p0.e2.E), (iv p0.e2.S), (iv p0.e2.W)] 59 (0, 0)), rowO 24 enc_Tile A646 c647 l648, blk g819 (.cells #[(iv t849), (iv t854), (iv t859), (iv t864)] 24 (0, 0))] ∧ x906 = t) (fun Kx906 => ?_) ?_
     ·
      refine WC.block ?_
      refine WC.loop (T := Bool × Int) (fun t => [(1, (iv p1)), (2, (pt g9)), (5, (.slice A646 l648.length c647)), (6, (iv x649)), (7, (pt g819)), (8, (.bool t.1)), (9, (iv t.2))]) (fun n t w1 => St NoS w w1 [] [blk g9 (.cells #[(iv p0.e0.N), (iv p0.e0.E), (iv p0.e0.S), (iv p0.e0.W), (iv p0.e1.N), (iv p0.e1.E), (iv p0.e1.S), (iv p0.e1.W), (iv p0.e2.N), (iv p0.e2.E), (iv p0.e2.S), (iv p0.e2.W)] 59 (0, 0)), rowO 24 enc_Tile A646 c647 l648, blk g819 (.cells #[(iv t849), (iv t854), (iv t859), (iv t864)] 24 (0, 0))] ∧ top_small.l2 n t.1 t.2 l648 t849 t854 t859 t864 = some x906) k655 (false, 0) [1, 2, 5, 6, 7, 8, 9] rfl ⟨(hS870.subR []).sub [1, 2, 0] (by decide), hx907⟩ ?_
      rintro k908 ⟨b903, x904⟩ w909 ⟨hS910, hl911⟩
      cases k908 with
      | zero => rw [top_small.l2] at hl911; cases hl911
      | succ k908 =>
       rw [top_small.l2] at hl911
       refine WC.seq ?_
       refine WC.seq ?_
       refine WC.region ?_
       refine seg 4 [] [1, 2, 5, 6, 7, 8, 9, 35] [(1, (iv p1)), (2, (pt g9)), (5, (.slice A646 l648.length c647)), (6, (iv x649)), (7, (pt g819)), (8, (.bool b903)), (9, (iv x904)), (35, (.bool (decide (x904 < (l648.length : Int)))))] [] (fun fb => by kernel_rfl) rfl trivial ?_
       refine WL.done rfl ?_
       refine WX.next ?_
       rcases br_some hl911 with ⟨h912, hl911⟩ | ⟨h912, hl911⟩
       ·refine WC.condT2 (fun fb => by kernel_rfl) h912 ?_
        refine WC.skip ?_
        refine WX.next ?_
        refine WC.seq ?_
        refine WC.block ?_
        obtain ⟨x922, hx923, hl911⟩ := bind_some hl911
        refine WC.cutN (T := Bool) (fun t => [(1, (iv p1)), (2, (pt g9)), (5, (.slice A646 l648.length c647)), (6, (iv x649)), (7, (pt g819)), (8, (.bool t)), (9, (iv x904))]) (fun t w1 => St NoS w w1 [] [blk g9 (.cells #[(iv p0.e0.N), (iv p0.e0.E), (iv p0.e0.S), (iv p0.e0.W), (iv p0.e1.N), (iv p0.e1.E), (iv p0.e1.S), (iv p0.e1.W), (iv p0.e2.N), (iv p0.e2.E), (iv p0.e2.S), (iv p0.e2.W)] 59 (0, 0)), rowO 24 enc_Tile A646 c647 l648, blk g819 (.cells #[(iv t849), (iv t854), (iv t859), (iv t864)] 24 (0, 0))] ∧ x922 = t) (fun Kx922 => ?_) ?_
        ·
         rcases br_some hx923 with ⟨h924, hx923⟩ | ⟨h924, hx923⟩
         ·
          refine WC.regionD ([], [0, 1, 2, 3, 4, 5, 6, 7, 8, 9], [[], [0], [0, 1], [0, 1], [0, 1, 2, 3], [0, 1, 2, 3, 4], [0, 1], [0, 1, 2, 3, 4, 5, 6], [0, 1, 2, 3, 4, 5, 6, 7], [0, 1, 2, 3, 4, 5, 6, 7, 8]]) [[0, 1, 2, 3, 4, 5, 6, 7, 8, 9]] (by kernel_rfl) (by kernel_rfl) (NoPanic.block (NoPanic.seq (NoPanic.seq (NoPanic.block (NoPanic.seq (NoPanic.block (NoPanic.seq (NoPanic.seq (NoPanic.block (NoPanic.seq (NoPanic.body))))))))))) ?_
          have hS926 := hS910.drew
          revert hS926
          generalize World.drew w909 = w925
          intro hS926
          refine ⟨trivial, forallC ?_ (forallN)⟩
          refine seg 2 [] [1, 2, 5, 6, 7, 9, 39] [(1, (iv p1)), (2, (pt g9)), (5, (.slice A646 l648.length c647)), (6, (iv x649)), (7, (pt g819)), (9, (iv x904)), (39, (.bool b903))] [] (fun fb => by kernel_rfl) rfl trivial ?_
          refine WL.setB 39 h924 rfl ?_
          refine seg 10 [] [1, 2, 5, 6, 7, 8, 9] [(1, (iv p1)), (2, (pt g9)), (5, (.slice A646 l648.length c647)), (6, (iv x649)), (7, (pt g819)), (8, (.bool true)), (9, (iv x904))] [] (fun fb => by kernel_rfl) rfl trivial ?_
          refine WL.done rfl ?_
          injection hx923 with hx923
          exact WX.to Kx922 true [1, 2, 5, 6, 7, 8, 9] rfl ⟨(hS926.subR []).sub [0, 1, 2] (by decide), hx923.symm⟩
         obtain ⟨h931, hx923⟩ := as_some hx923
         refine WC.regionD ([(5, ((adr A646).add ((x904).toNat * 4)), (iv ((rdD l648 x904 z_Tile).N))), (5, (((adr A646).add ((x904).toNat * 4)).add 1), (iv ((rdD l648 x904 z_Tile).E))), (5, (((adr A646).add ((x904).toNat * 4)).add 2), (iv ((rdD l648 x904 z_Tile).S))), (5, (((adr A646).add ((x904).toNat * 4)).add 3), (iv ((rdD l648 x904 z_Tile).W))), (6, ⟨g819, 0, none⟩, (iv t849)), (6, ⟨g819, 1, none⟩, (iv t854)), (6, ⟨g819, 2, none⟩, (iv t859)), (6, ⟨g819, 3, none⟩, (iv t864))], [0, 1, 2, 3, 4, 5, 6, 7, 8, 9], [[], [0], [0, 1], [0, 1], [0, 1, 2, 3], [0, 1, 2, 3, 4], [0, 1], [0, 1, 2, 3, 4, 5, 6], [0, 1, 2, 3, 4, 5, 6, 7], [0, 1, 2, 3, 4, 5, 6, 7, 8]]) [[0, 1, 2, 3, 4, 5, 6, 7, 8, 9]] (by kernel_rfl) (by kernel_rfl) (NoPanic.block (NoPanic.seq (NoPanic.seq (NoPanic.block (NoPanic.seq (NoPanic.block (NoPanic.seq (NoPanic.seq (NoPanic.block (NoPanic.seq (NoPanic.body))))))))))) ?_
         have hS929 := hS910.drew
         revert hS929
         generalize World.drew w909 = w928
         intro hS929
         refine ⟨⟨rowR.cell (rowO.rd (hS929.own 1).1) z_Tile h931.1 h931.2 0 rfl, rowR.cell (rowO.rd (hS929.own 1).1) z_Tile h931.1 h931.2 1 rfl, rowR.cell (rowO.rd (hS929.own 1).1) z_Tile h931.1 h931.2 2 rfl, rowR.cell (rowO.rd (hS929.own 1).1) z_Tile h931.1 h931.2 3 rfl, hS929.cell 2 rfl 0 rfl, hS929.cell 2 rfl 1 rfl, hS929.cell 2 rfl 2 rfl, hS929.cell 2 rfl 3 rfl, trivial⟩, forallC ?_ (forallN)⟩
         refine seg 2 [] [1, 2, 5, 6, 7, 9, 39] [(1, (iv p1)), (2, (pt g9)), (5, (.slice A646 l648.length c647)), (6, (iv x649)), (7, (pt g819)), (9, (iv x904)), (39, (.bool b903))] [] (fun fb => by kernel_rfl) rfl trivial ?_
         refine WL.setB 39 h924 rfl ?_
         refine segF 10 [.v (iv ((rdD l648 x904 z_Tile).N)), .v (iv ((rdD l648 x904 z_Tile).E)), .v (iv ((rdD l648 x904 z_Tile).S)), .v (iv ((rdD l648 x904 z_Tile).W)), .v (iv t849), .v (iv t854), .v (iv t859), .v (iv t864)] [1, 2, 5, 6, 7, 8, 9] [(1, (iv p1)), (2, (pt g9)), (5, (.slice A646 l648.length c647)), (6, (iv x649)), (7, (pt g819)), (8, (.bool (((rdD l648 x904 z_Tile).N) == t849 && (((rdD l648 x904 z_Tile).E) == t854 && (((rdD l648 x904 z_Tile).S) == t859 && (((rdD l648 x904 z_Tile).W) == t864)))))), (9, (iv x904))] [.idx A646 x904 l648.length] [0, 1, 2, 3, 4, 5, 6, 7] [(5, ((adr A646).add ((x904).toNat * 4)), (iv ((rdD l648 x904 z_Tile).N))), (5, (((adr A646).add ((x904).toNat * 4)).add 1), (iv ((rdD l648 x904 z_Tile).E))), (5, (((adr A646).add ((x904).toNat * 4)).add 2), (iv ((rdD l648 x904 z_Tile).S))), (5, (((adr A646).add ((x904).toNat * 4)).add 3), (iv ((rdD l648 x904 z_Tile).W))), (6, ⟨g819, 0, none⟩, (iv t849)), (6, ⟨g819, 1, none⟩, (iv t854)), (6, ⟨g819, 2, none⟩, (iv t859)), (6, ⟨g819, 3, none⟩, (iv t864))] (fun fb => by kernel_rfl) rfl ⟨rowR.adr (rowO.rd (hS929.own 1).1) h931.1 h931.2, trivial⟩ rfl ?_
         refine WL.done rfl ?_
         injection hx923 with hx923
         exact WX.to Kx922 (((rdD l648 x904 z_Tile).N) == t849 && (((rdD l648 x904 z_Tile).E) == t854 && (((rdD l648 x904 z_Tile).S) == t859 && (((rdD l648 x904 z_Tile).W) == t864)))) [1, 2, 5, 6, 7, 8, 9] rfl ⟨(hS929.subR []).sub [0, 1, 2] (by decide), hx923.symm⟩
        rintro y935 w932 ⟨hS933, hq934⟩
        subst hq934
        refine WX.blockN (WX.next ?_)
        refine WC.region ?_
        refine seg 3 [] [1, 2, 5, 6, 7, 8, 9] [(1, (iv p1)), (2, (pt g9)), (5, (.slice A646 l648.length c647)), (6, (iv x649)), (7, (pt g819)), (8, (.bool x922)), (9, (iv (w64 (x904 + 1))))] [] (fun fb => by kernel_rfl) rfl trivial ?_
        refine WL.done rfl ?_
        exact WX.again k908 (Nat.lt_succ_self _) (x922, w64 (x904 + 1)) [1, 2, 5, 6, 7, 8, 9] rfl ⟨(hS933.subR []).sub [0, 1, 2] (by decide), hl911⟩
       refine WC.condF2 (fun fb => by kernel_rfl) h912 ?_
       refine WC.exit ?_
       injection hl911 with hl911
       exact WX.thenX (WX.thenX (WX.blockHere (WX.to Kx906 b903 [1, 2, 5, 6, 7, 8] rfl ⟨(hS910.subR []).sub [0, 1, 2] (by decide), hl911.symm⟩)))
     rintro y939 w936 ⟨hS937, hq938⟩
     subst hq938
     refine WX.next ?_
     refine WC.seq ?_
     refine WC.region ?_
     refine seg 2 [] [1, 2, 5, 6, 7, 48] [(1, (iv p1)), (2, (pt g9)), (5, (.slice A646 l648.length c647)), (6, (iv x649)), (7, (pt g819)), (48, (.bool (!x906)))] [] (fun fb => by kernel_rfl) rfl trivial ?_
     refine WL.done rfl ?_
     refine WX.next ?_
     obtain ⟨x954, hx955, hl658⟩ := bind_some hl658
     refine WC.cutN (T := (List Tile) × (Option Addr) × Nat) (fun t => [(1, (iv p1)), (2, (pt g9)), (5, (.slice t.2.1 t.1.length t.2.2)), (6, (iv x649))]) (fun t w1 => St NoS w w1 [] [blk g9 (.cells #[(iv p0.e0.N), (iv p0.e0.E), (iv p0.e0.S), (iv p0.e0.W), (iv p0.e1.N), (iv p0.e1.E), (iv p0.e1.S), (iv p0.e1.W), (iv p0.e2.N), (iv p0.e2.E), (iv p0.e2.S), (iv p0.e2.W)] 59 (0, 0)), rowO 24 enc_Tile t.2.1 t.2.2 t.1] ∧ x954 = t.1) (fun Kx954 => ?_) ?_
     ·
      rcases br_some hx955 with ⟨h956, hx955⟩ | ⟨h956, hx955⟩
      ·refine WC.condT2 (fun fb => by kernel_rfl) h956 ?_
       refine WC.region ?_
       refine seg 2 [.v (iv t849), .v (iv t854), .v (iv t859), .v (iv t864)] [1, 2, 6, 49, 50] [(1, (iv p1)), (2, (pt g9)), (6, (iv x649)), (49, (.slice A646 l648.length c647)), (50, (.agg #[(iv t849), (iv t854), (iv t859), (iv t864)]))] [.cell ⟨g819, 0, none⟩ (iv t849), .cell ⟨g819, 1, none⟩ (iv t854), .cell ⟨g819, 2, none⟩ (iv t859), .cell ⟨g819, 3, none⟩ (iv t864)] (fun fb => by kernel_rfl) rfl ⟨hS937.cell 2 rfl 0 rfl, hS937.cell 2 rfl 1 rfl, hS937.cell 2 rfl 2 rfl, hS937.cell 2 rfl 3 rfl, trivial⟩ ?_
       refine WL.new hS937 51 [] (fun g => (.slice (some ⟨g, 0, none⟩) 1 1)) (.cells #[(iv t849), (iv t854), (iv t859), (iv t864)] 24 (0, 0)) [] (fun fb g => by kernel_rfl) trivial (fun g957 w958 hS959 => ?_)
       refine ⟨trivial, ?_⟩
       have hS961 : St NoS w w958 [] [rowO 24 enc_Tile (some ⟨g957, 0, none⟩) 1 [(Tile.mk t849 t854 t859 t864)], blk g9 (.cells #[(iv p0.e0.N), (iv p0.e0.E), (iv p0.e0.S), (iv p0.e0.W), (iv p0.e1.N), (iv p0.e1.E), (iv p0.e1.S), (iv p0.e1.W), (iv p0.e2.N), (iv p0.e2.E), (iv p0.e2.S), (iv p0.e2.W)] 59 (0, 0)), rowO 24 enc_Tile A646 c647 l648, blk g819 (.cells #[(iv t849), (iv t854), (iv t859), (iv t864)] 24 (0, 0))] := hS959.map1 0 _ (fun h => rowO.ofBlk h rfl (Nat.le_of_ble_eq_true (by kernel_rfl))) (fun _ h => by obtain ⟨_, h1, h2⟩ := h; injection h1 with h1; subst h1; exact h2) [1, 2, 3] (by decide) (by decide)
       obtain ⟨h962, hx955⟩ := as_some hx955
       refine WL.append hS961 2 (d := 52) (tS := 22) (z := (.agg #[(iv 0), (iv 0), (iv 0), (iv 0)])) (bytes := 32) (c2 := 1) rfl (fun fb => by kernel_rfl) (rowO.rd (hS961.own 0).1) (by kernel_rfl) (by kernel_rfl) rfl (by decide) h962 (by decide) [0, 1, 3] (by decide) (by decide) (fun A963 c964 w965 hS966 => ?_)
       refine ⟨trivial, ?_⟩
       refine seg 5 [] [1, 2, 5, 6] [(1, (iv p1)), (2, (pt g9)), (5, (.slice A963 (l648 ++ [(Tile.mk t849 t854 t859 t864)]).length c964)), (6, (iv x649))] [] (fun fb => by kernel_rfl) rfl trivial ?_
       refine WL.done rfl ?_
       injection hx955 with hx955
       exact WX.to Kx954 (l648 ++ [(Tile.mk t849 t854 t859 t864)], A963, c964) [1, 2, 5, 6] rfl ⟨(hS966.subR []).sub [2, 0] (by decide), hx955.symm⟩
      refine WC.condF2 (fun fb => by kernel_rfl) h956 ?_
      refine WC.skip ?_
      injection hx955 with hx955
      exact WX.to Kx954 (l648, A646, c647) [1, 2, 5, 6] rfl ⟨(hS937.subR []).sub [0, 1] (by decide), hx955.symm⟩
     rintro ⟨y970, A951, c952⟩ w967 ⟨hS968, hq969⟩
     subst hq969
     refine WX.blockN (WX.next ?_)
     refine WC.region ?_
     refine seg 3 [] [1, 2, 5, 6] [(1, (iv p1)), (2, (pt g9)), (5, (.slice A951 x954.length c952)), (6, (iv (w64 (x649 + 1))))] [] (fun fb => by kernel_rfl) rfl trivial ?_
     refine WL.done rfl ?_
     exact WX.again k655 (Nat.lt_succ_self _) ((x954, w64 (x649 + 1)), A951, c952) [1, 2, 5, 6] rfl ⟨(hS968.subR []).sub [0, 1] (by decide), hl658⟩
    rcases br_some hl658 with ⟨h971, hl658⟩ | ⟨h971, hl658⟩
    ·
     refine WL.setI 16 (eq_of_beq h971) rfl ?_
     refine seg 2 [] [1, 2, 5, 6, 17] [(1, (iv p1)), (2, (pt g9)), (5, (.slice A646 l648.length c647)), (6, (iv x649)), (17, (.pointer (some ⟨g9, 8, none⟩)))] [] (fun fb => by kernel_rfl) rfl trivial ?_
     refine seg 3 [.v (iv p0.e2.N), .v (iv p0.e2.E), .v (iv p0.e2.S), .v (iv p0.e2.W)] [1, 2, 5, 6, 18] [(1, (iv p1)), (2, (pt g9)), (5, (.slice A646 l648.length c647)), (6, (iv x649)), (18, (.agg #[(iv p0.e2.N), (iv p0.e2.E), (iv p0.e2.S), (iv p0.e2.W)]))] [.cell ⟨g9, 8, none⟩ (iv p0.e2.N), .cell ⟨g9, 9, none⟩ (iv p0.e2.E), .cell ⟨g9, 10, none⟩ (iv p0.e2.S), .cell ⟨g9, 11, none⟩ (iv p0.e2.W)] (fun fb => by kernel_rfl) rfl ⟨hS663.cell 0 rfl 8 rfl, hS663.cell 0 rfl 9 rfl, hS663.cell 0 rfl 10 rfl, hS663.cell 0 rfl 11 rfl, trivial⟩ ?_
     refine WL.new hS663 7 [] (fun g => (.pointer (some ⟨g, 0, none⟩))) (.cells #[(iv 0), (iv 0), (iv 0), (iv 0)] 24 (0, 0)) [] (fun fb g => by kernel_rfl) trivial (fun g972 w973 hS974 => ?_)
     refine ⟨trivial, ?_⟩
     refine WL.store hS974 0 rfl [(0, (iv p0.e2.N)), (1, (iv p0.e2.E)), (2, (iv p0.e2.S)), (3, (iv p0.e2.W))] #[(iv p0.e2.N), (iv p0.e2.E), (iv p0.e2.S), (iv p0.e2.W)] (fun fb => by kernel_rfl) (by kernel_rfl) rfl [1, 2] (by decide) (by decide) (fun w976 hS977 => ?_)
     refine ⟨trivial, ?_⟩
     refine WL.done rfl ?_
     refine WX.next ?_
     refine WC.seq ?_
     refine WC.regionD ([(1, ⟨g972, 0, none⟩, (iv p0.e2.N)), (4, ⟨g972, 1, none⟩, (iv p0.e2.E)), (7, ⟨g972, 2, none⟩, (iv p0.e2.S)), (10, ⟨g972, 3, none⟩, (iv p0.e2.W))], [0, 1, 3, 4, 6, 7, 9, 10, 12], [[], [0], [0, 1], [], [3], [0, 1, 2, 3, 4], [], [6], [0, 1, 2, 3, 4, 5, 6, 7], [], [9], [0, 1, 2, 3, 4, 5, 6, 7, 8, 9, 10], [0, 1, 2, 3, 4, 5, 6, 7, 8, 9, 10, 11], [0, 1, 2, 3, 4, 5, 6, 7, 8, 9, 10, 11, 12]]) [[0, 1, 3, 4, 6, 7, 9, 10, 2, 5, 8, 11, 12, 13]] (by kernel_rfl) (by kernel_rfl) (NoPanic.seq (NoPanic.block (NoPanic.seq (NoPanic.seq (NoPanic.block (NoPanic.seq (NoPanic.body))))))) ?_
     have hS1001 := hS977.drew
     revert hS1001
     generalize World.drew w976 = w1000
     intro hS1001
     refine ⟨⟨hS1001.cell 0 rfl 0 rfl, hS1001.cell 0 rfl 1 rfl, hS1001.cell 0 rfl 2 rfl, hS1001.cell 0 rfl 3 rfl, trivial⟩, forallC ?_ (forallN)⟩
     refine segF 8 [.v (iv p0.e2.N), .v (iv p0.e2.E), .v (iv p0.e2.S), .v (iv p0.e2.W)] [1, 2, 5, 6, 7, 20, 23, 26, 29] [(1, (iv p1)), (2, (pt g9)), (5, (.slice A646 l648.length c647)), (6, (iv x649)), (7, (pt g972)), (20, (iv p0.e2.N)), (23, (iv p0.e2.E)), (26, (iv p0.e2.S)), (29, (iv p0.e2.W))] [] [0, 1, 2, 3] [(1, ⟨g972, 0, none⟩, (iv p0.e2.N)), (4, ⟨g972, 1, none⟩, (iv p0.e2.E)), (7, ⟨g972, 2, none⟩, (iv p0.e2.S)), (10, ⟨g972, 3, none⟩, (iv p0.e2.W))] (fun fb => by kernel_rfl) rfl trivial rfl ?_
     obtain ⟨t1002, ht1003, hl658⟩ := bind_some hl658
     refine WL.call (some 21) 56 #[(iv p0.e2.N), (iv 6)] (fun fb => by kernel_rfl) (top_cycle_calls p0.e2.N 6 t1002 _ ht1003) (fun v w1004 hR1005 => ?_)
     obtain ⟨rfl, hk_⟩ := hR1005
     have hS1006 := hS1001.keepN hk_
     refine ⟨⟨hS1006.cell 0 rfl 1 rfl, hS1006.cell 0 rfl 2 rfl, hS1006.cell 0 rfl 3 rfl, trivial⟩, ?_⟩
     obtain ⟨t1007, ht1008, hl658⟩ := bind_some hl658
     refine WL.call (some 24) 56 #[(iv p0.e2.E), (iv 6)] (fun fb => by kernel_rfl) (top_cycle_calls p0.e2.E 6 t1007 _ ht1008) (fun v w1009 hR1010 => ?_)
     obtain ⟨rfl, hk_⟩ := hR1010
     have hS1011 := hS1006.keepN hk_
     refine ⟨⟨hS1011.cell 0 rfl 2 rfl, hS1011.cell 0 rfl 3 rfl, trivial⟩, ?_⟩
     obtain ⟨t1012, ht1013, hl658⟩ := bind_some hl658
     refine WL.call (some 27) 56 #[(iv p0.e2.S), (iv 6)] (fun fb => by kernel_rfl) (top_cycle_calls p0.e2.S 6 t1012 _ ht1013) (fun v w1014 hR1015 => ?_)
     obtain ⟨rfl, hk_⟩ := hR1015
     have hS1016 := hS1011.keepN hk_
     refine ⟨⟨hS1016.cell 0 rfl 3 rfl, trivial⟩, ?_⟩
     obtain ⟨t1017, ht1018, hl658⟩ := bind_some hl658
     refine WL.call (some 30) 56 #[(iv p0.e2.W), (iv 6)] (fun fb => by kernel_rfl) (top_cycle_calls p0.e2.W 6 t1017 _ ht1018) (fun v w1019 hR1020 => ?_)
     obtain ⟨rfl, hk_⟩ := hR1020
     have hS1021 := hS1016.keepN hk_
     refine ⟨trivial, ?_⟩
     refine seg 13 [] [1, 2, 5, 6, 7, 31] [(1, (iv p1)), (2, (pt g9)), (5, (.slice A646 l648.length c647)), (6, (iv x649)), (7, (pt g972)), (31, (.agg #[(iv t1002), (iv t1007), (iv t1012), (iv t1017)]))] [] (fun fb => by kernel_rfl) rfl trivial ?_
     refine WL.store hS1021 0 rfl [(0, (iv t1002)), (1, (iv t1007)), (2, (iv t1012)), (3, (iv t1017))] #[(iv t1002), (iv t1007), (iv t1012), (iv t1017)] (fun fb => by kernel_rfl) (by kernel_rfl) rfl [1, 2] (by decide) (by decide) (fun w1022 hS1023 => ?_)
     refine ⟨trivial, ?_⟩
     refine WL.done rfl ?_
     refine WX.next ?_
     refine WC.seq ?_
     refine WC.region ?_
     refine seg 1 [] [1, 2, 5, 6, 7, 8] [(1, (iv p1)), (2, (pt g9)), (5, (.slice A646 l648.length c647)), (6, (iv x649)), (7, (pt g972)), (8, (.bool false))] [] (fun fb => by kernel_rfl) rfl trivial ?_
     refine WL.done rfl ?_
     refine WX.next ?_
     refine WC.seq ?_
     refine WC.seq ?_
     refine WC.region ?_
     refine seg 1 [] [1, 2, 5, 6, 7, 8, 9] [(1, (iv p1)), (2, (pt g9)), (5, (.slice A646 l648.length c647)), (6, (iv x649)), (7, (pt g972)), (8, (.bool false)), (9, (iv 0))] [] (fun fb => by kernel_rfl) rfl trivial ?_
     refine WL.done rfl ?_
     refine WX.next ?_
     obtain ⟨x1059, hx1060, hl658⟩ := bind_some hl658
     refine WC.cutN (T := Bool) (fun t => [(1, (iv p1)), (2, (pt g9)), (5, (.slice A646 l648.length c647)), (6, (iv x649)), (7, (pt g972)), (8, (.bool t))]) (fun t w1 => St NoS w w1 [] [blk g9 (.cells #[(iv p0.e0.N), (iv p0.e0.E), (iv p0.e0.S), (iv p0.e0.W), (iv p0.e1.N), (iv p0.e1.E), (iv p0.e1.S), (iv p0.e1.W), (iv p0.e2.N), (iv p0.e2.E), (iv p0.e2.S), (iv p0.e2.W)] 59 (0, 0)), rowO 24 enc_Tile A646 c647 l648, blk g972 (.cells #[(iv t1002), (iv t1007), (iv t1012), (iv t1017)] 24 (0, 0))] ∧ x1059 = t) (fun Kx1059 => ?_) ?_
     ·
      refine WC.block ?_
      refine WC.loop (T := Bool × Int) (fun t => [(1, (iv p1)), (2, (pt g9)), (5, (.slice A646 l648.length c647)), (6, (iv x649)), (7, (pt g972)), (8, (.bool t.1)), (9, (iv t.2))]) (fun n t w1 => St NoS w w1 [] [blk g9 (.cells #[(iv p0.e0.N), (iv p0.e0.E), (iv p0.e0.S), (iv p0.e0.W), (iv p0.e1.N), (iv p0.e1.E), (iv p0.e1.S), (iv p0.e1.W), (iv p0.e2.N), (iv p0.e2.E), (iv p0.e2.S), (iv p0.e2.W)] 59 (0, 0)), rowO 24 enc_Tile A646 c647 l648, blk g972 (.cells #[(iv t1002), (iv t1007), (iv t1012), (iv t1017)] 24 (0, 0))] ∧ top_small.l3 n t.1 t.2 l648 t1002 t1007 t1012 t1017 = some x1059) k655 (false, 0) [1, 2, 5, 6, 7, 8, 9] rfl ⟨(hS1023.subR []).sub [1, 2, 0] (by decide), hx1060⟩ ?_
      rintro k1061 ⟨b1056, x1057⟩ w1062 ⟨hS1063, hl1064⟩
      cases k1061 with
      | zero => rw [top_small.l3] at hl1064; cases hl1064
      | succ k1061 =>
       rw [top_small.l3] at hl1064
       refine WC.seq ?_
       refine WC.seq ?_
       refine WC.region ?_
       refine seg 4 [] [1, 2, 5, 6, 7, 8, 9, 35] [(1, (iv p1)), (2, (pt g9)), (5, (.slice A646 l648.length c647)), (6, (iv x649)), (7, (pt g972)), (8, (.bool b1056)), (9, (iv x1057)), (35, (.bool (decide (x1057 < (l648.length : Int)))))] [] (fun fb => by kernel_rfl) rfl trivial ?_
       refine WL.done rfl ?_
       refine WX.next ?_
       rcases br_some hl1064 with ⟨h1065, hl1064⟩ | ⟨h1065, hl1064⟩
       ·refine WC.condT2 (fun fb => by kernel_rfl) h1065 ?_
        refine WC.skip ?_
        refine WX.next ?_
        refine WC.seq ?_
        refine WC.block ?_
        obtain ⟨x1075, hx1076, hl1064⟩ := bind_some hl1064
        refine WC.cutN (T := Bool) (fun t => [(1, (iv p1)), (2, (pt g9)), (5, (.slice A646 l648.length c647)), (6, (iv x649)), (7, (pt g972)), (8, (.bool t)), (9, (iv x1057))]) (fun t w1 => St NoS w w1 [] [blk g9 (.cells #[(iv p0.e0.N), (iv p0.e0.E), (iv p0.e0.S), (iv p0.e0.W), (iv p0.e1.N), (iv p0.e1.E), (iv p0.e1.S), (iv p0.e1.W), (iv p0.e2.N), (iv p0.e2.E), (iv p0.e2.S), (iv p0.e2.W)] 59 (0, 0)), rowO 24 enc_Tile A646 c647 l648, blk g972 (.cells #[(iv t1002), (iv t1007), (iv t1012), (iv t1017)] 24 (0, 0))] ∧ x1075 = t) (fun Kx1075 => ?_) ?_
        ·
         rcases br_some hx1076 with ⟨h1077, hx1076⟩ | ⟨h1077, hx1076⟩
         ·
          refine WC.regionD ([], [0, 1, 2, 3, 4, 5, 6, 7, 8, 9], [[], [0], [0, 1], [0, 1], [0, 1, 2, 3], [0, 1, 2, 3, 4], [0, 1], [0, 1, 2, 3, 4, 5, 6], [0, 1, 2, 3, 4, 5, 6, 7], [0, 1, 2, 3, 4, 5, 6, 7, 8]]) [[0, 1, 2, 3, 4, 5, 6, 7, 8, 9]] (by kernel_rfl) (by kernel_rfl) (NoPanic.block (NoPanic.seq (NoPanic.seq (NoPanic.block (NoPanic.seq (NoPanic.block (NoPanic.seq (NoPanic.seq (NoPanic.block (NoPanic.seq (NoPanic.body))))))))))) ?_
          have hS1079 := hS1063.drew
          revert hS1079
          generalize World.drew w1062 = w1078
          intro hS1079
          refine ⟨trivial, forallC ?_ (forallN)⟩
          refine seg 2 [] [1, 2, 5, 6, 7, 9, 39] [(1, (iv p1)), (2, (pt g9)), (5, (.slice A646 l648.length c647)), (6, (iv x649)), (7, (pt g972)), (9, (iv x1057)), (39, (.bool b1056))] [] (fun fb => by kernel_rfl) rfl trivial ?_
          refine WL.setB 39 h1077 rfl ?_
          refine seg 10 [] [1, 2, 5, 6, 7, 8, 9] [(1, (iv p1)), (2, (pt g9)), (5, (.slice A646 l648.length c647)), (6, (iv x649)), (7, (pt g972)), (8, (.bool true)), (9, (iv x1057))] [] (fun fb => by kernel_rfl) rfl trivial ?_
          refine WL.done rfl ?_
          injection hx1076 with hx1076
          exact WX.to Kx1075 true [1, 2, 5, 6, 7, 8, 9] rfl ⟨(hS1079.subR []).sub [0, 1, 2] (by decide), hx1076.symm⟩
         obtain ⟨h1084, hx1076⟩ := as_some hx1076
         refine WC.regionD ([(5, ((adr A646).add ((x1057).toNat * 4)), (iv ((rdD l648 x1057 z_Tile).N))), (5, (((adr A646).add ((x1057).toNat * 4)).add 1), (iv ((rdD l648 x1057 z_Tile).E))), (5, (((adr A646).add ((x1057).toNat * 4)).add 2), (iv ((rdD l648 x1057 z_Tile).S))), (5, (((adr A646).add ((x1057).toNat * 4)).add 3), (iv ((rdD l648 x1057 z_Tile).W))), (6, ⟨g972, 0, none⟩, (iv t1002)), (6, ⟨g972, 1, none⟩, (iv t1007)), (6, ⟨g972, 2, none⟩, (iv t1012)), (6, ⟨g972, 3, none⟩, (iv t1017))], [0, 1, 2, 3, 4, 5, 6, 7, 8, 9], [[], [0], [0, 1], [0, 1], [0, 1, 2, 3], [0, 1, 2, 3, 4], [0, 1], [0, 1, 2, 3, 4, 5, 6], [0, 1, 2, 3, 4, 5, 6, 7], [0, 1, 2, 3, 4, 5, 6, 7, 8]]) [[0, 1, 2, 3, 4, 5, 6, 7, 8, 9]] (by kernel_rfl) (by kernel_rfl) (NoPanic.block (NoPanic.seq (NoPanic.seq (NoPanic.block (NoPanic.seq (NoPanic.block (NoPanic.seq (NoPanic.seq (NoPanic.block (NoPanic.seq (NoPanic.body))))))))))) ?_
         have hS1082 := hS1063.drew
         revert hS1082
         generalize World.drew w1062 = w1081
         intro hS1082
         refine ⟨⟨rowR.cell (rowO.rd (hS1082.own 1).1) z_Tile h1084.1 h1084.2 0 rfl, rowR.cell (rowO.rd (hS1082.own 1).1) z_Tile h1084.1 h1084.2 1 rfl, rowR.cell (rowO.rd (hS1082.own 1).1) z_Tile h1084.1 h1084.2 2 rfl, rowR.cell (rowO.rd (hS1082.own 1).1) z_Tile h1084.1 h1084.2 3 rfl, hS1082.cell 2 rfl 0 rfl, hS1082.cell 2 rfl 1 rfl, hS1082.cell 2 rfl 2 rfl, hS1082.cell 2 rfl 3 rfl, trivial⟩, forallC ?_ (forallN)⟩
         refine seg 2 [] [1, 2, 5, 6, 7, 9, 39] [(1, (iv p1)), (2, (pt g9)), (5, (.slice A646 l648.length c647)), (6, (iv x649)), (7, (pt g972)), (9, (iv x1057)), (39, (.bool b1056))] [] (fun fb => by kernel_rfl) rfl trivial ?_
         refine WL.setB 39 h1077 rfl ?_
         refine segF 10 [.v (iv ((rdD l648 x1057 z_Tile).N)), .v (iv ((rdD l648 x1057 z_Tile).E)), .v (iv ((rdD l648 x1057 z_Tile).S)), .v (iv ((rdD l648 x1057 z_Tile).W)), .v (iv t1002), .v (iv t1007), .v (iv t1012), .v (iv t1017)] [1, 2, 5, 6, 7, 8, 9] [(1, (iv p1)), (2, (pt g9)), (5, (.slice A646 l648.length c647)), (6, (iv x649)), (7, (pt g972)), (8, (.bool (((rdD l648 x1057 z_Tile).N) == t1002 && (((rdD l648 x1057 z_Tile).E) == t1007 && (((rdD l648 x1057 z_Tile).S) == t1012 && (((rdD l648 x1057 z_Tile).W) == t1017)))))), (9, (iv x1057))] [.idx A646 x1057 l648.length] [0, 1, 2, 3, 4, 5, 6, 7] [(5, ((adr A646).add ((x1057).toNat * 4)), (iv ((rdD l648 x1057 z_Tile).N))), (5, (((adr A646).add ((x1057).toNat * 4)).add 1), (iv ((rdD l648 x1057 z_Tile).E))), (5, (((adr A646).add ((x1057).toNat * 4)).add 2), (iv ((rdD l648 x1057 z_Tile).S))), (5, (((adr A646).add ((x1057).toNat * 4)).add 3), (iv ((rdD l648 x1057 z_Tile).W))), (6, ⟨g972, 0, none⟩, (iv t1002)), (6, ⟨g972, 1, none⟩, (iv t1007)), (6, ⟨g972, 2, none⟩, (iv t1012)), (6, ⟨g972, 3, none⟩, (iv t1017))] (fun fb => by kernel_rfl) rfl ⟨rowR.adr (rowO.rd (hS1082.own 1).1) h1084.1 h1084.2, trivial⟩ rfl ?_
         refine WL.done rfl ?_
         injection hx1076 with hx1076
         exact WX.to Kx1075 (((rdD l648 x1057 z_Tile).N) == t1002 && (((rdD l648 x1057 z_Tile).E) == t1007 && (((rdD l648 x1057 z_Tile).S) == t1012 && (((rdD l648 x1057 z_Tile).W) == t1017)))) [1, 2, 5, 6, 7, 8, 9] rfl ⟨(hS1082.subR []).sub [0, 1, 2] (by decide), hx1076.symm⟩
        rintro y1088 w1085 ⟨hS1086, hq1087⟩
        subst hq1087
        refine WX.blockN (WX.next ?_)
        refine WC.region ?_
        refine seg 3 [] [1, 2, 5, 6, 7, 8, 9] [(1, (iv p1)), (2, (pt g9)), (5, (.slice A646 l648.length c647)), (6, (iv x649)), (7, (pt g972)), (8, (.bool x1075)), (9, (iv (w64 (x1057 + 1))))] [] (fun fb => by kernel_rfl) rfl trivial ?_
        refine WL.done rfl ?_
        exact WX.again k1061 (Nat.lt_succ_self _) (x1075, w64 (x1057 + 1)) [1, 2, 5, 6, 7, 8, 9] rfl ⟨(hS1086.subR []).sub [0, 1, 2] (by decide), hl1064⟩
       refine WC.condF2 (fun fb => by kernel_rfl) h1065 ?_
       refine WC.exit ?_
       injection hl1064 with hl1064
       exact WX.thenX (WX.thenX (WX.blockHere (WX.to Kx1059 b1056 [1, 2, 5, 6, 7, 8] rfl ⟨(hS1063.subR []).sub [0, 1, 2] (by decide), hl1064.symm⟩)))
     rintro y1092 w1089 ⟨hS1090, hq1091⟩
     subst hq1091
     refine WX.next ?_
     refine WC.seq ?_
     refine WC.region ?_
     refine seg 2 [] [1, 2, 5, 6, 7, 48] [(1, (iv p1)), (2, (pt g9)), (5, (.slice A646 l648.length c647)), (6, (iv x649)), (7, (pt g972)), (48, (.bool (!x1059)))] [] (fun fb => by kernel_rfl) rfl trivial ?_
     refine WL.done rfl ?_
     refine WX.next ?_
     obtain ⟨x1107, hx1108, hl658⟩ := bind_some hl658
     refine WC.cutN (T := (List Tile) × (Option Addr) × Nat) (fun t => [(1, (iv p1)), (2, (pt g9)), (5, (.slice t.2.1 t.1.length t.2.2)), (6, (iv x649))]) (fun t w1 => St NoS w w1 [] [blk g9 (.cells #[(iv p0.e0.N), (iv p0.e0.E), (iv p0.e0.S), (iv p0.e0.W), (iv p0.e1.N), (iv p0.e1.E), (iv p0.e1.S), (iv p0.e1.W), (iv p0.e2.N), (iv p0.e2.E), (iv p0.e2.S), (iv p0.e2.W)] 59 (0, 0)), rowO 24 enc_Tile t.2.1 t.2.2 t.1] ∧ x1107 = t.1) (fun Kx1107 => ?_) ?_
     ·
      rcases br_some hx1108 with ⟨h1109, hx1108⟩ | ⟨h1109, hx1108⟩
      ·refine WC.condT2 (fun fb => by kernel_rfl) h1109 ?_
       refine WC.region ?_
       refine seg 2 [.v (iv t1002), .v (iv t1007), .v (iv t1012), .v (iv t1017)] [1, 2, 6, 49, 50] [(1, (iv p1)), (2, (pt g9)), (6, (iv x649)), (49, (.slice A646 l648.length c647)), (50, (.agg #[(iv t1002), (iv t1007), (iv t1012), (iv t1017)]))] [.cell ⟨g972, 0, none⟩ (iv t1002), .cell ⟨g972, 1, none⟩ (iv t1007), .cell ⟨g972, 2, none⟩ (iv t1012), .cell ⟨g972, 3, none⟩ (iv t1017)] (fun fb => by kernel_rfl) rfl ⟨hS1090.cell 2 rfl 0 rfl, hS1090.cell 2 rfl 1 rfl, hS1090.cell 2 rfl 2 rfl, hS1090.cell 2 rfl 3 rfl, trivial⟩ ?_
       refine WL.new hS1090 51 [] (fun g => (.slice (some ⟨g, 0, none⟩) 1 1)) (.cells #[(iv t1002), (iv t1007), (iv t1012), (iv t1017)] 24 (0, 0)) [] (fun fb g => by kernel_rfl) trivial (fun g1110 w1111 hS1112 => ?_)
       refine ⟨trivial, ?_⟩
       have hS1114 : St NoS w w1111 [] [rowO 24 enc_Tile (some ⟨g1110, 0, none⟩) 1 [(Tile.mk t1002 t1007 t1012 t1017)], blk g9 (.cells #[(iv p0.e0.N), (iv p0.e0.E), (iv p0.e0.S), (iv p0.e0.W), (iv p0.e1.N), (iv p0.e1.E), (iv p0.e1.S), (iv p0.e1.W), (iv p0.e2.N), (iv p0.e2.E), (iv p0.e2.S), (iv p0.e2.W)] 59 (0, 0)), rowO 24 enc_Tile A646 c647 l648, blk g972 (.cells #[(iv t1002), (iv t1007), (iv t1012), (iv t1017)] 24 (0, 0))] := hS1112.map1 0 _ (fun h => rowO.ofBlk h rfl (Nat.le_of_ble_eq_true (by kernel_rfl))) (fun _ h => by obtain ⟨_, h1, h2⟩ := h; injection h1 with h1; subst h1; exact h2) [1, 2, 3] (by decide) (by decide)
       obtain ⟨h1115, hx1108⟩ := as_some hx1108
       refine WL.append hS1114 2 (d := 52) (tS := 22) (z := (.agg #[(iv 0), (iv 0), (iv 0), (iv 0)])) (bytes := 32) (c2 := 1) rfl (fun fb => by kernel_rfl) (rowO.rd (hS1114.own 0).1) (by kernel_rfl) (by kernel_rfl) rfl (by decide) h1115 (by decide) [0, 1, 3] (by decide) (by decide) (fun A1116 c1117 w1118 hS1119 => ?_)
       refine ⟨trivial, ?_⟩
       refine seg 5 [] [1, 2, 5, 6] [(1, (iv p1)), (2, (pt g9)), (5, (.slice A1116 (l648 ++ [(Tile.mk t1002 t1007 t1012 t1017)]).length c1117)), (6, (iv x649))] [] (fun fb => by kernel_rfl) rfl trivial ?_
       refine WL.done rfl ?_
       injection hx1108 with hx1108
       exact WX.to Kx1107 (l648 ++ [(Tile.mk t1002 t1007 t1012 t1017)], A1116, c1117) [1, 2, 5, 6] rfl ⟨(hS1119.subR []).sub [2, 0] (by decide), hx1108.symm⟩
      refine WC.condF2 (fun fb => by kernel_rfl) h1109 ?_
      refine WC.skip ?_
      injection hx1108 with hx1108
      exact WX.to Kx1107 (l648, A646, c647) [1, 2, 5, 6] rfl ⟨(hS1090.subR []).sub [0, 1] (by decide), hx1108.symm⟩
     rintro ⟨y1123, A1104, c1105⟩ w1120 ⟨hS1121, hq1122⟩
     subst hq1122
     refine WX.blockN (WX.next ?_)
     refine WC.region ?_
     refine seg 3 [] [1, 2, 5, 6] [(1, (iv p1)), (2, (pt g9)), (5, (.slice A1104 x1107.length c1105)), (6, (iv (w64 (x649 + 1))))] [] (fun fb => by kernel_rfl) rfl trivial ?_
     refine WL.done rfl ?_
     exact WX.again k655 (Nat.lt_succ_self _) ((x1107, w64 (x649 + 1)), A1104, c1105) [1, 2, 5, 6] rfl ⟨(hS1121.subR []).sub [0, 1] (by decide), hl658⟩
    cases hl658
   refine WC.condF2 (fun fb => by kernel_rfl) h664 ?_
   refine WC.exit ?_
   injection hl658 with hl658
   exact WX.thenX (WX.thenX (WX.blockHere (WX.to Kx653 (l648, A646, c647) [5] rfl ⟨(hS663.subR []).sub [1] (by decide), hl658.symm⟩)))
 rintro ⟨y1127, A650, c651⟩ w1124 ⟨hS1125, hq1126⟩
 subst hq1126
 refine WX.next ?_
 refine WC.seq ?_
 refine WC.region ?_
 refine seg 2 [] [4] [(4, (.slice A650 x653.length c651))] [] (fun fb => by kernel_rfl) rfl trivial ?_
 refine WL.done rfl ?_
 refine WX.next ?_
 refine WC.ret ?_
 injection hf with hf
 subst hf
 exact WX.ret_ [] (.slice A650 x653.length c651) [] (fun fb => by kernel_rfl) trivial ⟨_, rfl, A650, c651, rfl, (hS1125.sub [0] (by decide)).noR⟩
theorem tile_colour_1_calls (p0 : Int)  (r : Bool) (w : World)  (hf : tile_colour_1 p0 = some r) :
  CallsR Try.prog 80 #[(iv p0)] w (fun v w' => v = (.bool r) ∧ Keeps NoS w w') := by
 have hS : St NoS w w [] [] := St.init (ro_nil _ _)
 refine enter 9 Try.func80 rfl Try.ntmps80 rfl ?_
 unfold tile_colour_1 at hf
 refine WC.seq ?_
 refine WC.region ?_
 refine seg 1 [] [0] [(0, (iv p0))] [] (fun fb => by kernel_rfl) rfl trivial ?_
 refine WL.done rfl ?_
 refine WX.next ?_
 refine WC.seq ?_
 refine WC.region ?_
 refine seg 3 [] [0, 5] [(0, (iv p0)), (5, (.bool (decide (p0 < 0))))] [] (fun fb => by kernel_rfl) rfl trivial ?_
 refine WL.cutV (T := Bool) 6 (fun t => [(8, (.bool t))]) (fun t => ((decide (p0 < 0)) || (decide (p0 ≥ 1000))) = t) (fun K => ?_) ?_
 ·
  rcases Bool.eq_false_or_eq_true (decide (p0 < 0)) with h1162 | h1162
  ·
   refine WL.setB 5 h1162 rfl ?_
   refine seg 6 [] [8] [(8, (.bool true))] [] (fun fb => by kernel_rfl) rfl trivial ?_
   exact WL.toV K true [8] rfl (by first | (rw [h1162]; done) | (rw [h1162]; rfl))
  refine WL.setB 5 h1162 rfl ?_
  refine seg 6 [] [8] [(8, (.bool (decide (p0 ≥ 1000))))] [] (fun fb => by kernel_rfl) rfl trivial ?_
  exact WL.toV K (decide (p0 ≥ 1000)) [8] rfl (by first | (rw [h1162]; done) | (rw [h1162]; rfl))
 rintro b1163 rfl
 refine seg 7 [] [2] [(2, (.bool ((decide (p0 < 0)) || (decide (p0 ≥ 1000)))))] [] (fun fb => by kernel_rfl) rfl trivial ?_
 refine WL.done rfl ?_
 refine WX.next ?_
 refine WC.ret ?_
 injection hf with hf
 subst hf
 exact WX.ret_ [] (.bool ((decide (p0 < 0)) || (decide (p0 ≥ 1000)))) [] (fun fb => by kernel_rfl) trivial ⟨_, rfl, rfl, hS.keep⟩
theorem slices_IndexFunc_int_int_with_tile_colour_1_calls (k : Nat) (p0 : List Int) (A_p0 : Option Addr) (c_p0 : Nat) (r : Int) (w : World) (hR0 : RO NoS w (rowR encInt A_p0 c_p0 p0)) (hf : slices_IndexFunc_int_int_with_tile_colour_1 k p0 = some r) :
  CallsR Try.prog 81 #[(.slice A_p0 p0.length c_p0), (.func (.func 80) #[] #[])] w (fun v w' => v = (iv r) ∧ Keeps NoS w w') := by
 have hS : St NoS w w [rowR encInt A_p0 c_p0 p0] [] := St.init (ro_cons hR0 (ro_nil _ _))
 refine enter 19 Try.func81 rfl Try.ntmps81 rfl ?_
 unfold slices_IndexFunc_int_int_with_tile_colour_1 at hf
 refine WC.seq ?_
 refine WC.region ?_
 refine seg 1 [] [0, 1] [(0, (.slice A_p0 p0.length c_p0)), (1, (.func (.func 80) #[] #[]))] [] (fun fb => by kernel_rfl) rfl trivial ?_
 refine WL.done rfl ?_
 refine WX.next ?_
 refine WC.seq ?_
 refine WC.seq ?_
 refine WC.region ?_
 refine seg 3 [] [0, 1, 7, 8] [(0, (.slice A_p0 p0.length c_p0)), (1, (.func (.func 80) #[] #[])), (7, (iv (p0.length : Int))), (8, (iv 0))] [] (fun fb => by kernel_rfl) rfl trivial ?_
 refine WL.done rfl ?_
 refine WX.next ?_
 obtain ⟨x1180, hx1181, hf⟩ := bind_some hf
 refine WC.cutN (T := Unit) (fun t => []) (fun t w1 => St NoS w w1 [rowR encInt A_p0 c_p0 p0] [] ∧ x1180 = .inr t) (fun Kx1180 => ?_) ?_
 ·
  refine WC.block ?_
  refine WC.loop (T := Int) (fun t => [(0, (.slice A_p0 p0.length c_p0)), (1, (.func (.func 80) #[] #[])), (7, (iv (p0.length : Int))), (8, (iv t))]) (fun n t w1 => St NoS w w1 [rowR encInt A_p0 c_p0 p0] [] ∧ slices_IndexFunc_int_int_with_tile_colour_1.l0 n t p0 = some x1180) k 0 [0, 1, 7, 8] rfl ⟨(hS.subR [0]).sub [] (by decide), hx1181⟩ ?_
  rintro k1182 x1179 w1183 ⟨hS1184, hl1185⟩
  cases k1182 with
  | zero => rw [slices_IndexFunc_int_int_with_tile_colour_1.l0] at hl1185; cases hl1185
  | succ k1182 =>
   rw [slices_IndexFunc_int_int_with_tile_colour_1.l0] at hl1185
   refine WC.seq ?_
   refine WC.region ?_
   refine seg 1 [] [0, 1, 7, 8, 9] [(0, (.slice A_p0 p0.length c_p0)), (1, (.func (.func 80) #[] #[])), (7, (iv (p0.length : Int))), (8, (iv x1179)), (9, (.bool (decide (x1179 < (p0.length : Int)))))] [] (fun fb => by kernel_rfl) rfl trivial ?_
   refine WL.done rfl ?_
   refine WX.next ?_
   refine WC.seq ?_
   rcases br_some hl1185 with ⟨h1186, hl1185⟩ | ⟨h1186, hl1185⟩
   ·refine WC.condT2 (fun fb => by kernel_rfl) h1186 ?_
    refine WC.skip ?_
    refine WX.next ?_
    refine WC.seq ?_
    refine WC.block ?_
    refine WC.seq ?_
    refine WC.region ?_
    refine seg 2 [] [0, 1, 5, 7, 8] [(0, (.slice A_p0 p0.length c_p0)), (1, (.func (.func 80) #[] #[])), (5, (iv x1179)), (7, (iv (p0.length : Int))), (8, (iv x1179))] [] (fun fb => by kernel_rfl) rfl trivial ?_
    refine WL.done rfl ?_
    refine WX.next ?_
    refine WC.seq ?_
    refine WC.region ?_
    refine seg 3 [] [0, 1, 5, 7, 8, 11, 12, 13] [(0, (.slice A_p0 p0.length c_p0)), (1, (.func (.func 80) #[] #[])), (5, (iv x1179)), (7, (iv (p0.length : Int))), (8, (iv x1179)), (11, (.func (.func 80) #[] #[])), (12, (.slice A_p0 p0.length c_p0)), (13, (iv x1179))] [] (fun fb => by kernel_rfl) rfl trivial ?_
    obtain ⟨h1187, hl1185⟩ := as_some hl1185
    refine seg 5 [.v (iv (rdD p0 x1179 0))] [0, 1, 5, 7, 8, 11, 15] [(0, (.slice A_p0 p0.length c_p0)), (1, (.func (.func 80) #[] #[])), (5, (iv x1179)), (7, (iv (p0.length : Int))), (8, (iv x1179)), (11, (.func (.func 80) #[] #[])), (15, (iv (rdD p0 x1179 0)))] [.idx A_p0 x1179 p0.length, .cell ((adr A_p0).add ((x1179).toNat * 1)) (iv (rdD p0 x1179 0))] (fun fb => by kernel_rfl) rfl ⟨rowR.adr (hS1184.rd 0).1 h1187.1 h1187.2, rowR.cell (hS1184.rd 0).1 0 h1187.1 h1187.2 0 rfl, trivial⟩ ?_
    obtain ⟨t1188, ht1189, hl1185⟩ := bind_some hl1185
    refine WL.call (some 16) 80 #[(iv (rdD p0 x1179 0))] (fun fb => by kernel_rfl) (tile_colour_1_calls (rdD p0 x1179 0) t1188 _ ht1189) (fun v w1190 hR1191 => ?_)
    obtain ⟨rfl, hk_⟩ := hR1191
    have hS1192 := hS1184.keepN hk_
    refine ⟨trivial, ?_⟩
    refine WL.done rfl ?_
    refine WX.next ?_
    rcases br_some hl1185 with ⟨h1193, hl1185⟩ | ⟨h1193, hl1185⟩
    ·refine WC.condT2 (fun fb => by kernel_rfl) h1193 ?_
     refine WC.seq ?_
     refine WC.region ?_
     refine seg 2 [] [4] [(4, (iv x1179))] [] (fun fb => by kernel_rfl) rfl trivial ?_
     refine WL.done rfl ?_
     refine WX.next ?_
     refine WC.ret ?_
     injection hl1185 with hl1185
     subst hl1185
     injection hf with hf
     subst hf
     exact WX.blockR (WX.thenR (WX.thenR (WX.blockR (WX.thenR (WX.ret_ [] (iv x1179) [] (fun fb => by kernel_rfl) trivial ⟨_, rfl, rfl, hS1192.keep⟩)))))
    refine WC.condF2 (fun fb => by kernel_rfl) h1193 ?_
    refine WC.skip ?_
    refine WX.blockN (WX.next ?_)
    refine WC.region ?_
    refine seg 2 [] [0, 1, 7, 8] [(0, (.slice A_p0 p0.length c_p0)), (1, (.func (.func 80) #[] #[])), (7, (iv (p0.length : Int))), (8, (iv (w64 (x1179 + 1))))] [] (fun fb => by kernel_rfl) rfl trivial ?_
    refine WL.done rfl ?_
    exact WX.again k1182 (Nat.lt_succ_self _) (w64 (x1179 + 1)) [0, 1, 7, 8] rfl ⟨(hS1192.subR [0]).sub [] (by decide), hl1185⟩
   refine WC.condF2 (fun fb => by kernel_rfl) h1186 ?_
   refine WC.exit ?_
   injection hl1185 with hl1185
   exact WX.thenX (WX.thenX (WX.blockHere (WX.to Kx1180 () [] rfl ⟨(hS1184.subR [0]).sub [] (by decide), hl1185.symm⟩)))
 rintro y1197 w1194 ⟨hS1195, hq1196⟩
 subst hq1196
 have hf := sum_inr hf
 refine WX.next ?_
 refine WC.seq ?_
 refine WC.region ?_
 refine seg 1 [] [4] [(4, (iv (-1)))] [] (fun fb => by kernel_rfl) rfl trivial ?_
 refine WL.done rfl ?_
 refine WX.next ?_
 refine WC.ret ?_
 injection hf with hf
 subst hf
 exact WX.ret_ [] (iv (-1)) [] (fun fb => by kernel_rfl) trivial ⟨_, rfl, rfl, hS1195.keep⟩
theorem slices_ContainsFunc_int_int_with_tile_colour_1_calls (k : Nat) (p0 : List Int) (A_p0 : Option Addr) (c_p0 : Nat) (r : Bool) (w : World) (hR0 : RO NoS w (rowR encInt A_p0 c_p0 p0)) (hf : slices_ContainsFunc_int_int_with_tile_colour_1 k p0 = some r) :
  CallsR Try.prog 65 #[(.slice A_p0 p0.length c_p0), (.func (.func 80) #[] #[])] w (fun v w' => v = (.bool r) ∧ Keeps NoS w w') := by
 have hS : St NoS w w [rowR encInt A_p0 c_p0 p0] [] := St.init (ro_cons hR0 (ro_nil _ _))
 refine enter 9 Try.func65 rfl Try.ntmps65 rfl ?_
 unfold slices_ContainsFunc_int_int_with_tile_colour_1 at hf
 refine WC.seq ?_
 refine WC.region ?_
 refine seg 1 [] [0, 1] [(0, (.slice A_p0 p0.length c_p0)), (1, (.func (.func 80) #[] #[]))] [] (fun fb => by kernel_rfl) rfl trivial ?_
 refine WL.done rfl ?_
 refine WX.next ?_
 refine WC.seq ?_
 refine WC.region ?_
 refine seg 2 [] [5, 6] [(5, (.slice A_p0 p0.length c_p0)), (6, (.func (.func 80) #[] #[]))] [] (fun fb => by kernel_rfl) rfl trivial ?_
 obtain ⟨t1199, ht1200, hf⟩ := bind_some hf
 refine WL.call (some 7) 81 #[(.slice A_p0 p0.length c_p0), (.func (.func 80) #[] #[])] (fun fb => by kernel_rfl) (slices_IndexFunc_int_int_with_tile_colour_1_calls _ p0 A_p0 c_p0 t1199 _ (hS.rd 0) ht1200) (fun v w1201 hR1202 => ?_)
 obtain ⟨rfl, hk_⟩ := hR1202
 have hS1203 := hS.keepN hk_
 refine ⟨trivial, ?_⟩
 refine seg 5 [] [4] [(4, (.bool (decide (t1199 ≥ 0))))] [] (fun fb => by kernel_rfl) rfl trivial ?_
 refine WL.done rfl ?_
 refine WX.next ?_
 refine WC.ret ?_
 injection hf with hf
 subst hf
 exact WX.ret_ [] (.bool (decide (t1199 ≥ 0))) [] (fun fb => by kernel_rfl) trivial ⟨_, rfl, rfl, hS1203.keep⟩
theorem tile_colour_calls (k : Nat) (p0 : List Int) (A_p0 : Option Addr) (c_p0 : Nat) (r : Bool) (w : World) (hR0 : RO NoS w (rowR encInt A_p0 c_p0 p0)) (hf : tile_colour k p0 = some r) :
  CallsR Try.prog 59 #[(.slice A_p0 p0.length c_p0)] w (fun v w' => v = (.bool r) ∧ Keeps NoS w w') := by
 have hS : St NoS w w [rowR encInt A_p0 c_p0 p0] [] := St.init (ro_cons hR0 (ro_nil _ _))
 refine enter 6 Try.func59 rfl Try.ntmps59 rfl ?_
 unfold tile_colour at hf
 refine WC.seq ?_
 refine WC.region ?_
 refine seg 1 [] [0] [(0, (.slice A_p0 p0.length c_p0))] [] (fun fb => by kernel_rfl) rfl trivial ?_
 refine WL.done rfl ?_
 refine WX.next ?_
 refine WC.seq ?_
 refine WC.region ?_
 refine seg 1 [] [3] [(3, (.slice A_p0 p0.length c_p0))] [] (fun fb => by kernel_rfl) rfl trivial ?_
 obtain ⟨t1204, ht1205, hf⟩ := bind_some hf
 refine WL.call (some 4) 65 #[(.slice A_p0 p0.length c_p0), (.func (.func 80) #[] #[])] (fun fb => by kernel_rfl) (slices_ContainsFunc_int_int_with_tile_colour_1_calls _ p0 A_p0 c_p0 t1204 _ (hS.rd 0) ht1205) (fun v w1206 hR1207 => ?_)
 obtain ⟨rfl, hk_⟩ := hR1207
 have hS1208 := hS.keepN hk_
 refine ⟨trivial, ?_⟩
 refine seg 4 [] [2] [(2, (.bool (!t1204)))] [] (fun fb => by kernel_rfl) rfl trivial ?_
 refine WL.done rfl ?_
 refine WX.next ?_
 refine WC.ret ?_
 injection hf with hf
 subst hf
 exact WX.ret_ [] (.bool (!t1204)) [] (fun fb => by kernel_rfl) trivial ⟨_, rfl, rfl, hS1208.keep⟩
theorem tile_Valid_key24 : KeyK Try.prog 24 (aggI ints_Tile) := KeyK.struct (n := 4) (by kernel_rfl) ints_Tile (fun _ => rfl) (fun x y h => by cases x; cases y; simp only [ints_Tile, List.cons.injEq, and_true] at h; obtain ⟨rfl, rfl, rfl, rfl⟩ := h; rfl)
theorem tile_Valid_calls (k : Nat) (p0 : List Tile) (A_p0 : Option Addr) (c_p0 : Nat) (r : Bool) (w : World) (hR0 : RO NoS w (rowR enc_Tile A_p0 c_p0 p0)) (hf : tile_Valid k p0 = some r) :
  CallsR Try.prog 38 #[(.slice A_p0 p0.length c_p0)] w (fun v w' => v = (.bool r) ∧ Keeps NoS w w') := by
 have hS : St NoS w w [rowR enc_Tile A_p0 c_p0 p0] [] := St.init (ro_cons hR0 (ro_nil _ _))
 refine enter 35 Try.func38 rfl Try.ntmps38 rfl ?_
 unfold tile_Valid at hf
 refine WC.seq ?_
 refine WC.region ?_
 refine seg 1 [] [0] [(0, (.slice A_p0 p0.length c_p0))] [] (fun fb => by kernel_rfl) rfl trivial ?_
 refine WL.done rfl ?_
 refine WX.next ?_
 refine WC.seq ?_
 refine WC.seq ?_
 refine WC.region ?_
 refine seg 3 [] [0, 8] [(0, (.slice A_p0 p0.length c_p0)), (8, (.bool (decide ((p0.length : Int) > 1000))))] [] (fun fb => by kernel_rfl) rfl trivial ?_
 refine WL.done rfl ?_
 refine WX.next ?_
 rcases br_some hf with ⟨h1143, hf⟩ | ⟨h1143, hf⟩
 ·refine WC.condT2 (fun fb => by kernel_rfl) h1143 ?_
  refine WC.seq ?_
  refine WC.region ?_
  refine seg 1 [] [2] [(2, (.bool false))] [] (fun fb => by kernel_rfl) rfl trivial ?_
  refine WL.done rfl ?_
  refine WX.next ?_
  refine WC.ret ?_
  injection hf with hf
  subst hf
  exact WX.thenR (WX.ret_ [] (.bool false) [] (fun fb => by kernel_rfl) trivial ⟨_, rfl, rfl, hS.keep⟩)
 refine WC.condF2 (fun fb => by kernel_rfl) h1143 ?_
 refine WC.skip ?_
 refine WX.next ?_
 refine WC.seq ?_
 refine WC.region ?_
 refine WL.new hS 9 [] (fun g => (.map (some g))) (mapObj (aggI ints_Tile) vB ([] : List (Tile × Bool))) [] (fun fb g => by kernel_rfl) trivial (fun g1144 w1145 hS1146 => ?_)
 refine ⟨trivial, ?_⟩
 refine seg 2 [] [0, 3] [(0, (.slice A_p0 p0.length c_p0)), (3, (.map (some g1144)))] [] (fun fb => by kernel_rfl) rfl trivial ?_
 refine WL.done rfl ?_
 refine WX.next ?_
 refine WC.seq ?_
 refine WC.seq ?_
 refine WC.region ?_
 refine seg 3 [] [3, 10, 11, 12] [(3, (.map (some g1144))), (10, (.slice A_p0 p0.length c_p0)), (11, (iv (p0.length : Int))), (12, (iv 0))] [] (fun fb => by kernel_rfl) rfl trivial ?_
 refine WL.done rfl ?_
 refine WX.next ?_
 obtain ⟨x1280, hx1281, hf⟩ := bind_some hf
 refine WC.cutN (T := Unit) (fun t => []) (fun t w1 => St NoS w w1 [rowR enc_Tile A_p0 c_p0 p0] [] ∧ x1280 = .inr t) (fun Kx1280 => ?_) ?_
 ·
  refine WC.block ?_
  refine WC.loop (T := (List (Tile × Bool)) × Int) (fun t => [(3, (.map (some g1144))), (10, (.slice A_p0 p0.length c_p0)), (11, (iv (p0.length : Int))), (12, (iv t.2))]) (fun n t w1 => St NoS w w1 [rowR enc_Tile A_p0 c_p0 p0] [blk g1144 (mapObj (aggI ints_Tile) vB t.1)] ∧ tile_Valid.l0 n t.1 t.2 p0 = some x1280) k (([] : List (Tile × Bool)), 0) [3, 10, 11, 12] rfl ⟨(hS1146.subR [0]).sub [0] (by decide), hx1281⟩ ?_
  rintro k1282 ⟨l1278, x1279⟩ w1283 ⟨hS1284, hl1285⟩
  cases k1282 with
  | zero => rw [tile_Valid.l0] at hl1285; cases hl1285
  | succ k1282 =>
   rw [tile_Valid.l0] at hl1285
   refine WC.seq ?_
   refine WC.region ?_
   refine seg 1 [] [3, 10, 11, 12, 13] [(3, (.map (some g1144))), (10, (.slice A_p0 p0.length c_p0)), (11, (iv (p0.length : Int))), (12, (iv x1279)), (13, (.bool (decide (x1279 < (p0.length : Int)))))] [] (fun fb => by kernel_rfl) rfl trivial ?_
   refine WL.done rfl ?_
   refine WX.next ?_
   refine WC.seq ?_
   rcases br_some hl1285 with ⟨h1286, hl1285⟩ | ⟨h1286, hl1285⟩
   ·refine WC.condT2 (fun fb => by kernel_rfl) h1286 ?_
    refine WC.skip ?_
    refine WX.next ?_
    refine WC.seq ?_
    refine WC.block ?_
    refine WC.seq ?_
    refine WC.region ?_
    obtain ⟨h1287, hl1285⟩ := as_some hl1285
    refine seg 2 [.v (iv ((rdD p0 x1279 z_Tile).N)), .v (iv ((rdD p0 x1279 z_Tile).E)), .v (iv ((rdD p0 x1279 z_Tile).S)), .v (iv ((rdD p0 x1279 z_Tile).W))] [3, 10, 11, 12, 15] [(3, (.map (some g1144))), (10, (.slice A_p0 p0.length c_p0)), (11, (iv (p0.length : Int))), (12, (iv x1279)), (15, (.agg #[(iv ((rdD p0 x1279 z_Tile).N)), (iv ((rdD p0 x1279 z_Tile).E)), (iv ((rdD p0 x1279 z_Tile).S)), (iv ((rdD p0 x1279 z_Tile).W))]))] [.idx A_p0 x1279 p0.length, .cell ((adr A_p0).add ((x1279).toNat * 4)) (iv ((rdD p0 x1279 z_Tile).N)), .cell (((adr A_p0).add ((x1279).toNat * 4)).add 1) (iv ((rdD p0 x1279 z_Tile).E)), .cell (((adr A_p0).add ((x1279).toNat * 4)).add 2) (iv ((rdD p0 x1279 z_Tile).S)), .cell (((adr A_p0).add ((x1279).toNat * 4)).add 3) (iv ((rdD p0 x1279 z_Tile).W))] (fun fb => by kernel_rfl) rfl ⟨rowR.adr (hS1284.rd 0).1 h1287.1 h1287.2, rowR.cell (hS1284.rd 0).1 z_Tile h1287.1 h1287.2 0 rfl, rowR.cell (hS1284.rd 0).1 z_Tile h1287.1 h1287.2 1 rfl, rowR.cell (hS1284.rd 0).1 z_Tile h1287.1 h1287.2 2 rfl, rowR.cell (hS1284.rd 0).1 z_Tile h1287.1 h1287.2 3 rfl, trivial⟩ ?_
    refine WL.new hS1284 5 [] (fun g => (.pointer (some ⟨g, 0, none⟩))) (.cells #[(iv 0), (iv 0), (iv 0), (iv 0)] 24 (0, 0)) [] (fun fb g => by kernel_rfl) trivial (fun g1288 w1289 hS1290 => ?_)
    refine ⟨trivial, ?_⟩
    refine WL.store hS1290 0 rfl [(0, (iv ((rdD p0 x1279 z_Tile).N))), (1, (iv ((rdD p0 x1279 z_Tile).E))), (2, (iv ((rdD p0 x1279 z_Tile).S))), (3, (iv ((rdD p0 x1279 z_Tile).W)))] #[(iv ((rdD p0 x1279 z_Tile).N)), (iv ((rdD p0 x1279 z_Tile).E)), (iv ((rdD p0 x1279 z_Tile).S)), (iv ((rdD p0 x1279 z_Tile).W))] (fun fb => by kernel_rfl) (by kernel_rfl) rfl [1] (by decide) (by decide) (fun w1292 hS1293 => ?_)
    refine ⟨trivial, ?_⟩
    refine WL.done rfl ?_
    refine WX.next ?_
    refine WC.seq ?_
    refine WC.seq ?_
    refine WC.region ?_
    refine seg 2 [.v (iv ((rdD p0 x1279 z_Tile).N)), .v (iv ((rdD p0 x1279 z_Tile).E)), .v (iv ((rdD p0 x1279 z_Tile).S)), .v (iv ((rdD p0 x1279 z_Tile).W))] [3, 5, 10, 11, 12, 16, 17] [(3, (.map (some g1144))), (5, (pt g1288)), (10, (.slice A_p0 p0.length c_p0)), (11, (iv (p0.length : Int))), (12, (iv x1279)), (16, (.map (some g1144))), (17, (.agg #[(iv ((rdD p0 x1279 z_Tile).N)), (iv ((rdD p0 x1279 z_Tile).E)), (iv ((rdD p0 x1279 z_Tile).S)), (iv ((rdD p0 x1279 z_Tile).W))]))] [.cell ⟨g1288, 0, none⟩ (iv ((rdD p0 x1279 z_Tile).N)), .cell ⟨g1288, 1, none⟩ (iv ((rdD p0 x1279 z_Tile).E)), .cell ⟨g1288, 2, none⟩ (iv ((rdD p0 x1279 z_Tile).S)), .cell ⟨g1288, 3, none⟩ (iv ((rdD p0 x1279 z_Tile).W))] (fun fb => by kernel_rfl) rfl ⟨hS1293.cell 0 rfl 0 rfl, hS1293.cell 0 rfl 1 rfl, hS1293.cell 0 rfl 2 rfl, hS1293.cell 0 rfl 3 rfl, trivial⟩ ?_
    refine WL.lookup (hS1293.own 1).1 (rdD p0 x1279 z_Tile) (d := 18) (c := false) (t := 100) (kT := 24) (eT := 4) (z := false) (kE := (aggI ints_Tile)) (vE := vB) (l := l1278) (.bool (mget (rdD p0 x1279 z_Tile) false l1278)) (fun fb => by kernel_rfl) tile_Valid_key24 (by kernel_rfl) (fun _ => by kernel_rfl) rfl ?_
    refine ⟨trivial, ?_⟩
    refine seg 4 [] [3, 5, 10, 11, 12, 19] [(3, (.map (some g1144))), (5, (pt g1288)), (10, (.slice A_p0 p0.length c_p0)), (11, (iv (p0.length : Int))), (12, (iv x1279)), (19, (.bool (mget (rdD p0 x1279 z_Tile) false l1278)))] [] (fun fb => by kernel_rfl) rfl trivial ?_
    obtain ⟨x1305, hx1306, hl1285⟩ := bind_some hl1285
    refine WL.cutW (T := Bool) 16 (fun t => [(3, (.map (some g1144))), (5, (pt g1288)), (10, (.slice A_p0 p0.length c_p0)), (11, (iv (p0.length : Int))), (12, (iv x1279)), (31, (.bool t))]) (fun t w1 => (St NoS w w1 [rowR enc_Tile A_p0 c_p0 p0] [blk g1144 (mapObj (aggI ints_Tile) vB l1278), blk g1288 (.cells #[(iv ((rdD p0 x1279 z_Tile).N)), (iv ((rdD p0 x1279 z_Tile).E)), (iv ((rdD p0 x1279 z_Tile).S)), (iv ((rdD p0 x1279 z_Tile).W))] 24 (0, 0))] ∧ x1305 = t) ∧ CellsOK [] w1) (fun K => ?_) ?_
    ·
     rcases br_some hx1306 with ⟨h1307, hx1306⟩ | ⟨h1307, hx1306⟩
     ·
      refine WL.setB 19 h1307 rfl ?_
      refine seg 16 [] [3, 5, 10, 11, 12, 31] [(3, (.map (some g1144))), (5, (pt g1288)), (10, (.slice A_p0 p0.length c_p0)), (11, (iv (p0.length : Int))), (12, (iv x1279)), (31, (.bool true))] [] (fun fb => by kernel_rfl) rfl trivial ?_
      injection hx1306 with hx1306
      exact WL.to K true [3, 5, 10, 11, 12, 31] rfl ⟨⟨(hS1293.subR [0]).sub [1, 0] (by decide), hx1306.symm⟩, trivial⟩
     refine WL.setB 19 h1307 rfl ?_
     refine seg 12 [.v (iv ((rdD p0 x1279 z_Tile).N)), .v (iv ((rdD p0 x1279 z_Tile).E)), .v (iv ((rdD p0 x1279 z_Tile).S)), .v (iv ((rdD p0 x1279 z_Tile).W))] [3, 5, 10, 11, 12, 19, 21, 23, 25, 27] [(3, (.map (some g1144))), (5, (pt g1288)), (10, (.slice A_p0 p0.length c_p0)), (11, (iv (p0.length : Int))), (12, (iv x1279)), (19, (.bool false)), (21, (iv ((rdD p0 x1279 z_Tile).N))), (23, (iv ((rdD p0 x1279 z_Tile).E))), (25, (iv ((rdD p0 x1279 z_Tile).S))), (27, (iv ((rdD p0 x1279 z_Tile).W)))] [.cell ⟨g1288, 0, none⟩ (iv ((rdD p0 x1279 z_Tile).N)), .cell ⟨g1288, 1, none⟩ (iv ((rdD p0 x1279 z_Tile).E)), .cell ⟨g1288, 2, none⟩ (iv ((rdD p0 x1279 z_Tile).S)), .cell ⟨g1288, 3, none⟩ (iv ((rdD p0 x1279 z_Tile).W))] (fun fb => by kernel_rfl) rfl ⟨hS1293.cell 0 rfl 0 rfl, hS1293.cell 0 rfl 1 rfl, hS1293.cell 0 rfl 2 rfl, hS1293.cell 0 rfl 3 rfl, trivial⟩ ?_
     refine WL.new hS1293 28 [] (fun g => (.slice (some ⟨g, 0, none⟩) 4 4)) (.cells #[(iv ((rdD p0 x1279 z_Tile).N)), (iv ((rdD p0 x1279 z_Tile).E)), (iv ((rdD p0 x1279 z_Tile).S)), (iv ((rdD p0 x1279 z_Tile).W))] 3 (0, 0)) [] (fun fb g => by kernel_rfl) trivial (fun g1308 w1309 hS1310 => ?_)
     refine ⟨trivial, ?_⟩
     have hS1312 : St NoS w w1309 [rowR enc_Tile A_p0 c_p0 p0] [rowO 3 encInt (some ⟨g1308, 0, none⟩) 4 [(rdD p0 x1279 z_Tile).N, (rdD p0 x1279 z_Tile).E, (rdD p0 x1279 z_Tile).S, (rdD p0 x1279 z_Tile).W], blk g1288 (.cells #[(iv ((rdD p0 x1279 z_Tile).N)), (iv ((rdD p0 x1279 z_Tile).E)), (iv ((rdD p0 x1279 z_Tile).S)), (iv ((rdD p0 x1279 z_Tile).W))] 24 (0, 0)), blk g1144 (mapObj (aggI ints_Tile) vB l1278)] := hS1310.map1 0 _ (fun h => rowO.ofBlk h rfl (Nat.le_of_ble_eq_true (by kernel_rfl))) (fun _ h => by obtain ⟨_, h1, h2⟩ := h; injection h1 with h1; subst h1; exact h2) [1, 2] (by decide) (by decide)
     obtain ⟨t1313, ht1314, hx1306⟩ := bind_some hx1306
     refine WL.call (some 29) 59 #[(.slice (some ⟨g1308, 0, none⟩) [(rdD p0 x1279 z_Tile).N, (rdD p0 x1279 z_Tile).E, (rdD p0 x1279 z_Tile).S, (rdD p0 x1279 z_Tile).W].length 4)] (fun fb => by kernel_rfl) (tile_colour_calls _ [(rdD p0 x1279 z_Tile).N, (rdD p0 x1279 z_Tile).E, (rdD p0 x1279 z_Tile).S, (rdD p0 x1279 z_Tile).W] (some ⟨g1308, 0, none⟩) 4 t1313 _ (hS1312.ow 0).ofO ht1314) (fun v w1315 hR1316 => ?_)
     obtain ⟨rfl, hk_⟩ := hR1316
     have hS1317 := hS1312.keepN hk_
     refine ⟨trivial, ?_⟩
     refine seg 16 [] [3, 5, 10, 11, 12, 31] [(3, (.map (some g1144))), (5, (pt g1288)), (10, (.slice A_p0 p0.length c_p0)), (11, (iv (p0.length : Int))), (12, (iv x1279)), (31, (.bool (!t1313)))] [] (fun fb => by kernel_rfl) rfl trivial ?_
     injection hx1306 with hx1306
     exact WL.to K (!t1313) [3, 5, 10, 11, 12, 31] rfl ⟨⟨(hS1317.subR [0]).sub [2, 1] (by decide), hx1306.symm⟩, trivial⟩
    rintro y1318 w1320 ⟨⟨hS1321, hq1319⟩, hF1322⟩
    subst hq1319
    refine WL.done rfl ?_
    refine WX.next ?_
    rcases br_some hl1285 with ⟨h1323, hl1285⟩ | ⟨h1323, hl1285⟩
    ·refine WC.condT2 (fun fb => by kernel_rfl) h1323 ?_
     refine WC.seq ?_
     refine WC.region ?_
     refine seg 1 [] [2] [(2, (.bool false))] [] (fun fb => by kernel_rfl) rfl trivial ?_
     refine WL.done rfl ?_
     refine WX.next ?_
     refine WC.ret ?_
     injection hl1285 with hl1285
     subst hl1285
     injection hf with hf
     subst hf
     exact WX.thenR (WX.blockR (WX.thenR (WX.thenR (WX.blockR (WX.thenR (WX.ret_ [] (.bool false) [] (fun fb => by kernel_rfl) trivial ⟨_, rfl, rfl, hS1321.keep⟩))))))
    refine WC.condF2 (fun fb => by kernel_rfl) h1323 ?_
    refine WC.skip ?_
    refine WX.next ?_
    refine WC.region ?_
    refine seg 2 [.v (iv ((rdD p0 x1279 z_Tile).N)), .v (iv ((rdD p0 x1279 z_Tile).E)), .v (iv ((rdD p0 x1279 z_Tile).S)), .v (iv ((rdD p0 x1279 z_Tile).W))] [3, 10, 11, 12, 32, 33] [(3, (.map (some g1144))), (10, (.slice A_p0 p0.length c_p0)), (11, (iv (p0.length : Int))), (12, (iv x1279)), (32, (.map (some g1144))), (33, (.agg #[(iv ((rdD p0 x1279 z_Tile).N)), (iv ((rdD p0 x1279 z_Tile).E)), (iv ((rdD p0 x1279 z_Tile).S)), (iv ((rdD p0 x1279 z_Tile).W))]))] [.cell ⟨g1288, 0, none⟩ (iv ((rdD p0 x1279 z_Tile).N)), .cell ⟨g1288, 1, none⟩ (iv ((rdD p0 x1279 z_Tile).E)), .cell ⟨g1288, 2, none⟩ (iv ((rdD p0 x1279 z_Tile).S)), .cell ⟨g1288, 3, none⟩ (iv ((rdD p0 x1279 z_Tile).W))] (fun fb => by kernel_rfl) rfl ⟨hS1321.cell 1 rfl 0 rfl, hS1321.cell 1 rfl 1 rfl, hS1321.cell 1 rfl 2 rfl, hS1321.cell 1 rfl 3 rfl, trivial⟩ ?_
    refine WL.mapput hS1321 0 (t := 100) (kT := 24) (eT := 4) (kE := (aggI ints_Tile)) (vE := vB) (l := l1278) rfl (rdD p0 x1279 z_Tile) true (fun fb => by kernel_rfl) tile_Valid_key24 (by kernel_rfl) [1] (by decide) (by decide) (fun w1324 hS1325 => ?_)
    refine ⟨trivial, ?_⟩
    refine WL.done rfl ?_
    refine WX.blockN (WX.next ?_)
    refine WC.region ?_
    refine seg 2 [] [3, 10, 11, 12] [(3, (.map (some g1144))), (10, (.slice A_p0 p0.length c_p0)), (11, (iv (p0.length : Int))), (12, (iv (w64 (x1279 + 1))))] [] (fun fb => by kernel_rfl) rfl trivial ?_
    refine WL.done rfl ?_
    exact WX.again k1282 (Nat.lt_succ_self _) (mput (rdD p0 x1279 z_Tile) true l1278, w64 (x1279 + 1)) [3, 10, 11, 12] rfl ⟨(hS1325.subR [0]).sub [0] (by decide), hl1285⟩
   refine WC.condF2 (fun fb => by kernel_rfl) h1286 ?_
   refine WC.exit ?_
   injection hl1285 with hl1285
   exact WX.thenX (WX.thenX (WX.blockHere (WX.to Kx1280 () [] rfl ⟨(hS1284.subR [0]).sub [] (by decide), hl1285.symm⟩)))
 rintro y1329 w1326 ⟨hS1327, hq1328⟩
 subst hq1328
 have hf := sum_inr hf
 refine WX.next ?_
 refine WC.seq ?_
 refine WC.region ?_
 refine seg 1 [] [2] [(2, (.bool true))] [] (fun fb => by kernel_rfl) rfl trivial ?_
 refine WL.done rfl ?_
 refine WX.next ?_
 refine WC.ret ?_
 injection hf with hf
 subst hf
 exact WX.ret_ [] (.bool true) [] (fun fb => by kernel_rfl) trivial ⟨_, rfl, rfl, hS1327.keep⟩
theorem decide_asks_calls (k : Nat) (p0 : List Tile) (A_p0 : Option Addr) (c_p0 : Nat) (r : Int) (w : World) (hR0 : RO NoS w (rowR enc_Tile A_p0 c_p0 p0)) (hf : decide_asks k p0 = some r) :
  CallsR Try.prog 43 #[(.slice A_p0 p0.length c_p0)] w (fun v w' => v = (iv r) ∧ Keeps NoS w w') := by
 have hS : St NoS w w [rowR enc_Tile A_p0 c_p0 p0] [] := St.init (ro_cons hR0 (ro_nil _ _))
 refine enter 11 Try.func43 rfl Try.ntmps43 rfl ?_
 unfold decide_asks at hf
 refine WC.seq ?_
 refine WC.region ?_
 refine seg 1 [] [0] [(0, (.slice A_p0 p0.length c_p0))] [] (fun fb => by kernel_rfl) rfl trivial ?_
 refine WL.done rfl ?_
 refine WX.next ?_
 refine WC.seq ?_
 refine WC.block ?_
 refine WC.seq ?_
 refine WC.region ?_
 refine seg 1 [] [0, 4] [(0, (.slice A_p0 p0.length c_p0)), (4, (.slice A_p0 p0.length c_p0))] [] (fun fb => by kernel_rfl) rfl trivial ?_
 obtain ⟨t1331, ht1332, hf⟩ := bind_some hf
 refine WL.call (some 5) 38 #[(.slice A_p0 p0.length c_p0)] (fun fb => by kernel_rfl) (tile_Valid_calls _ p0 A_p0 c_p0 t1331 _ (hS.rd 0) ht1332) (fun v w1333 hR1334 => ?_)
 obtain ⟨rfl, hk_⟩ := hR1334
 have hS1335 := hS.keepN hk_
 refine ⟨trivial, ?_⟩
 refine seg 4 [] [0, 3] [(0, (.slice A_p0 p0.length c_p0)), (3, (.bool (!t1331)))] [] (fun fb => by kernel_rfl) rfl trivial ?_
 refine WL.done rfl ?_
 refine WX.next ?_
 rcases br_some hf with ⟨h1336, hf⟩ | ⟨h1336, hf⟩
 ·refine WC.condT2 (fun fb => by kernel_rfl) h1336 ?_
  refine WC.seq ?_
  refine WC.region ?_
  refine seg 1 [] [2] [(2, (iv 1))] [] (fun fb => by kernel_rfl) rfl trivial ?_
  refine WL.done rfl ?_
  refine WX.next ?_
  refine WC.ret ?_
  injection hf with hf
  subst hf
  exact WX.blockR (WX.thenR (WX.ret_ [] (iv 1) [] (fun fb => by kernel_rfl) trivial ⟨_, rfl, rfl, hS1335.keep⟩))
 refine WC.condF2 (fun fb => by kernel_rfl) h1336 ?_
 refine WC.seq ?_
 refine WC.region ?_
 refine seg 4 [] [7] [(7, (.bool (decide ((p0.length : Int) > 3))))] [] (fun fb => by kernel_rfl) rfl trivial ?_
 refine WL.done rfl ?_
 refine WX.next ?_
 rcases br_some hf with ⟨h1337, hf⟩ | ⟨h1337, hf⟩
 ·refine WC.condT2 (fun fb => by kernel_rfl) h1337 ?_
  refine WC.seq ?_
  refine WC.region ?_
  refine seg 1 [] [2] [(2, (iv 2))] [] (fun fb => by kernel_rfl) rfl trivial ?_
  refine WL.done rfl ?_
  refine WX.next ?_
  refine WC.ret ?_
  injection hf with hf
  subst hf
  exact WX.blockR (WX.thenR (WX.ret_ [] (iv 2) [] (fun fb => by kernel_rfl) trivial ⟨_, rfl, rfl, hS1335.keep⟩))
 refine WC.condF2 (fun fb => by kernel_rfl) h1337 ?_
 refine WC.skip ?_
 refine WX.blockN (WX.next ?_)
 refine WC.seq ?_
 refine WC.region ?_
 refine seg 1 [] [2] [(2, (iv 0))] [] (fun fb => by kernel_rfl) rfl trivial ?_
 refine WL.done rfl ?_
 refine WX.next ?_
 refine WC.ret ?_
 injection hf with hf
 subst hf
 exact WX.ret_ [] (iv 0) [] (fun fb => by kernel_rfl) trivial ⟨_, rfl, rfl, hS1335.keep⟩
theorem decide_sides_calls (p0 : List Tile) (A_p0 : Option Addr) (c_p0 : Nat) (r : Unit) (w : World) (hR0 : RO NoS w (rowR enc_Tile A_p0 c_p0 p0)) (hf : decide_sides p0 = some r) :
  CallsR Try.prog 44 #[(.slice A_p0 p0.length c_p0)] w (fun v w' => ∃ (g1_ : Nat), v = (.func (.func 61) #[] #[(.pointer (some ⟨g1_, 0, none⟩))]) ∧ St NoS w w' [] [blk g1_ (.cells #[(.slice A_p0 p0.length c_p0)] 22 (0, 0))]) := by
 have hS : St NoS w w [rowR enc_Tile A_p0 c_p0 p0] [] := St.init (ro_cons hR0 (ro_nil _ _))
 refine enter 4 Try.func44 rfl Try.ntmps44 rfl ?_
 unfold decide_sides at hf
 refine WC.seq ?_
 refine WC.region ?_
 refine WL.new hS 1 [] (fun g => (.pointer (some ⟨g, 0, none⟩))) (.cells #[(.slice A_p0 p0.length c_p0)] 22 (0, 0)) [] (fun fb g => by kernel_rfl) trivial (fun g1349 w1350 hS1351 => ?_)
 refine ⟨trivial, ?_⟩
 refine seg 2 [] [1] [(1, (pt g1349))] [] (fun fb => by kernel_rfl) rfl trivial ?_
 refine WL.done rfl ?_
 refine WX.next ?_
 refine WC.seq ?_
 refine WC.region ?_
 refine seg 2 [] [2] [(2, (.func (.func 61) #[] #[(pt g1349)]))] [] (fun fb => by kernel_rfl) rfl trivial ?_
 refine WL.done rfl ?_
 refine WX.next ?_
 refine WC.ret ?_
 injection hf with hf
 subst hf
 exact WX.ret_ [] (.func (.func 61) #[] #[(pt g1349)]) [] (fun fb => by kernel_rfl) trivial ⟨_, rfl, g1349, rfl, (hS1351.sub [0] (by decide)).noR⟩
theorem rows_Few_calls (k : Nat) (p0 : List Tile) (p1 : Int) (A_p0 : Option Addr) (c_p0 : Nat) (r : Bool) (w : World) (hR0 : RO NoS w (rowR enc_Tile A_p0 c_p0 p0)) (hf : rows_Few k p0 p1 = some r) :
  CallsR Try.prog 45 #[(.slice A_p0 p0.length c_p0), (iv p1)] w (fun v w' => v = (.bool r) ∧ Keeps NoS w w') := by
 have hS : St NoS w w [rowR enc_Tile A_p0 c_p0 p0] [] := St.init (ro_cons hR0 (ro_nil _ _))
 refine enter 17 Try.func45 rfl Try.ntmps45 rfl ?_
 unfold rows_Few at hf
 refine WC.seq ?_
 refine WC.region ?_
 refine seg 1 [] [0, 1] [(0, (.slice A_p0 p0.length c_p0)), (1, (iv p1))] [] (fun fb => by kernel_rfl) rfl trivial ?_
 refine WL.done rfl ?_
 refine WX.next ?_
 refine WC.seq ?_
 refine WC.region ?_
 refine seg 1 [] [0, 1, 5] [(0, (.slice A_p0 p0.length c_p0)), (1, (iv p1)), (5, (iv 1))] [] (fun fb => by kernel_rfl) rfl trivial ?_
 refine WL.done rfl ?_
 refine WX.next ?_
 refine WC.seq ?_
 refine WC.seq ?_
 refine WC.region ?_
 refine seg 2 [] [0, 5, 6, 7] [(0, (.slice A_p0 p0.length c_p0)), (5, (iv 1)), (6, (iv p1)), (7, (iv 0))] [] (fun fb => by kernel_rfl) rfl trivial ?_
 refine WL.done rfl ?_
 refine WX.next ?_
 obtain ⟨x1424, hx1425, hf⟩ := bind_some hf
 refine WC.cutN (T := Unit) (fun t => []) (fun t w1 => St NoS w w1 [rowR enc_Tile A_p0 c_p0 p0] [] ∧ x1424 = .inr t) (fun Kx1424 => ?_) ?_
 ·
  refine WC.block ?_
  refine WC.loop (T := Int × Int) (fun t => [(0, (.slice A_p0 p0.length c_p0)), (5, (iv t.1)), (6, (iv p1)), (7, (iv t.2))]) (fun n t w1 => St NoS w w1 [rowR enc_Tile A_p0 c_p0 p0] [] ∧ rows_Few.l0 n t.1 t.2 p0 p1 = some x1424) k (1, 0) [0, 5, 6, 7] rfl ⟨(hS.subR [0]).sub [] (by decide), hx1425⟩ ?_
  rintro k1426 ⟨x1422, x1423⟩ w1427 ⟨hS1428, hl1429⟩
  cases k1426 with
  | zero => rw [rows_Few.l0] at hl1429; cases hl1429
  | succ k1426 =>
   rw [rows_Few.l0] at hl1429
   refine WC.seq ?_
   refine WC.region ?_
   refine seg 1 [] [0, 5, 6, 7, 8] [(0, (.slice A_p0 p0.length c_p0)), (5, (iv x1422)), (6, (iv p1)), (7, (iv x1423)), (8, (.bool (decide (x1423 < p1))))] [] (fun fb => by kernel_rfl) rfl trivial ?_
   refine WL.done rfl ?_
   refine WX.next ?_
   refine WC.seq ?_
   rcases br_some hl1429 with ⟨h1430, hl1429⟩ | ⟨h1430, hl1429⟩
   ·refine WC.condT2 (fun fb => by kernel_rfl) h1430 ?_
    refine WC.skip ?_
    refine WX.next ?_
    refine WC.seq ?_
    refine WC.block ?_
    refine WC.seq ?_
    refine WC.region ?_
    refine seg 6 [] [0, 5, 6, 7] [(0, (.slice A_p0 p0.length c_p0)), (5, (iv (w64 (x1422 * (maxI (p0.length : Int) 1))))), (6, (iv p1)), (7, (iv x1423))] [] (fun fb => by kernel_rfl) rfl trivial ?_
    refine WL.done rfl ?_
    refine WX.next ?_
    refine WC.seq ?_
    refine WC.region ?_
    refine seg 2 [] [0, 5, 6, 7, 15] [(0, (.slice A_p0 p0.length c_p0)), (5, (iv (w64 (x1422 * (maxI (p0.length : Int) 1))))), (6, (iv p1)), (7, (iv x1423)), (15, (.bool (decide (w64 (x1422 * (maxI (p0.length : Int) 1)) > 5000))))] [] (fun fb => by kernel_rfl) rfl trivial ?_
    refine WL.done rfl ?_
    refine WX.next ?_
    rcases br_some hl1429 with ⟨h1431, hl1429⟩ | ⟨h1431, hl1429⟩
    ·refine WC.condT2 (fun fb => by kernel_rfl) h1431 ?_
     refine WC.seq ?_
     refine WC.region ?_
     refine seg 1 [] [4] [(4, (.bool false))] [] (fun fb => by kernel_rfl) rfl trivial ?_
     refine WL.done rfl ?_
     refine WX.next ?_
     refine WC.ret ?_
     injection hl1429 with hl1429
     subst hl1429
     injection hf with hf
     subst hf
     exact WX.blockR (WX.thenR (WX.thenR (WX.blockR (WX.thenR (WX.ret_ [] (.bool false) [] (fun fb => by kernel_rfl) trivial ⟨_, rfl, rfl, hS1428.keep⟩)))))
    refine WC.condF2 (fun fb => by kernel_rfl) h1431 ?_
    refine WC.skip ?_
    refine WX.blockN (WX.next ?_)
    refine WC.region ?_
    refine seg 2 [] [0, 5, 6, 7] [(0, (.slice A_p0 p0.length c_p0)), (5, (iv (w64 (x1422 * (maxI (p0.length : Int) 1))))), (6, (iv p1)), (7, (iv (w64 (x1423 + 1))))] [] (fun fb => by kernel_rfl) rfl trivial ?_
    refine WL.done rfl ?_
    exact WX.again k1426 (Nat.lt_succ_self _) (w64 (x1422 * (maxI (p0.length : Int) 1)), w64 (x1423 + 1)) [0, 5, 6, 7] rfl ⟨(hS1428.subR [0]).sub [] (by decide), hl1429⟩
   refine WC.condF2 (fun fb => by kernel_rfl) h1430 ?_
   refine WC.exit ?_
   injection hl1429 with hl1429
   exact WX.thenX (WX.thenX (WX.blockHere (WX.to Kx1424 () [] rfl ⟨(hS1428.subR [0]).sub [] (by decide), hl1429.symm⟩)))
 rintro y1435 w1432 ⟨hS1433, hq1434⟩
 subst hq1434
 have hf := sum_inr hf
 refine WX.next ?_
 refine WC.seq ?_
 refine WC.region ?_
 refine seg 1 [] [4] [(4, (.bool true))] [] (fun fb => by kernel_rfl) rfl trivial ?_
 refine WL.done rfl ?_
 refine WX.next ?_
 refine WC.ret ?_
 injection hf with hf
 subst hf
 exact WX.ret_ [] (.bool true) [] (fun fb => by kernel_rfl) trivial ⟨_, rfl, rfl, hS1433.keep⟩
theorem square_check_calls (k : Nat) (p0 : List Tile) (p1 : Int) (A_p0 : Option Addr) (c_p0 : Nat) (r : Int) (w : World) (hR0 : RO NoS w (rowR enc_Tile A_p0 c_p0 p0)) (hf : square_check k p0 p1 = some r) :
  CallsR Try.prog 41 #[(.slice A_p0 p0.length c_p0), (iv p1)] w (fun v w' => v = (iv r) ∧ Keeps NoS w w') := by
 have hS : St NoS w w [rowR enc_Tile A_p0 c_p0 p0] [] := St.init (ro_cons hR0 (ro_nil _ _))
 refine enter 21 Try.func41 rfl Try.ntmps41 rfl ?_
 unfold square_check at hf
 refine WC.seq ?_
 refine WC.region ?_
 refine seg 1 [] [0, 1] [(0, (.slice A_p0 p0.length c_p0)), (1, (iv p1))] [] (fun fb => by kernel_rfl) rfl trivial ?_
 refine WL.done rfl ?_
 refine WX.next ?_
 refine WC.seq ?_
 refine WC.block ?_
 refine WC.seq ?_
 refine WC.region ?_
 refine seg 1 [] [0, 1, 6] [(0, (.slice A_p0 p0.length c_p0)), (1, (iv p1)), (6, (.slice A_p0 p0.length c_p0))] [] (fun fb => by kernel_rfl) rfl trivial ?_
 obtain ⟨t1407, ht1408, hf⟩ := bind_some hf
 refine WL.call (some 7) 38 #[(.slice A_p0 p0.length c_p0)] (fun fb => by kernel_rfl) (tile_Valid_calls _ p0 A_p0 c_p0 t1407 _ (hS.rd 0) ht1408) (fun v w1409 hR1410 => ?_)
 obtain ⟨rfl, hk_⟩ := hR1410
 have hS1411 := hS.keepN hk_
 refine ⟨trivial, ?_⟩
 refine seg 4 [] [0, 1, 5] [(0, (.slice A_p0 p0.length c_p0)), (1, (iv p1)), (5, (.bool (!t1407)))] [] (fun fb => by kernel_rfl) rfl trivial ?_
 refine WL.done rfl ?_
 refine WX.next ?_
 rcases br_some hf with ⟨h1412, hf⟩ | ⟨h1412, hf⟩
 ·refine WC.condT2 (fun fb => by kernel_rfl) h1412 ?_
  refine WC.seq ?_
  refine WC.region ?_
  refine seg 1 [] [4] [(4, (iv 1))] [] (fun fb => by kernel_rfl) rfl trivial ?_
  refine WL.done rfl ?_
  refine WX.next ?_
  refine WC.ret ?_
  injection hf with hf
  subst hf
  exact WX.blockR (WX.thenR (WX.ret_ [] (iv 1) [] (fun fb => by kernel_rfl) trivial ⟨_, rfl, rfl, hS1411.keep⟩))
 refine WC.condF2 (fun fb => by kernel_rfl) h1412 ?_
 refine WC.seq ?_
 refine WC.region ?_
 refine seg 3 [] [0, 1, 12] [(0, (.slice A_p0 p0.length c_p0)), (1, (iv p1)), (12, (.bool (decide (p1 < 1))))] [] (fun fb => by kernel_rfl) rfl trivial ?_
 refine WL.cutV (T := Bool) 6 (fun t => [(15, (.bool t)), (0, (.slice A_p0 p0.length c_p0)), (1, (iv p1))]) (fun t => ((decide (p1 < 1)) || (decide (p1 > 8))) = t) (fun K => ?_) ?_
 ·
  rcases Bool.eq_false_or_eq_true (decide (p1 < 1)) with h1413 | h1413
  ·
   refine WL.setB 12 h1413 rfl ?_
   refine seg 6 [] [0, 1, 15] [(0, (.slice A_p0 p0.length c_p0)), (1, (iv p1)), (15, (.bool true))] [] (fun fb => by kernel_rfl) rfl trivial ?_
   exact WL.toV K true [15, 0, 1] rfl (by first | (rw [h1413]; done) | (rw [h1413]; rfl))
  refine WL.setB 12 h1413 rfl ?_
  refine seg 6 [] [0, 1, 15] [(0, (.slice A_p0 p0.length c_p0)), (1, (iv p1)), (15, (.bool (decide (p1 > 8))))] [] (fun fb => by kernel_rfl) rfl trivial ?_
  exact WL.toV K (decide (p1 > 8)) [15, 0, 1] rfl (by first | (rw [h1413]; done) | (rw [h1413]; rfl))
 rintro b1414 rfl
 refine seg 7 [] [0, 1, 9] [(0, (.slice A_p0 p0.length c_p0)), (1, (iv p1)), (9, (.bool ((decide (p1 < 1)) || (decide (p1 > 8)))))] [] (fun fb => by kernel_rfl) rfl trivial ?_
 refine WL.done rfl ?_
 refine WX.next ?_
 rcases br_some hf with ⟨h1415, hf⟩ | ⟨h1415, hf⟩
 ·refine WC.condT2 (fun fb => by kernel_rfl) h1415 ?_
  refine WC.seq ?_
  refine WC.region ?_
  refine seg 1 [] [4] [(4, (iv 2))] [] (fun fb => by kernel_rfl) rfl trivial ?_
  refine WL.done rfl ?_
  refine WX.next ?_
  refine WC.ret ?_
  injection hf with hf
  subst hf
  exact WX.blockR (WX.thenR (WX.ret_ [] (iv 2) [] (fun fb => by kernel_rfl) trivial ⟨_, rfl, rfl, hS1411.keep⟩))
 refine WC.condF2 (fun fb => by kernel_rfl) h1415 ?_
 refine WC.seq ?_
 refine WC.region ?_
 refine seg 2 [] [17, 18] [(17, (.slice A_p0 p0.length c_p0)), (18, (iv p1))] [] (fun fb => by kernel_rfl) rfl trivial ?_
 obtain ⟨t1437, ht1438, hf⟩ := bind_some hf
 refine WL.call (some 19) 45 #[(.slice A_p0 p0.length c_p0), (iv p1)] (fun fb => by kernel_rfl) (rows_Few_calls _ p0 p1 A_p0 c_p0 t1437 _ (hS1411.rd 0) ht1438) (fun v w1439 hR1440 => ?_)
 obtain ⟨rfl, hk_⟩ := hR1440
 have hS1441 := hS1411.keepN hk_
 refine ⟨trivial, ?_⟩
 refine seg 5 [] [16] [(16, (.bool (!t1437)))] [] (fun fb => by kernel_rfl) rfl trivial ?_
 refine WL.done rfl ?_
 refine WX.next ?_
 rcases br_some hf with ⟨h1442, hf⟩ | ⟨h1442, hf⟩
 ·refine WC.condT2 (fun fb => by kernel_rfl) h1442 ?_
  refine WC.seq ?_
  refine WC.region ?_
  refine seg 1 [] [4] [(4, (iv 4))] [] (fun fb => by kernel_rfl) rfl trivial ?_
  refine WL.done rfl ?_
  refine WX.next ?_
  refine WC.ret ?_
  injection hf with hf
  subst hf
  exact WX.blockR (WX.thenR (WX.ret_ [] (iv 4) [] (fun fb => by kernel_rfl) trivial ⟨_, rfl, rfl, hS1441.keep⟩))
 refine WC.condF2 (fun fb => by kernel_rfl) h1442 ?_
 refine WC.skip ?_
 refine WX.blockN (WX.next ?_)
 refine WC.seq ?_
 refine WC.region ?_
 refine seg 1 [] [4] [(4, (iv 0))] [] (fun fb => by kernel_rfl) rfl trivial ?_
 refine WL.done rfl ?_
 refine WX.next ?_
 refine WC.ret ?_
 injection hf with hf
 subst hf
 exact WX.ret_ [] (iv 0) [] (fun fb => by kernel_rfl) trivial ⟨_, rfl, rfl, hS1441.keep⟩
theorem rows_rowOf_calls (k : Nat) (p0 : List Tile) (p1 : List Int) (A_p0 : Option Addr) (c_p0 : Nat) (A_p1 : Option Addr) (c_p1 : Nat) (r : Row) (w : World) (hR0 : RO NoS w (rowR enc_Tile A_p0 c_p0 p0)) (hR1 : RO NoS w (rowR encInt A_p1 c_p1 p1)) (hf : rows_rowOf k p0 p1 = some r) :
  CallsR Try.prog 83 #[(.slice A_p0 p0.length c_p0), (.slice A_p1 p1.length c_p1)] w (fun v w' => ∃ (A1_ : Option Addr), ∃ (c1_ : Nat), v = (.agg #[(.slice A1_ r.Cells.length c1_), (iv r.South.e0), (iv r.South.e1), (iv r.South.e2), (iv r.South.e3), (iv r.South.e4), (iv r.South.e5), (iv r.South.e6), (iv r.South.e7), (iv r.North.e0), (iv r.North.e1), (iv r.North.e2), (iv r.North.e3), (iv r.North.e4), (iv r.North.e5), (iv r.North.e6), (iv r.North.e7), (iv r.West), (iv r.East)]) ∧ St NoS w w' [] [rowO 3 encInt A1_ c1_ r.Cells]) := by
 have hS : St NoS w w [rowR enc_Tile A_p0 c_p0 p0, rowR encInt A_p1 c_p1 p1] [] := St.init (ro_cons hR0 (ro_cons hR1 (ro_nil _ _)))
 refine enter 55 Try.func83 rfl Try.ntmps83 rfl ?_
 unfold rows_rowOf at hf
 refine WC.seq ?_
 refine WC.region ?_
 refine WL.new hS 4 [] (fun g => (.pointer (some ⟨g, 0, none⟩))) (.cells #[(.slice none 0 0), (iv 0), (iv 0), (iv 0), (iv 0), (iv 0), (iv 0), (iv 0), (iv 0), (iv 0), (iv 0), (iv 0), (iv 0), (iv 0), (iv 0), (iv 0), (iv 0), (iv 0), (iv 0)] 88 (0, 0)) [] (fun fb g => by kernel_rfl) trivial (fun g1561 w1562 hS1563 => ?_)
 refine ⟨trivial, ?_⟩
 refine WL.done rfl ?_
 refine WX.next ?_
 refine WC.seq ?_
 refine WC.region ?_
 refine seg 1 [] [0, 1, 4, 8] [(0, (.slice A_p0 p0.length c_p0)), (1, (.slice A_p1 p1.length c_p1)), (4, (pt g1561)), (8, (.slice A_p1 p1.length c_p1))] [] (fun fb => by kernel_rfl) rfl trivial ?_
 have hS1565 := hS1563.nilrow 3 encInt
 obtain ⟨h1566, hf⟩ := as_some hf
 refine WL.append hS1565 0 (d := 9) (tS := 36) (z := (iv 0)) (bytes := 8) (c2 := c_p1) rfl (fun fb => by kernel_rfl) (hS1565.rd 1).1 (by kernel_rfl) (by kernel_rfl) rfl (by decide) h1566 (by decide) [1] (by decide) (by decide) (fun A1567 c1568 w1569 hS1570 => ?_)
 refine ⟨trivial, ?_⟩
 refine seg 3 [] [0, 1, 4, 10] [(0, (.slice A_p0 p0.length c_p0)), (1, (.slice A_p1 p1.length c_p1)), (4, (pt g1561)), (10, (.agg #[(.slice A1567 (([] : List Int) ++ p1).length c1568), (iv 0), (iv 0), (iv 0), (iv 0), (iv 0), (iv 0), (iv 0), (iv 0), (iv 0), (iv 0), (iv 0), (iv 0), (iv 0), (iv 0), (iv 0), (iv 0), (iv 0), (iv 0)]))] [] (fun fb => by kernel_rfl) rfl trivial ?_
 refine WL.new hS1570 5 [] (fun g => (.pointer (some ⟨g, 0, none⟩))) (.cells #[(.slice none 0 0), (iv 0), (iv 0), (iv 0), (iv 0), (iv 0), (iv 0), (iv 0), (iv 0), (iv 0), (iv 0), (iv 0), (iv 0), (iv 0), (iv 0), (iv 0), (iv 0), (iv 0), (iv 0)] 88 (0, 0)) [] (fun fb g => by kernel_rfl) trivial (fun g1571 w1572 hS1573 => ?_)
 refine ⟨trivial, ?_⟩
 refine WL.store hS1573 0 rfl [(0, (.slice A1567 (([] : List Int) ++ p1).length c1568)), (1, (iv 0)), (2, (iv 0)), (3, (iv 0)), (4, (iv 0)), (5, (iv 0)), (6, (iv 0)), (7, (iv 0)), (8, (iv 0)), (9, (iv 0)), (10, (iv 0)), (11, (iv 0)), (12, (iv 0)), (13, (iv 0)), (14, (iv 0)), (15, (iv 0)), (16, (iv 0)), (17, (iv 0)), (18, (iv 0))] #[(.slice A1567 (([] : List Int) ++ p1).length c1568), (iv 0), (iv 0), (iv 0), (iv 0), (iv 0), (iv 0), (iv 0), (iv 0), (iv 0), (iv 0), (iv 0), (iv 0), (iv 0), (iv 0), (iv 0), (iv 0), (iv 0), (iv 0)] (fun fb => by kernel_rfl) (by kernel_rfl) (by kernel_rfl) [1, 2] (by decide) (by decide) (fun w1575 hS1576 => ?_)
 refine ⟨trivial, ?_⟩
 refine WL.done rfl ?_
 refine WX.next ?_
 refine WC.seq ?_
 refine WC.seq ?_
 refine WC.region ?_
 refine seg 3 [] [0, 1, 4, 5, 11, 12, 13] [(0, (.slice A_p0 p0.length c_p0)), (1, (.slice A_p1 p1.length c_p1)), (4, (pt g1561)), (5, (pt g1571)), (11, (.slice A_p1 p1.length c_p1)), (12, (iv (p1.length : Int))), (13, (iv 0))] [] (fun fb => by kernel_rfl) rfl trivial ?_
 refine WL.done rfl ?_
 refine WX.next ?_
 obtain ⟨x1655, hx1656, hf⟩ := bind_some hf
 refine WC.cutN (T := A8_Int × A8_Int) (fun t => [(0, (.slice A_p0 p0.length c_p0)), (1, (.slice A_p1 p1.length c_p1)), (4, (pt g1561)), (5, (pt g1571))]) (fun t w1 => St NoS w w1 [rowR enc_Tile A_p0 c_p0 p0, rowR encInt A_p1 c_p1 p1] [blk g1561 (.cells #[(.slice none 0 0), (iv 0), (iv 0), (iv 0), (iv 0), (iv 0), (iv 0), (iv 0), (iv 0), (iv 0), (iv 0), (iv 0), (iv 0), (iv 0), (iv 0), (iv 0), (iv 0), (iv 0), (iv 0)] 88 (0, 0)), blk g1571 (.cells #[(.slice A1567 (([] : List Int) ++ p1).length c1568), (iv t.1.e0), (iv t.1.e1), (iv t.1.e2), (iv t.1.e3), (iv t.1.e4), (iv t.1.e5), (iv t.1.e6), (iv t.1.e7), (iv t.2.e0), (iv t.2.e1), (iv t.2.e2), (iv t.2.e3), (iv t.2.e4), (iv t.2.e5), (iv t.2.e6), (iv t.2.e7), (iv 0), (iv 0)] 88 (0, 0)), rowO 3 encInt A1567 c1568 (([] : List Int) ++ p1)] ∧ x1655 = t) (fun Kx1655 => ?_) ?_
 ·
  refine WC.block ?_
  refine WC.loop (T := A8_Int × A8_Int × Int) (fun t => [(0, (.slice A_p0 p0.length c_p0)), (1, (.slice A_p1 p1.length c_p1)), (4, (pt g1561)), (5, (pt g1571)), (11, (.slice A_p1 p1.length c_p1)), (12, (iv (p1.length : Int))), (13, (iv t.2.2))]) (fun n t w1 => St NoS w w1 [rowR enc_Tile A_p0 c_p0 p0, rowR encInt A_p1 c_p1 p1] [blk g1561 (.cells #[(.slice none 0 0), (iv 0), (iv 0), (iv 0), (iv 0), (iv 0), (iv 0), (iv 0), (iv 0), (iv 0), (iv 0), (iv 0), (iv 0), (iv 0), (iv 0), (iv 0), (iv 0), (iv 0), (iv 0)] 88 (0, 0)), blk g1571 (.cells #[(.slice A1567 (([] : List Int) ++ p1).length c1568), (iv t.1.e0), (iv t.1.e1), (iv t.1.e2), (iv t.1.e3), (iv t.1.e4), (iv t.1.e5), (iv t.1.e6), (iv t.1.e7), (iv t.2.1.e0), (iv t.2.1.e1), (iv t.2.1.e2), (iv t.2.1.e3), (iv t.2.1.e4), (iv t.2.1.e5), (iv t.2.1.e6), (iv t.2.1.e7), (iv 0), (iv 0)] 88 (0, 0)), rowO 3 encInt A1567 c1568 (([] : List Int) ++ p1)] ∧ rows_rowOf.l0 n t.1 t.2.1 t.2.2 p0 p1 = some x1655) k ((A8_Int.mk 0 0 0 0 0 0 0 0), (A8_Int.mk 0 0 0 0 0 0 0 0), 0) [0, 1, 4, 5, 11, 12, 13] rfl ⟨(hS1576.subR [0, 1]).sub [2, 0, 1] (by decide), hx1656⟩ ?_
  rintro k1657 ⟨a1650, a1651, x1652⟩ w1658 ⟨hS1659, hl1660⟩
  cases k1657 with
  | zero => rw [rows_rowOf.l0] at hl1660; cases hl1660
  | succ k1657 =>
   rw [rows_rowOf.l0] at hl1660
   refine WC.seq ?_
   refine WC.region ?_
   refine seg 1 [] [0, 1, 4, 5, 11, 12, 13, 14] [(0, (.slice A_p0 p0.length c_p0)), (1, (.slice A_p1 p1.length c_p1)), (4, (pt g1561)), (5, (pt g1571)), (11, (.slice A_p1 p1.length c_p1)), (12, (iv (p1.length : Int))), (13, (iv x1652)), (14, (.bool (decide (x1652 < (p1.length : Int)))))] [] (fun fb => by kernel_rfl) rfl trivial ?_
   refine WL.done rfl ?_
   refine WX.next ?_
   refine WC.seq ?_
   rcases br_some hl1660 with ⟨h1661, hl1660⟩ | ⟨h1661, hl1660⟩
   ·refine WC.condT2 (fun fb => by kernel_rfl) h1661 ?_
    refine WC.skip ?_
    refine WX.next ?_
    refine WC.seq ?_
    refine WC.block ?_
    refine WC.seq ?_
    refine WC.region ?_
    refine seg 1 [] [0, 1, 4, 5, 11, 12, 13, 15] [(0, (.slice A_p0 p0.length c_p0)), (1, (.slice A_p1 p1.length c_p1)), (4, (pt g1561)), (5, (pt g1571)), (11, (.slice A_p1 p1.length c_p1)), (12, (iv (p1.length : Int))), (13, (iv x1652)), (15, (iv x1652))] [] (fun fb => by kernel_rfl) rfl trivial ?_
    obtain ⟨h1662, hl1660⟩ := as_some hl1660
    refine seg 5 [.v (iv (rdD p1 x1652 0))] [0, 1, 4, 5, 6, 7, 11, 12, 13] [(0, (.slice A_p0 p0.length c_p0)), (1, (.slice A_p1 p1.length c_p1)), (4, (pt g1561)), (5, (pt g1571)), (6, (iv x1652)), (7, (iv (rdD p1 x1652 0))), (11, (.slice A_p1 p1.length c_p1)), (12, (iv (p1.length : Int))), (13, (iv x1652))] [.idx A_p1 x1652 p1.length, .cell ((adr A_p1).add ((x1652).toNat * 1)) (iv (rdD p1 x1652 0))] (fun fb => by kernel_rfl) rfl ⟨rowR.adr (hS1659.rd 1).1 h1662.1 h1662.2, rowR.cell (hS1659.rd 1).1 0 h1662.1 h1662.2 0 rfl, trivial⟩ ?_
    refine WL.done rfl ?_
    refine WX.next ?_
    obtain ⟨h1677, hl1660⟩ := as_some hl1660
    obtain ⟨h1678, hl1660⟩ := as_some hl1660
    refine WC.regionD ([(6, (((adr A_p0).add (((rdD p1 x1652 0)).toNat * 4)).add 2), (iv ((rdD p0 (rdD p1 x1652 0) z_Tile).S))), (11, ((adr A_p0).add (((rdD p1 x1652 0)).toNat * 4)), (iv ((rdD p0 (rdD p1 x1652 0) z_Tile).N)))], [0, 1, 2, 3, 4, 5, 6, 7, 8, 9, 10, 11, 12, 13, 15, 16], [[], [], [], [], [2, 3], [2, 3, 4], [2, 3, 4, 5], [], [], [7, 8], [7, 8, 9], [7, 8, 9, 10], [], [0, 2, 3, 4, 5, 6, 12], [0, 2, 3, 4, 5, 6, 12, 13], [], [0, 1, 2, 3, 4, 5, 6, 7, 8, 9, 10, 11, 12, 13, 14, 15], [0, 1, 2, 3, 4, 5, 6, 7, 8, 9, 10, 11, 12, 13, 14, 15, 16]]) [[0, 1, 2, 3, 4, 5, 6, 7, 8, 9, 10, 11, 12, 13, 15, 14, 16, 17]] (by kernel_rfl) (by kernel_rfl) (NoPanic.block (NoPanic.seq (NoPanic.seq (NoPanic.block (NoPanic.seq (NoPanic.body)))))) ?_
    have hS1674 := hS1659.drew
    revert hS1674
    generalize World.drew w1658 = w1673
    intro hS1674
    refine ⟨⟨rowR.cell (hS1674.rd 0).1 z_Tile h1677.1 h1677.2 2 rfl, rowR.cell (hS1674.rd 0).1 z_Tile h1677.1 h1677.2 0 rfl, trivial⟩, forallC ?_ (forallN)⟩
    refine segF 15 [.v (iv ((rdD p0 (rdD p1 x1652 0) z_Tile).S)), .v (iv ((rdD p0 (rdD p1 x1652 0) z_Tile).N))] [0, 1, 4, 5, 11, 12, 13, 19, 24, 29, 31, 32] [(0, (.slice A_p0 p0.length c_p0)), (1, (.slice A_p1 p1.length c_p1)), (4, (pt g1561)), (5, (pt g1571)), (11, (.slice A_p1 p1.length c_p1)), (12, (iv (p1.length : Int))), (13, (iv x1652)), (19, (iv x1652)), (24, (iv ((rdD p0 (rdD p1 x1652 0) z_Tile).S))), (29, (iv ((rdD p0 (rdD p1 x1652 0) z_Tile).N))), (31, (.pointer (some (flatA ⟨g1571, 1, none⟩ (x1652.toNat * 1))))), (32, (.pointer (some ⟨g1571, 9, none⟩)))] [.idx A_p0 (rdD p1 x1652 0) p0.length, .idx A_p0 (rdD p1 x1652 0) p0.length, .idx (some ⟨0, 0, none⟩) x1652 8] [0, 1] [(6, (((adr A_p0).add (((rdD p1 x1652 0)).toNat * 4)).add 2), (iv ((rdD p0 (rdD p1 x1652 0) z_Tile).S))), (11, ((adr A_p0).add (((rdD p1 x1652 0)).toNat * 4)), (iv ((rdD p0 (rdD p1 x1652 0) z_Tile).N)))] (fun fb => by kernel_rfl) rfl ⟨rowR.adr (hS1674.rd 0).1 h1677.1 h1677.2, rowR.adr (hS1674.rd 0).1 h1677.1 h1677.2, ⟨h1678.1, h1678.2, rfl⟩, trivial⟩ rfl ?_
    have h1681 := (cases8 (Q := fun z_ => (([(1 + z_.toNat * 1, (iv ((rdD p0 (rdD p1 x1652 0) z_Tile).S)))] : List (Nat × Value)).all fun p_ => Nat.blt p_.1 (#[(.slice A1567 (([] : List Int) ++ p1).length c1568), (iv a1650.e0), (iv a1650.e1), (iv a1650.e2), (iv a1650.e3), (iv a1650.e4), (iv a1650.e5), (iv a1650.e6), (iv a1650.e7), (iv a1651.e0), (iv a1651.e1), (iv a1651.e2), (iv a1651.e3), (iv a1651.e4), (iv a1651.e5), (iv a1651.e6), (iv a1651.e7), (iv 0), (iv 0)] : Array Value).size) = true) h1678 (by kernel_rfl) (by kernel_rfl) (by kernel_rfl) (by kernel_rfl) (by kernel_rfl) (by kernel_rfl) (by kernel_rfl) (by kernel_rfl))
    have h1682 := (cases8 (Q := fun z_ => wrc (#[(.slice A1567 (([] : List Int) ++ p1).length c1568), (iv a1650.e0), (iv a1650.e1), (iv a1650.e2), (iv a1650.e3), (iv a1650.e4), (iv a1650.e5), (iv a1650.e6), (iv a1650.e7), (iv a1651.e0), (iv a1651.e1), (iv a1651.e2), (iv a1651.e3), (iv a1651.e4), (iv a1651.e5), (iv a1651.e6), (iv a1651.e7), (iv 0), (iv 0)] : Array Value) [(1 + z_.toNat * 1, (iv ((rdD p0 (rdD p1 x1652 0) z_Tile).S)))] = (#[(.slice A1567 (([] : List Int) ++ p1).length c1568), (iv ((A8_Int.set a1650 z_ ((rdD p0 (rdD p1 x1652 0) z_Tile).S)).e0)), (iv ((A8_Int.set a1650 z_ ((rdD p0 (rdD p1 x1652 0) z_Tile).S)).e1)), (iv ((A8_Int.set a1650 z_ ((rdD p0 (rdD p1 x1652 0) z_Tile).S)).e2)), (iv ((A8_Int.set a1650 z_ ((rdD p0 (rdD p1 x1652 0) z_Tile).S)).e3)), (iv ((A8_Int.set a1650 z_ ((rdD p0 (rdD p1 x1652 0) z_Tile).S)).e4)), (iv ((A8_Int.set a1650 z_ ((rdD p0 (rdD p1 x1652 0) z_Tile).S)).e5)), (iv ((A8_Int.set a1650 z_ ((rdD p0 (rdD p1 x1652 0) z_Tile).S)).e6)), (iv ((A8_Int.set a1650 z_ ((rdD p0 (rdD p1 x1652 0) z_Tile).S)).e7)), (iv a1651.e0), (iv a1651.e1), (iv a1651.e2), (iv a1651.e3), (iv a1651.e4), (iv a1651.e5), (iv a1651.e6), (iv a1651.e7), (iv 0), (iv 0)] : Array Value)) h1678 (by kernel_rfl) (by kernel_rfl) (by kernel_rfl) (by kernel_rfl) (by kernel_rfl) (by kernel_rfl) (by kernel_rfl) (by kernel_rfl))
    refine WL.store hS1674 1 rfl [(1 + x1652.toNat * 1, (iv ((rdD p0 (rdD p1 x1652 0) z_Tile).S)))] #[(.slice A1567 (([] : List Int) ++ p1).length c1568), (iv ((A8_Int.set a1650 x1652 ((rdD p0 (rdD p1 x1652 0) z_Tile).S)).e0)), (iv ((A8_Int.set a1650 x1652 ((rdD p0 (rdD p1 x1652 0) z_Tile).S)).e1)), (iv ((A8_Int.set a1650 x1652 ((rdD p0 (rdD p1 x1652 0) z_Tile).S)).e2)), (iv ((A8_Int.set a1650 x1652 ((rdD p0 (rdD p1 x1652 0) z_Tile).S)).e3)), (iv ((A8_Int.set a1650 x1652 ((rdD p0 (rdD p1 x1652 0) z_Tile).S)).e4)), (iv ((A8_Int.set a1650 x1652 ((rdD p0 (rdD p1 x1652 0) z_Tile).S)).e5)), (iv ((A8_Int.set a1650 x1652 ((rdD p0 (rdD p1 x1652 0) z_Tile).S)).e6)), (iv ((A8_Int.set a1650 x1652 ((rdD p0 (rdD p1 x1652 0) z_Tile).S)).e7)), (iv a1651.e0), (iv a1651.e1), (iv a1651.e2), (iv a1651.e3), (iv a1651.e4), (iv a1651.e5), (iv a1651.e6), (iv a1651.e7), (iv 0), (iv 0)] (fun fb => by kernel_rfl) h1681 h1682 [0, 2] (by decide) (by decide) (fun w1679 hS1680 => ?_)
    refine ⟨⟨rowR.cell (hS1680.rd 0).1 z_Tile h1677.1 h1677.2 0 rfl, trivial⟩, ?_⟩
    refine seg 17 [] [0, 1, 4, 5, 11, 12, 13, 29, 33] [(0, (.slice A_p0 p0.length c_p0)), (1, (.slice A_p1 p1.length c_p1)), (4, (pt g1561)), (5, (pt g1571)), (11, (.slice A_p1 p1.length c_p1)), (12, (iv (p1.length : Int))), (13, (iv x1652)), (29, (iv ((rdD p0 (rdD p1 x1652 0) z_Tile).N))), (33, (.pointer (some (flatA ⟨g1571, 9, none⟩ (x1652.toNat * 1)))))] [.idx (some ⟨0, 0, none⟩) x1652 8] (fun fb => by kernel_rfl) rfl ⟨⟨h1678.1, h1678.2, rfl⟩, trivial⟩ ?_
    have h1685 := (cases8 (Q := fun z_ => (([(9 + z_.toNat * 1, (iv ((rdD p0 (rdD p1 x1652 0) z_Tile).N)))] : List (Nat × Value)).all fun p_ => Nat.blt p_.1 (#[(.slice A1567 (([] : List Int) ++ p1).length c1568), (iv ((A8_Int.set a1650 x1652 ((rdD p0 (rdD p1 x1652 0) z_Tile).S)).e0)), (iv ((A8_Int.set a1650 x1652 ((rdD p0 (rdD p1 x1652 0) z_Tile).S)).e1)), (iv ((A8_Int.set a1650 x1652 ((rdD p0 (rdD p1 x1652 0) z_Tile).S)).e2)), (iv ((A8_Int.set a1650 x1652 ((rdD p0 (rdD p1 x1652 0) z_Tile).S)).e3)), (iv ((A8_Int.set a1650 x1652 ((rdD p0 (rdD p1 x1652 0) z_Tile).S)).e4)), (iv ((A8_Int.set a1650 x1652 ((rdD p0 (rdD p1 x1652 0) z_Tile).S)).e5)), (iv ((A8_Int.set a1650 x1652 ((rdD p0 (rdD p1 x1652 0) z_Tile).S)).e6)), (iv ((A8_Int.set a1650 x1652 ((rdD p0 (rdD p1 x1652 0) z_Tile).S)).e7)), (iv a1651.e0), (iv a1651.e1), (iv a1651.e2), (iv a1651.e3), (iv a1651.e4), (iv a1651.e5), (iv a1651.e6), (iv a1651.e7), (iv 0), (iv 0)] : Array Value).size) = true) h1678 (by kernel_rfl) (by kernel_rfl) (by kernel_rfl) (by kernel_rfl) (by kernel_rfl) (by kernel_rfl) (by kernel_rfl) (by kernel_rfl))
    have h1686 := (cases8 (Q := fun z_ => wrc (#[(.slice A1567 (([] : List Int) ++ p1).length c1568), (iv ((A8_Int.set a1650 x1652 ((rdD p0 (rdD p1 x1652 0) z_Tile).S)).e0)), (iv ((A8_Int.set a1650 x1652 ((rdD p0 (rdD p1 x1652 0) z_Tile).S)).e1)), (iv ((A8_Int.set a1650 x1652 ((rdD p0 (rdD p1 x1652 0) z_Tile).S)).e2)), (iv ((A8_Int.set a1650 x1652 ((rdD p0 (rdD p1 x1652 0) z_Tile).S)).e3)), (iv ((A8_Int.set a1650 x1652 ((rdD p0 (rdD p1 x1652 0) z_Tile).S)).e4)), (iv ((A8_Int.set a1650 x1652 ((rdD p0 (rdD p1 x1652 0) z_Tile).S)).e5)), (iv ((A8_Int.set a1650 x1652 ((rdD p0 (rdD p1 x1652 0) z_Tile).S)).e6)), (iv ((A8_Int.set a1650 x1652 ((rdD p0 (rdD p1 x1652 0) z_Tile).S)).e7)), (iv a1651.e0), (iv a1651.e1), (iv a1651.e2), (iv a1651.e3), (iv a1651.e4), (iv a1651.e5), (iv a1651.e6), (iv a1651.e7), (iv 0), (iv 0)] : Array Value) [(9 + z_.toNat * 1, (iv ((rdD p0 (rdD p1 x1652 0) z_Tile).N)))] = (#[(.slice A1567 (([] : List Int) ++ p1).length c1568), (iv ((A8_Int.set a1650 x1652 ((rdD p0 (rdD p1 x1652 0) z_Tile).S)).e0)), (iv ((A8_Int.set a1650 x1652 ((rdD p0 (rdD p1 x1652 0) z_Tile).S)).e1)), (iv ((A8_Int.set a1650 x1652 ((rdD p0 (rdD p1 x1652 0) z_Tile).S)).e2)), (iv ((A8_Int.set a1650 x1652 ((rdD p0 (rdD p1 x1652 0) z_Tile).S)).e3)), (iv ((A8_Int.set a1650 x1652 ((rdD p0 (rdD p1 x1652 0) z_Tile).S)).e4)), (iv ((A8_Int.set a1650 x1652 ((rdD p0 (rdD p1 x1652 0) z_Tile).S)).e5)), (iv ((A8_Int.set a1650 x1652 ((rdD p0 (rdD p1 x1652 0) z_Tile).S)).e6)), (iv ((A8_Int.set a1650 x1652 ((rdD p0 (rdD p1 x1652 0) z_Tile).S)).e7)), (iv ((A8_Int.set a1651 z_ ((rdD p0 (rdD p1 x1652 0) z_Tile).N)).e0)), (iv ((A8_Int.set a1651 z_ ((rdD p0 (rdD p1 x1652 0) z_Tile).N)).e1)), (iv ((A8_Int.set a1651 z_ ((rdD p0 (rdD p1 x1652 0) z_Tile).N)).e2)), (iv ((A8_Int.set a1651 z_ ((rdD p0 (rdD p1 x1652 0) z_Tile).N)).e3)), (iv ((A8_Int.set a1651 z_ ((rdD p0 (rdD p1 x1652 0) z_Tile).N)).e4)), (iv ((A8_Int.set a1651 z_ ((rdD p0 (rdD p1 x1652 0) z_Tile).N)).e5)), (iv ((A8_Int.set a1651 z_ ((rdD p0 (rdD p1 x1652 0) z_Tile).N)).e6)), (iv ((A8_Int.set a1651 z_ ((rdD p0 (rdD p1 x1652 0) z_Tile).N)).e7)), (iv 0), (iv 0)] : Array Value)) h1678 (by kernel_rfl) (by kernel_rfl) (by kernel_rfl) (by kernel_rfl) (by kernel_rfl) (by kernel_rfl) (by kernel_rfl) (by kernel_rfl))
    refine WL.store hS1680 0 rfl [(9 + x1652.toNat * 1, (iv ((rdD p0 (rdD p1 x1652 0) z_Tile).N)))] #[(.slice A1567 (([] : List Int) ++ p1).length c1568), (iv ((A8_Int.set a1650 x1652 ((rdD p0 (rdD p1 x1652 0) z_Tile).S)).e0)), (iv ((A8_Int.set a1650 x1652 ((rdD p0 (rdD p1 x1652 0) z_Tile).S)).e1)), (iv ((A8_Int.set a1650 x1652 ((rdD p0 (rdD p1 x1652 0) z_Tile).S)).e2)), (iv ((A8_Int.set a1650 x1652 ((rdD p0 (rdD p1 x1652 0) z_Tile).S)).e3)), (iv ((A8_Int.set a1650 x1652 ((rdD p0 (rdD p1 x1652 0) z_Tile).S)).e4)), (iv ((A8_Int.set a1650 x1652 ((rdD p0 (rdD p1 x1652 0) z_Tile).S)).e5)), (iv ((A8_Int.set a1650 x1652 ((rdD p0 (rdD p1 x1652 0) z_Tile).S)).e6)), (iv ((A8_Int.set a1650 x1652 ((rdD p0 (rdD p1 x1652 0) z_Tile).S)).e7)), (iv ((A8_Int.set a1651 x1652 ((rdD p0 (rdD p1 x1652 0) z_Tile).N)).e0)), (iv ((A8_Int.set a1651 x1652 ((rdD p0 (rdD p1 x1652 0) z_Tile).N)).e1)), (iv ((A8_Int.set a1651 x1652 ((rdD p0 (rdD p1 x1652 0) z_Tile).N)).e2)), (iv ((A8_Int.set a1651 x1652 ((rdD p0 (rdD p1 x1652 0) z_Tile).N)).e3)), (iv ((A8_Int.set a1651 x1652 ((rdD p0 (rdD p1 x1652 0) z_Tile).N)).e4)), (iv ((A8_Int.set a1651 x1652 ((rdD p0 (rdD p1 x1652 0) z_Tile).N)).e5)), (iv ((A8_Int.set a1651 x1652 ((rdD p0 (rdD p1 x1652 0) z_Tile).N)).e6)), (iv ((A8_Int.set a1651 x1652 ((rdD p0 (rdD p1 x1652 0) z_Tile).N)).e7)), (iv 0), (iv 0)] (fun fb => by kernel_rfl) h1685 h1686 [1, 2] (by decide) (by decide) (fun w1683 hS1684 => ?_)
    refine ⟨trivial, ?_⟩
    refine WL.done rfl ?_
    refine WX.blockN (WX.next ?_)
    refine WC.region ?_
    refine seg 2 [] [0, 1, 4, 5, 11, 12, 13] [(0, (.slice A_p0 p0.length c_p0)), (1, (.slice A_p1 p1.length c_p1)), (4, (pt g1561)), (5, (pt g1571)), (11, (.slice A_p1 p1.length c_p1)), (12, (iv (p1.length : Int))), (13, (iv (w64 (x1652 + 1))))] [] (fun fb => by kernel_rfl) rfl trivial ?_
    refine WL.done rfl ?_
    exact WX.again k1657 (Nat.lt_succ_self _) ((A8_Int.set a1650 x1652 ((rdD p0 (rdD p1 x1652 0) z_Tile).S)), (A8_Int.set a1651 x1652 ((rdD p0 (rdD p1 x1652 0) z_Tile).N)), w64 (x1652 + 1)) [0, 1, 4, 5, 11, 12, 13] rfl ⟨(hS1684.subR [0, 1]).sub [1, 0, 2] (by decide), hl1660⟩
   refine WC.condF2 (fun fb => by kernel_rfl) h1661 ?_
   refine WC.exit ?_
   injection hl1660 with hl1660
   exact WX.thenX (WX.thenX (WX.blockHere (WX.to Kx1655 (a1650, a1651) [0, 1, 4, 5] rfl ⟨(hS1659.subR [0, 1]).sub [0, 1, 2] (by decide), hl1660.symm⟩)))
 rintro y1690 w1687 ⟨hS1688, hq1689⟩
 subst hq1689
 refine WX.next ?_
 refine WC.seq ?_
 obtain ⟨h1705, hf⟩ := as_some hf
 obtain ⟨h1706, hf⟩ := as_some hf
 obtain ⟨h1707, hf⟩ := as_some hf
 obtain ⟨h1708, hf⟩ := as_some hf
 refine WC.regionD ([(3, ((adr A_p1).add (((0 : Int)).toNat * 1)), (iv (rdD p1 (0 : Int) 0))), (6, (((adr A_p0).add (((rdD p1 (0 : Int) 0)).toNat * 4)).add 3), (iv ((rdD p0 (rdD p1 (0 : Int) 0) z_Tile).W))), (13, ((adr A_p1).add ((w64 ((p1.length : Int) - 1)).toNat * 1)), (iv (rdD p1 (w64 ((p1.length : Int) - 1)) 0))), (16, (((adr A_p0).add (((rdD p1 (w64 ((p1.length : Int) - 1)) 0)).toNat * 4)).add 1), (iv ((rdD p0 (rdD p1 (w64 ((p1.length : Int) - 1)) 0) z_Tile).E)))], [0, 1, 2, 3, 4, 5, 6, 7, 8, 9, 10, 11, 12, 13, 14, 15, 16, 17, 19], [[], [], [1], [1, 2], [0, 1, 2, 3], [0, 1, 2, 3, 4], [0, 1, 2, 3, 4, 5], [], [], [], [9], [9, 10], [8, 9, 10, 11], [8, 9, 10, 11, 12], [7, 8, 9, 10, 11, 12, 13], [7, 8, 9, 10, 11, 12, 13, 14], [7, 8, 9, 10, 11, 12, 13, 14, 15], [0, 1, 2, 3, 4, 5, 6], [0, 1, 2, 3, 4, 5, 6, 17], [0, 1, 2, 3, 4, 5, 6, 7, 8, 9, 10, 11, 12, 13, 14, 15, 16, 17, 18], [0, 1, 2, 3, 4, 5, 6, 7, 8, 9, 10, 11, 12, 13, 14, 15, 16, 17, 18, 19]]) [[0, 1, 2, 3, 4, 5, 6, 7, 8, 9, 10, 11, 12, 13, 14, 15, 16, 17, 18, 19, 20]] (by kernel_rfl) (by kernel_rfl) (NoPanic.seq (NoPanic.body)) ?_
 have hS1700 := hS1688.drew
 revert hS1700
 generalize World.drew w1687 = w1699
 intro hS1700
 refine ⟨⟨rowR.cell (hS1700.rd 1).1 0 h1705.1 h1705.2 0 rfl, rowR.cell (hS1700.rd 0).1 z_Tile h1706.1 h1706.2 3 rfl, rowR.cell (hS1700.rd 1).1 0 h1707.1 h1707.2 0 rfl, rowR.cell (hS1700.rd 0).1 z_Tile h1708.1 h1708.2 1 rfl, trivial⟩, forallC ?_ (forallN)⟩
 refine segF 18 [.v (iv (rdD p1 (0 : Int) 0)), .v (iv ((rdD p0 (rdD p1 (0 : Int) 0) z_Tile).W)), .v (iv (rdD p1 (w64 ((p1.length : Int) - 1)) 0)), .v (iv ((rdD p0 (rdD p1 (w64 ((p1.length : Int) - 1)) 0) z_Tile).E))] [4, 5, 41, 51, 52] [(4, (pt g1561)), (5, (pt g1571)), (41, (iv ((rdD p0 (rdD p1 (0 : Int) 0) z_Tile).W))), (51, (iv ((rdD p0 (rdD p1 (w64 ((p1.length : Int) - 1)) 0) z_Tile).E))), (52, (.pointer (some ⟨g1571, 17, none⟩)))] [.idx A_p1 (0 : Int) p1.length, .idx A_p0 (rdD p1 (0 : Int) 0) p0.length, .idx A_p1 (w64 ((p1.length : Int) - 1)) p1.length, .idx A_p0 (rdD p1 (w64 ((p1.length : Int) - 1)) 0) p0.length] [0, 1, 2, 3] [(3, ((adr A_p1).add (((0 : Int)).toNat * 1)), (iv (rdD p1 (0 : Int) 0))), (6, (((adr A_p0).add (((rdD p1 (0 : Int) 0)).toNat * 4)).add 3), (iv ((rdD p0 (rdD p1 (0 : Int) 0) z_Tile).W))), (13, ((adr A_p1).add ((w64 ((p1.length : Int) - 1)).toNat * 1)), (iv (rdD p1 (w64 ((p1.length : Int) - 1)) 0))), (16, (((adr A_p0).add (((rdD p1 (w64 ((p1.length : Int) - 1)) 0)).toNat * 4)).add 1), (iv ((rdD p0 (rdD p1 (w64 ((p1.length : Int) - 1)) 0) z_Tile).E)))] (fun fb => by kernel_rfl) rfl ⟨rowR.adr (hS1700.rd 1).1 h1705.1 h1705.2, rowR.adr (hS1700.rd 0).1 h1706.1 h1706.2, rowR.adr (hS1700.rd 1).1 h1707.1 h1707.2, rowR.adr (hS1700.rd 0).1 h1708.1 h1708.2, trivial⟩ rfl ?_
 refine WL.store hS1700 1 rfl [(17, (iv ((rdD p0 (rdD p1 (0 : Int) 0) z_Tile).W)))] #[(.slice A1567 (([] : List Int) ++ p1).length c1568), (iv x1655.1.e0), (iv x1655.1.e1), (iv x1655.1.e2), (iv x1655.1.e3), (iv x1655.1.e4), (iv x1655.1.e5), (iv x1655.1.e6), (iv x1655.1.e7), (iv x1655.2.e0), (iv x1655.2.e1), (iv x1655.2.e2), (iv x1655.2.e3), (iv x1655.2.e4), (iv x1655.2.e5), (iv x1655.2.e6), (iv x1655.2.e7), (iv ((rdD p0 (rdD p1 (0 : Int) 0) z_Tile).W)), (iv 0)] (fun fb => by kernel_rfl) (by kernel_rfl) (by kernel_rfl) [0, 2] (by decide) (by decide) (fun w1709 hS1710 => ?_)
 refine ⟨⟨rowR.cell (hS1710.rd 1).1 0 h1707.1 h1707.2 0 rfl, rowR.cell (hS1710.rd 0).1 z_Tile h1708.1 h1708.2 1 rfl, trivial⟩, ?_⟩
 refine seg 20 [] [4, 5, 51, 53] [(4, (pt g1561)), (5, (pt g1571)), (51, (iv ((rdD p0 (rdD p1 (w64 ((p1.length : Int) - 1)) 0) z_Tile).E))), (53, (.pointer (some ⟨g1571, 18, none⟩)))] [] (fun fb => by kernel_rfl) rfl trivial ?_
 refine WL.store hS1710 0 rfl [(18, (iv ((rdD p0 (rdD p1 (w64 ((p1.length : Int) - 1)) 0) z_Tile).E)))] #[(.slice A1567 (([] : List Int) ++ p1).length c1568), (iv x1655.1.e0), (iv x1655.1.e1), (iv x1655.1.e2), (iv x1655.1.e3), (iv x1655.1.e4), (iv x1655.1.e5), (iv x1655.1.e6), (iv x1655.1.e7), (iv x1655.2.e0), (iv x1655.2.e1), (iv x1655.2.e2), (iv x1655.2.e3), (iv x1655.2.e4), (iv x1655.2.e5), (iv x1655.2.e6), (iv x1655.2.e7), (iv ((rdD p0 (rdD p1 (0 : Int) 0) z_Tile).W)), (iv ((rdD p0 (rdD p1 (w64 ((p1.length : Int) - 1)) 0) z_Tile).E))] (fun fb => by kernel_rfl) (by kernel_rfl) (by kernel_rfl) [1, 2] (by decide) (by decide) (fun w1711 hS1712 => ?_)
 refine ⟨trivial, ?_⟩
 refine WL.done rfl ?_
 refine WX.next ?_
 refine WC.seq ?_
 refine WC.region ?_
 refine seg 1 [.v (.slice A1567 (([] : List Int) ++ p1).length c1568), .v (iv x1655.1.e0), .v (iv x1655.1.e1), .v (iv x1655.1.e2), .v (iv x1655.1.e3), .v (iv x1655.1.e4), .v (iv x1655.1.e5), .v (iv x1655.1.e6), .v (iv x1655.1.e7), .v (iv x1655.2.e0), .v (iv x1655.2.e1), .v (iv x1655.2.e2), .v (iv x1655.2.e3), .v (iv x1655.2.e4), .v (iv x1655.2.e5), .v (iv x1655.2.e6), .v (iv x1655.2.e7), .v (iv ((rdD p0 (rdD p1 (0 : Int) 0) z_Tile).W)), .v (iv ((rdD p0 (rdD p1 (w64 ((p1.length : Int) - 1)) 0) z_Tile).E))] [4, 54] [(4, (pt g1561)), (54, (.agg #[(.slice A1567 (([] : List Int) ++ p1).length c1568), (iv x1655.1.e0), (iv x1655.1.e1), (iv x1655.1.e2), (iv x1655.1.e3), (iv x1655.1.e4), (iv x1655.1.e5), (iv x1655.1.e6), (iv x1655.1.e7), (iv x1655.2.e0), (iv x1655.2.e1), (iv x1655.2.e2), (iv x1655.2.e3), (iv x1655.2.e4), (iv x1655.2.e5), (iv x1655.2.e6), (iv x1655.2.e7), (iv ((rdD p0 (rdD p1 (0 : Int) 0) z_Tile).W)), (iv ((rdD p0 (rdD p1 (w64 ((p1.length : Int) - 1)) 0) z_Tile).E))]))] [.cell ⟨g1571, 0, none⟩ (.slice A1567 (([] : List Int) ++ p1).length c1568), .cell ⟨g1571, 1, none⟩ (iv x1655.1.e0), .cell ⟨g1571, 2, none⟩ (iv x1655.1.e1), .cell ⟨g1571, 3, none⟩ (iv x1655.1.e2), .cell ⟨g1571, 4, none⟩ (iv x1655.1.e3), .cell ⟨g1571, 5, none⟩ (iv x1655.1.e4), .cell ⟨g1571, 6, none⟩ (iv x1655.1.e5), .cell ⟨g1571, 7, none⟩ (iv x1655.1.e6), .cell ⟨g1571, 8, none⟩ (iv x1655.1.e7), .cell ⟨g1571, 9, none⟩ (iv x1655.2.e0), .cell ⟨g1571, 10, none⟩ (iv x1655.2.e1), .cell ⟨g1571, 11, none⟩ (iv x1655.2.e2), .cell ⟨g1571, 12, none⟩ (iv x1655.2.e3), .cell ⟨g1571, 13, none⟩ (iv x1655.2.e4), .cell ⟨g1571, 14, none⟩ (iv x1655.2.e5), .cell ⟨g1571, 15, none⟩ (iv x1655.2.e6), .cell ⟨g1571, 16, none⟩ (iv x1655.2.e7), .cell ⟨g1571, 17, none⟩ (iv ((rdD p0 (rdD p1 (0 : Int) 0) z_Tile).W)), .cell ⟨g1571, 18, none⟩ (iv ((rdD p0 (rdD p1 (w64 ((p1.length : Int) - 1)) 0) z_Tile).E))] (fun fb => by kernel_rfl) rfl ⟨hS1712.cell 0 rfl 0 rfl, hS1712.cell 0 rfl 1 rfl, hS1712.cell 0 rfl 2 rfl, hS1712.cell 0 rfl 3 rfl, hS1712.cell 0 rfl 4 rfl, hS1712.cell 0 rfl 5 rfl, hS1712.cell 0 rfl 6 rfl, hS1712.cell 0 rfl 7 rfl, hS1712.cell 0 rfl 8 rfl, hS1712.cell 0 rfl 9 rfl, hS1712.cell 0 rfl 10 rfl, hS1712.cell 0 rfl 11 rfl, hS1712.cell 0 rfl 12 rfl, hS1712.cell 0 rfl 13 rfl, hS1712.cell 0 rfl 14 rfl, hS1712.cell 0 rfl 15 rfl, hS1712.cell 0 rfl 16 rfl, hS1712.cell 0 rfl 17 rfl, hS1712.cell 0 rfl 18 rfl, trivial⟩ ?_
 refine WL.store hS1712 1 rfl [(0, (.slice A1567 (([] : List Int) ++ p1).length c1568)), (1, (iv x1655.1.e0)), (2, (iv x1655.1.e1)), (3, (iv x1655.1.e2)), (4, (iv x1655.1.e3)), (5, (iv x1655.1.e4)), (6, (iv x1655.1.e5)), (7, (iv x1655.1.e6)), (8, (iv x1655.1.e7)), (9, (iv x1655.2.e0)), (10, (iv x1655.2.e1)), (11, (iv x1655.2.e2)), (12, (iv x1655.2.e3)), (13, (iv x1655.2.e4)), (14, (iv x1655.2.e5)), (15, (iv x1655.2.e6)), (16, (iv x1655.2.e7)), (17, (iv ((rdD p0 (rdD p1 (0 : Int) 0) z_Tile).W))), (18, (iv ((rdD p0 (rdD p1 (w64 ((p1.length : Int) - 1)) 0) z_Tile).E)))] #[(.slice A1567 (([] : List Int) ++ p1).length c1568), (iv x1655.1.e0), (iv x1655.1.e1), (iv x1655.1.e2), (iv x1655.1.e3), (iv x1655.1.e4), (iv x1655.1.e5), (iv x1655.1.e6), (iv x1655.1.e7), (iv x1655.2.e0), (iv x1655.2.e1), (iv x1655.2.e2), (iv x1655.2.e3), (iv x1655.2.e4), (iv x1655.2.e5), (iv x1655.2.e6), (iv x1655.2.e7), (iv ((rdD p0 (rdD p1 (0 : Int) 0) z_Tile).W)), (iv ((rdD p0 (rdD p1 (w64 ((p1.length : Int) - 1)) 0) z_Tile).E))] (fun fb => by kernel_rfl) (by kernel_rfl) (by kernel_rfl) [0, 2] (by decide) (by decide) (fun w1713 hS1714 => ?_)
 refine ⟨trivial, ?_⟩
 refine WL.done rfl ?_
 refine WX.next ?_
 refine WC.ret ?_
 injection hf with hf
 subst hf
 exact WX.ret_ [.v (.slice A1567 (([] : List Int) ++ p1).length c1568), .v (iv x1655.1.e0), .v (iv x1655.1.e1), .v (iv x1655.1.e2), .v (iv x1655.1.e3), .v (iv x1655.1.e4), .v (iv x1655.1.e5), .v (iv x1655.1.e6), .v (iv x1655.1.e7), .v (iv x1655.2.e0), .v (iv x1655.2.e1), .v (iv x1655.2.e2), .v (iv x1655.2.e3), .v (iv x1655.2.e4), .v (iv x1655.2.e5), .v (iv x1655.2.e6), .v (iv x1655.2.e7), .v (iv ((rdD p0 (rdD p1 (0 : Int) 0) z_Tile).W)), .v (iv ((rdD p0 (rdD p1 (w64 ((p1.length : Int) - 1)) 0) z_Tile).E))] (.agg #[(.slice A1567 (([] : List Int) ++ p1).length c1568), (iv x1655.1.e0), (iv x1655.1.e1), (iv x1655.1.e2), (iv x1655.1.e3), (iv x1655.1.e4), (iv x1655.1.e5), (iv x1655.1.e6), (iv x1655.1.e7), (iv x1655.2.e0), (iv x1655.2.e1), (iv x1655.2.e2), (iv x1655.2.e3), (iv x1655.2.e4), (iv x1655.2.e5), (iv x1655.2.e6), (iv x1655.2.e7), (iv ((rdD p0 (rdD p1 (0 : Int) 0) z_Tile).W)), (iv ((rdD p0 (rdD p1 (w64 ((p1.length : Int) - 1)) 0) z_Tile).E))]) [.cell ⟨g1561, 0, none⟩ (.slice A1567 (([] : List Int) ++ p1).length c1568), .cell ⟨g1561, 1, none⟩ (iv x1655.1.e0), .cell ⟨g1561, 2, none⟩ (iv x1655.1.e1), .cell ⟨g1561, 3, none⟩ (iv x1655.1.e2), .cell ⟨g1561, 4, none⟩ (iv x1655.1.e3), .cell ⟨g1561, 5, none⟩ (iv x1655.1.e4), .cell ⟨g1561, 6, none⟩ (iv x1655.1.e5), .cell ⟨g1561, 7, none⟩ (iv x1655.1.e6), .cell ⟨g1561, 8, none⟩ (iv x1655.1.e7), .cell ⟨g1561, 9, none⟩ (iv x1655.2.e0), .cell ⟨g1561, 10, none⟩ (iv x1655.2.e1), .cell ⟨g1561, 11, none⟩ (iv x1655.2.e2), .cell ⟨g1561, 12, none⟩ (iv x1655.2.e3), .cell ⟨g1561, 13, none⟩ (iv x1655.2.e4), .cell ⟨g1561, 14, none⟩ (iv x1655.2.e5), .cell ⟨g1561, 15, none⟩ (iv x1655.2.e6), .cell ⟨g1561, 16, none⟩ (iv x1655.2.e7), .cell ⟨g1561, 17, none⟩ (iv ((rdD p0 (rdD p1 (0 : Int) 0) z_Tile).W)), .cell ⟨g1561, 18, none⟩ (iv ((rdD p0 (rdD p1 (w64 ((p1.length : Int) - 1)) 0) z_Tile).E))] (fun fb => by kernel_rfl) ⟨hS1714.cell 0 rfl 0 rfl, hS1714.cell 0 rfl 1 rfl, hS1714.cell 0 rfl 2 rfl, hS1714.cell 0 rfl 3 rfl, hS1714.cell 0 rfl 4 rfl, hS1714.cell 0 rfl 5 rfl, hS1714.cell 0 rfl 6 rfl, hS1714.cell 0 rfl 7 rfl, hS1714.cell 0 rfl 8 rfl, hS1714.cell 0 rfl 9 rfl, hS1714.cell 0 rfl 10 rfl, hS1714.cell 0 rfl 11 rfl, hS1714.cell 0 rfl 12 rfl, hS1714.cell 0 rfl 13 rfl, hS1714.cell 0 rfl 14 rfl, hS1714.cell 0 rfl 15 rfl, hS1714.cell 0 rfl 16 rfl, hS1714.cell 0 rfl 17 rfl, hS1714.cell 0 rfl 18 rfl, trivial⟩ ⟨_, rfl, A1567, c1568, rfl, (hS1714.sub [2] (by decide)).noR⟩
theorem rows_All_1_calls : ∀ (k : Nat) (p0 : Int) (f0 : Int) (f1 : List Row) (f2 : List Tile) (f3 : List Int) (g_f0 : Nat) (g_f1 : Nat) (A_f1 : Option Addr) (c_f1 : Nat) (H_f1 : Nat → HF) (g_f2 : Nat) (A_f2 : Option Addr) (c_f2 : Nat) (g_f3 : Nat) (A_f3 : Option Addr) (c_f3 : Nat) (g_f4 : Nat) (r : (List Row) × (List Int)) (w : World) (hR0 : RO (fpL [blk g_f1 (.cells #[(.slice A_f1 f1.length c_f1)] 82 (0, 0)), rowO 88 encN_Row A_f1 c_f1 (tag H_f1 f1), poolO [nestO subN_Row H_f1 f1], blk g_f3 (.cells #[(.slice A_f3 f3.length c_f3)] 36 (0, 0)), rowO 3 encInt A_f3 c_f3 f3]) w (blk g_f0 (.cells #[(iv f0)] 3 (0, 0)))) (hR1 : RO (fpL [blk g_f1 (.cells #[(.slice A_f1 f1.length c_f1)] 82 (0, 0)), rowO 88 encN_Row A_f1 c_f1 (tag H_f1 f1), poolO [nestO subN_Row H_f1 f1], blk g_f3 (.cells #[(.slice A_f3 f3.length c_f3)] 36 (0, 0)), rowO 3 encInt A_f3 c_f3 f3]) w (blk g_f2 (.cells #[(.slice A_f2 f2.length c_f2)] 22 (0, 0)))) (hR2 : RO (fpL [blk g_f1 (.cells #[(.slice A_f1 f1.length c_f1)] 82 (0, 0)), rowO 88 encN_Row A_f1 c_f1 (tag H_f1 f1), poolO [nestO subN_Row H_f1 f1], blk g_f3 (.cells #[(.slice A_f3 f3.length c_f3)] 36 (0, 0)), rowO 3 encInt A_f3 c_f3 f3]) w (rowR enc_Tile A_f2 c_f2 f2)) (hR3 : RO (fpL [blk g_f1 (.cells #[(.slice A_f1 f1.length c_f1)] 82 (0, 0)), rowO 88 encN_Row A_f1 c_f1 (tag H_f1 f1), poolO [nestO subN_Row H_f1 f1], blk g_f3 (.cells #[(.slice A_f3 f3.length c_f3)] 36 (0, 0)), rowO 3 encInt A_f3 c_f3 f3]) w (blk g_f4 (.cells #[(.func (.func 82) #[] #[(.pointer (some ⟨g_f0, 0, none⟩)), (.pointer (some ⟨g_f1, 0, none⟩)), (.pointer (some ⟨g_f2, 0, none⟩)), (.pointer (some ⟨g_f3, 0, none⟩)), (.pointer (some ⟨g_f4, 0, none⟩))])] 115 (0, 0)))) (hI : IoOK w [blk g_f1 (.cells #[(.slice A_f1 f1.length c_f1)] 82 (0, 0)), rowO 88 encN_Row A_f1 c_f1 (tag H_f1 f1), poolO [nestO subN_Row H_f1 f1], blk g_f3 (.cells #[(.slice A_f3 f3.length c_f3)] 36 (0, 0)), rowO 3 encInt A_f3 c_f3 f3]) (hf : rows_All_1 k p0 f0 f1 f2 f3 = some r),
  CallsR Try.prog 82 #[(iv p0), (.pointer (some ⟨g_f0, 0, none⟩)), (.pointer (some ⟨g_f1, 0, none⟩)), (.pointer (some ⟨g_f2, 0, none⟩)), (.pointer (some ⟨g_f3, 0, none⟩)), (.pointer (some ⟨g_f4, 0, none⟩))] w (fun v w' => ∃ (A1_ : Option Addr), ∃ (c1_ : Nat), ∃ (h1_ : Nat → HF), ∃ (A2_ : Option Addr), ∃ (c2_ : Nat), v = (.tuple #[]) ∧ St (fpL [blk g_f1 (.cells #[(.slice A_f1 f1.length c_f1)] 82 (0, 0)), rowO 88 encN_Row A_f1 c_f1 (tag H_f1 f1), poolO [nestO subN_Row H_f1 f1], blk g_f3 (.cells #[(.slice A_f3 f3.length c_f3)] 36 (0, 0)), rowO 3 encInt A_f3 c_f3 f3]) w w' [] [blk g_f1 (.cells #[(.slice A1_ r.1.length c1_)] 82 (0, 0)), rowO 88 encN_Row A1_ c1_ (tag h1_ r.1), poolO [nestO subN_Row h1_ r.1], blk g_f3 (.cells #[(.slice A2_ r.2.length c2_)] 36 (0, 0)), rowO 3 encInt A2_ c2_ r.2]) := by
 intro k
 induction k with
 | zero => intro p0 f0 f1 f2 f3 g_f0 g_f1 A_f1 c_f1 H_f1 g_f2 A_f2 c_f2 g_f3 A_f3 c_f3 g_f4 r w hR0 hR1 hR2 hR3 hI hf; rw [rows_All_1] at hf; cases hf
 | succ k ih_ =>
 intro p0 f0 f1 f2 f3 g_f0 g_f1 A_f1 c_f1 H_f1 g_f2 A_f2 c_f2 g_f3 A_f3 c_f3 g_f4 r w hR0 hR1 hR2 hR3 hI hf
 have hS : St (fpL [blk g_f1 (.cells #[(.slice A_f1 f1.length c_f1)] 82 (0, 0)), rowO 88 encN_Row A_f1 c_f1 (tag H_f1 f1), poolO [nestO subN_Row H_f1 f1], blk g_f3 (.cells #[(.slice A_f3 f3.length c_f3)] 36 (0, 0)), rowO 3 encInt A_f3 c_f3 f3]) w w [blk g_f0 (.cells #[(iv f0)] 3 (0, 0)), blk g_f2 (.cells #[(.slice A_f2 f2.length c_f2)] 22 (0, 0)), rowR enc_Tile A_f2 c_f2 f2, blk g_f4 (.cells #[(.func (.func 82) #[] #[(.pointer (some ⟨g_f0, 0, none⟩)), (.pointer (some ⟨g_f1, 0, none⟩)), (.pointer (some ⟨g_f2, 0, none⟩)), (.pointer (some ⟨g_f3, 0, none⟩)), (.pointer (some ⟨g_f4, 0, none⟩))])] 115 (0, 0))] [blk g_f1 (.cells #[(.slice A_f1 f1.length c_f1)] 82 (0, 0)), rowO 88 encN_Row A_f1 c_f1 (tag H_f1 f1), poolO [nestO subN_Row H_f1 f1], blk g_f3 (.cells #[(.slice A_f3 f3.length c_f3)] 36 (0, 0)), rowO 3 encInt A_f3 c_f3 f3] := St.initIO (ro_cons hR0 (ro_cons hR1 (ro_cons hR2 (ro_cons hR3 (ro_nil _ _))))) hI
 rw [rows_All_1] at hf
 generalize rows_All_1 k = rc_ at hf ih_
 refine enter 50 Try.func82 rfl Try.ntmps82 rfl ?_
 refine WC.seq ?_
 refine WC.seq ?_
 refine WC.region ?_
 refine seg 3 [.v (iv f0)] [0, 2, 3, 4, 5, 11] [(0, (iv p0)), (2, (.pointer (some ⟨g_f1, 0, none⟩))), (3, (.pointer (some ⟨g_f2, 0, none⟩))), (4, (.pointer (some ⟨g_f3, 0, none⟩))), (5, (.pointer (some ⟨g_f4, 0, none⟩))), (11, (.bool (p0 == f0)))] [.cell ⟨g_f0, 0, none⟩ (iv f0)] (fun fb => by kernel_rfl) rfl ⟨blk_cell (hS.rd 0).1 0 rfl, trivial⟩ ?_
 refine WL.done rfl ?_
 refine WX.next ?_
 rcases br_some hf with ⟨h1894, hf⟩ | ⟨h1894, hf⟩
 ·refine WC.condT2 (fun fb => by kernel_rfl) h1894 ?_
  refine WC.seq ?_
  refine WC.regionD ([(0, ⟨g_f1, 0, none⟩, (.slice A_f1 f1.length c_f1)), (1, ⟨g_f2, 0, none⟩, (.slice A_f2 f2.length c_f2)), (2, ⟨g_f3, 0, none⟩, (.slice A_f3 f3.length c_f3))], [0, 1, 2], [[], [], [], [1, 2], [1, 2, 3], [0, 1, 2, 3, 4], [0, 1, 2, 3, 4, 5]]) [[0, 1, 2, 3, 4, 5, 6]] (by kernel_rfl) (by kernel_rfl) (NoPanic.seq (NoPanic.seq (NoPanic.body))) ?_
  have hS1916 := hS.drew
  revert hS1916
  generalize World.drew w = w1915
  intro hS1916
  refine ⟨⟨hS1916.cell 0 rfl 0 rfl, blk_cell (hS1916.rd 1).1 0 rfl, hS1916.cell 3 rfl 0 rfl, trivial⟩, forallC ?_ (forallN)⟩
  refine segF 3 [.v (.slice A_f1 f1.length c_f1), .v (.slice A_f2 f2.length c_f2), .v (.slice A_f3 f3.length c_f3)] [2, 4, 12, 13, 14] [(2, (.pointer (some ⟨g_f1, 0, none⟩))), (4, (.pointer (some ⟨g_f3, 0, none⟩))), (12, (.slice A_f1 f1.length c_f1)), (13, (.slice A_f2 f2.length c_f2)), (14, (.slice A_f3 f3.length c_f3))] [] [0, 1, 2] [(0, ⟨g_f1, 0, none⟩, (.slice A_f1 f1.length c_f1)), (1, ⟨g_f2, 0, none⟩, (.slice A_f2 f2.length c_f2)), (2, ⟨g_f3, 0, none⟩, (.slice A_f3 f3.length c_f3))] (fun fb => by kernel_rfl) rfl trivial rfl ?_
  obtain ⟨t1917, ht1918, hf⟩ := bind_some hf
  refine WL.call (some 15) 83 #[(.slice A_f2 f2.length c_f2), (.slice A_f3 f3.length c_f3)] (fun fb => by kernel_rfl) (rows_rowOf_calls _ f2 f3 A_f2 c_f2 A_f3 c_f3 t1917 _ (hS1916.rd 2) (hS1916.ow 4).ofO ht1918) (fun v w1919 hR1920 => ?_)
  obtain ⟨A1922, c1923, rfl, hk_⟩ := hR1920
  have hS1921 : St (fpL [blk g_f1 (.cells #[(.slice A_f1 f1.length c_f1)] 82 (0, 0)), rowO 88 encN_Row A_f1 c_f1 (tag H_f1 f1), poolO [nestO subN_Row H_f1 f1], blk g_f3 (.cells #[(.slice A_f3 f3.length c_f3)] 36 (0, 0)), rowO 3 encInt A_f3 c_f3 f3]) w w1919 [blk g_f0 (.cells #[(iv f0)] 3 (0, 0)), blk g_f2 (.cells #[(.slice A_f2 f2.length c_f2)] 22 (0, 0)), rowR enc_Tile A_f2 c_f2 f2, blk g_f4 (.cells #[(.func (.func 82) #[] #[(.pointer (some ⟨g_f0, 0, none⟩)), (.pointer (some ⟨g_f1, 0, none⟩)), (.pointer (some ⟨g_f2, 0, none⟩)), (.pointer (some ⟨g_f3, 0, none⟩)), (.pointer (some ⟨g_f4, 0, none⟩))])] 115 (0, 0))] [rowO 3 encInt A1922 c1923 t1917.Cells, blk g_f1 (.cells #[(.slice A_f1 f1.length c_f1)] 82 (0, 0)), rowO 88 encN_Row A_f1 c_f1 (tag H_f1 f1), poolO [nestO subN_Row H_f1 f1], blk g_f3 (.cells #[(.slice A_f3 f3.length c_f3)] 36 (0, 0)), rowO 3 encInt A_f3 c_f3 f3] := hS1916.call hk_ [] [0, 1, 2, 3, 4] (fun g hg => hg.elim) (by simp) (by decide)
  refine ⟨⟨hS1921.cell 1 rfl 0 rfl, trivial⟩, ?_⟩
  refine WL.new hS1921 16 [] (fun g => (.slice (some ⟨g, 0, none⟩) 1 1)) (.cells #[(.slice A1922 t1917.Cells.length c1923), (iv t1917.South.e0), (iv t1917.South.e1), (iv t1917.South.e2), (iv t1917.South.e3), (iv t1917.South.e4), (iv t1917.South.e5), (iv t1917.South.e6), (iv t1917.South.e7), (iv t1917.North.e0), (iv t1917.North.e1), (iv t1917.North.e2), (iv t1917.North.e3), (iv t1917.North.e4), (iv t1917.North.e5), (iv t1917.North.e6), (iv t1917.North.e7), (iv t1917.West), (iv t1917.East)] 88 (0, 0)) [] (fun fb g => by kernel_rfl) trivial (fun g1924 w1925 hS1926 => ?_)
  refine ⟨⟨hS1926.cell 2 rfl 0 rfl, trivial⟩, ?_⟩
  have hS1928 : St (fpL [blk g_f1 (.cells #[(.slice A_f1 f1.length c_f1)] 82 (0, 0)), rowO 88 encN_Row A_f1 c_f1 (tag H_f1 f1), poolO [nestO subN_Row H_f1 f1], blk g_f3 (.cells #[(.slice A_f3 f3.length c_f3)] 36 (0, 0)), rowO 3 encInt A_f3 c_f3 f3]) w w1925 [blk g_f0 (.cells #[(iv f0)] 3 (0, 0)), blk g_f2 (.cells #[(.slice A_f2 f2.length c_f2)] 22 (0, 0)), rowR enc_Tile A_f2 c_f2 f2, blk g_f4 (.cells #[(.func (.func 82) #[] #[(.pointer (some ⟨g_f0, 0, none⟩)), (.pointer (some ⟨g_f1, 0, none⟩)), (.pointer (some ⟨g_f2, 0, none⟩)), (.pointer (some ⟨g_f3, 0, none⟩)), (.pointer (some ⟨g_f4, 0, none⟩))])] 115 (0, 0))] [rowO 88 encN_Row (some ⟨g1924, 0, none⟩) 1 [((hd1 A1922 c1923), t1917)], rowO 3 encInt A1922 c1923 t1917.Cells, blk g_f1 (.cells #[(.slice A_f1 f1.length c_f1)] 82 (0, 0)), rowO 88 encN_Row A_f1 c_f1 (tag H_f1 f1), poolO [nestO subN_Row H_f1 f1], blk g_f3 (.cells #[(.slice A_f3 f3.length c_f3)] 36 (0, 0)), rowO 3 encInt A_f3 c_f3 f3] := hS1926.map1 0 _ (fun h => rowO.ofBlk h rfl (Nat.le_of_ble_eq_true (by kernel_rfl))) (fun _ h => by obtain ⟨_, h1, h2⟩ := h; injection h1 with h1; subst h1; exact h2) [1, 2, 3, 4, 5, 6] (by decide) (by decide)
  obtain ⟨h1929, hf⟩ := as_some hf
  refine WL.appendN hS1928 3 (d := 17) (tS := 82) (z := (.agg #[(.slice none 0 0), (iv 0), (iv 0), (iv 0), (iv 0), (iv 0), (iv 0), (iv 0), (iv 0), (iv 0), (iv 0), (iv 0), (iv 0), (iv 0), (iv 0), (iv 0), (iv 0), (iv 0), (iv 0)])) (bytes := 168) (c2 := 1) (hx := (hd1 A1922 c1923)) (x := t1917) rfl (fun fb => by kernel_rfl) (rowO.rd (hS1928.own 0).1) (by kernel_rfl) (by kernel_rfl) rfl (by decide) h1929 (by decide) [0, 1, 2, 4, 5, 6] (by decide) (by decide) (fun A1930 c1931 w1932 hS1933 => ?_)
  have hS1934 : St (fpL [blk g_f1 (.cells #[(.slice A_f1 f1.length c_f1)] 82 (0, 0)), rowO 88 encN_Row A_f1 c_f1 (tag H_f1 f1), poolO [nestO subN_Row H_f1 f1], blk g_f3 (.cells #[(.slice A_f3 f3.length c_f3)] 36 (0, 0)), rowO 3 encInt A_f3 c_f3 f3]) w w1932 [blk g_f0 (.cells #[(iv f0)] 3 (0, 0)), blk g_f2 (.cells #[(.slice A_f2 f2.length c_f2)] 22 (0, 0)), rowR enc_Tile A_f2 c_f2 f2, blk g_f4 (.cells #[(.func (.func 82) #[] #[(.pointer (some ⟨g_f0, 0, none⟩)), (.pointer (some ⟨g_f1, 0, none⟩)), (.pointer (some ⟨g_f2, 0, none⟩)), (.pointer (some ⟨g_f3, 0, none⟩)), (.pointer (some ⟨g_f4, 0, none⟩))])] 115 (0, 0))] [poolO [nestO subN_Row (updH H_f1 f1.length (hd1 A1922 c1923)) (f1 ++ [t1917])], rowO 88 encN_Row A1930 c1931 (tag (updH H_f1 f1.length (hd1 A1922 c1923)) (f1 ++ [t1917])), rowO 88 encN_Row (some ⟨g1924, 0, none⟩) 1 [((hd1 A1922 c1923), t1917)], blk g_f1 (.cells #[(.slice A_f1 f1.length c_f1)] 82 (0, 0)), blk g_f3 (.cells #[(.slice A_f3 f3.length c_f3)] 36 (0, 0)), rowO 3 encInt A_f3 c_f3 f3] := hS1933.poolPush 4 rfl 0 (by simp) rfl (hd1 A1922 c1923) t1917 (hS1933.ow 2).ofO [2] (fun g hg => ⟨2, by simp, rowO.fpR (hS1933.own 2).1 g hg⟩) _ rfl [0, 1, 3, 5, 6] (by decide) (by decide)
  refine ⟨trivial, ?_⟩
  refine WL.store hS1934 3 rfl [(0, (.slice A1930 (f1 ++ [t1917]).length c1931))] #[(.slice A1930 (f1 ++ [t1917]).length c1931)] (fun fb => by kernel_rfl) (by kernel_rfl) rfl [0, 1, 2, 4, 5] (by decide) (by decide) (fun w1935 hS1936 => ?_)
  refine ⟨trivial, ?_⟩
  refine WL.done rfl ?_
  refine WX.next ?_
  refine WC.ret ?_
  injection hf with hf
  subst hf
  exact WX.thenR (WX.ret_ [] (.tuple #[]) [] (fun fb => by kernel_rfl) trivial ⟨_, rfl, A1930, c1931, (updH H_f1 f1.length (hd1 A1922 c1923)), A_f3, c_f3, rfl, (hS1936.sub [0, 2, 1, 4, 5] (by decide)).noR⟩)
 refine WC.condF2 (fun fb => by kernel_rfl) h1894 ?_
 refine WC.skip ?_
 refine WX.next ?_
 refine WC.seq ?_
 refine WC.region ?_
 refine seg 3 [.v (.slice A_f2 f2.length c_f2)] [0, 2, 3, 4, 5, 18, 19, 20] [(0, (iv p0)), (2, (.pointer (some ⟨g_f1, 0, none⟩))), (3, (.pointer (some ⟨g_f2, 0, none⟩))), (4, (.pointer (some ⟨g_f3, 0, none⟩))), (5, (.pointer (some ⟨g_f4, 0, none⟩))), (18, (.slice A_f2 f2.length c_f2)), (19, (iv (f2.length : Int))), (20, (iv 0))] [.cell ⟨g_f2, 0, none⟩ (.slice A_f2 f2.length c_f2)] (fun fb => by kernel_rfl) rfl ⟨blk_cell (hS.rd 1).1 0 rfl, trivial⟩ ?_
 refine WL.done rfl ?_
 refine WX.next ?_
 obtain ⟨x2120, hx2121, hf⟩ := bind_some hf
 refine WC.cutN (T := ((List Row) × (List Int)) × (Option Addr) × Nat × (Nat → HF) × (Option Addr) × Nat) (fun t => [(2, (.pointer (some ⟨g_f1, 0, none⟩))), (4, (.pointer (some ⟨g_f3, 0, none⟩)))]) (fun t w1 => St (fpL [blk g_f1 (.cells #[(.slice A_f1 f1.length c_f1)] 82 (0, 0)), rowO 88 encN_Row A_f1 c_f1 (tag H_f1 f1), poolO [nestO subN_Row H_f1 f1], blk g_f3 (.cells #[(.slice A_f3 f3.length c_f3)] 36 (0, 0)), rowO 3 encInt A_f3 c_f3 f3]) w w1 [blk g_f0 (.cells #[(iv f0)] 3 (0, 0)), blk g_f2 (.cells #[(.slice A_f2 f2.length c_f2)] 22 (0, 0)), rowR enc_Tile A_f2 c_f2 f2, blk g_f4 (.cells #[(.func (.func 82) #[] #[(.pointer (some ⟨g_f0, 0, none⟩)), (.pointer (some ⟨g_f1, 0, none⟩)), (.pointer (some ⟨g_f2, 0, none⟩)), (.pointer (some ⟨g_f3, 0, none⟩)), (.pointer (some ⟨g_f4, 0, none⟩))])] 115 (0, 0))] [blk g_f1 (.cells #[(.slice t.2.1 t.1.1.length t.2.2.1)] 82 (0, 0)), rowO 88 encN_Row t.2.1 t.2.2.1 (tag t.2.2.2.1 t.1.1), poolO [nestO subN_Row t.2.2.2.1 t.1.1], blk g_f3 (.cells #[(.slice t.2.2.2.2.1 t.1.2.length t.2.2.2.2.2)] 36 (0, 0)), rowO 3 encInt t.2.2.2.2.1 t.2.2.2.2.2 t.1.2] ∧ x2120 = t.1) (fun Kx2120 => ?_) ?_
 ·
  refine WC.block ?_
  refine WC.loop (T := ((List Row) × (List Int) × Int) × (Option Addr) × Nat × (Nat → HF) × (Option Addr) × Nat) (fun t => [(0, (iv p0)), (2, (.pointer (some ⟨g_f1, 0, none⟩))), (3, (.pointer (some ⟨g_f2, 0, none⟩))), (4, (.pointer (some ⟨g_f3, 0, none⟩))), (5, (.pointer (some ⟨g_f4, 0, none⟩))), (18, (.slice A_f2 f2.length c_f2)), (19, (iv (f2.length : Int))), (20, (iv t.1.2.2))]) (fun n t w1 => St (fpL [blk g_f1 (.cells #[(.slice A_f1 f1.length c_f1)] 82 (0, 0)), rowO 88 encN_Row A_f1 c_f1 (tag H_f1 f1), poolO [nestO subN_Row H_f1 f1], blk g_f3 (.cells #[(.slice A_f3 f3.length c_f3)] 36 (0, 0)), rowO 3 encInt A_f3 c_f3 f3]) w w1 [blk g_f0 (.cells #[(iv f0)] 3 (0, 0)), blk g_f2 (.cells #[(.slice A_f2 f2.length c_f2)] 22 (0, 0)), rowR enc_Tile A_f2 c_f2 f2, blk g_f4 (.cells #[(.func (.func 82) #[] #[(.pointer (some ⟨g_f0, 0, none⟩)), (.pointer (some ⟨g_f1, 0, none⟩)), (.pointer (some ⟨g_f2, 0, none⟩)), (.pointer (some ⟨g_f3, 0, none⟩)), (.pointer (some ⟨g_f4, 0, none⟩))])] 115 (0, 0))] [blk g_f1 (.cells #[(.slice t.2.1 t.1.1.length t.2.2.1)] 82 (0, 0)), rowO 88 encN_Row t.2.1 t.2.2.1 (tag t.2.2.2.1 t.1.1), poolO [nestO subN_Row t.2.2.2.1 t.1.1], blk g_f3 (.cells #[(.slice t.2.2.2.2.1 t.1.2.1.length t.2.2.2.2.2)] 36 (0, 0)), rowO 3 encInt t.2.2.2.2.1 t.2.2.2.2.2 t.1.2.1] ∧ rows_All_1.l0 n t.1.1 t.1.2.1 t.1.2.2 p0 f0 f2 rc_ = some x2120) k ((f1, f3, 0), A_f1, c_f1, H_f1, A_f3, c_f3) [0, 2, 3, 4, 5, 18, 19, 20] rfl ⟨(hS.subR [0, 1, 2, 3]).sub [0, 1, 2, 3, 4] (by decide), hx2121⟩ ?_
  rintro k2122 ⟨⟨l2107, l2111, x2112⟩, A2105, c2106, H2108, A2109, c2110⟩ w2123 ⟨hS2124, hl2125⟩
  cases k2122 with
  | zero => rw [rows_All_1.l0] at hl2125; cases hl2125
  | succ k2122 =>
   rw [rows_All_1.l0] at hl2125
   refine WC.seq ?_
   refine WC.region ?_
   refine seg 1 [] [0, 2, 3, 4, 5, 18, 19, 20, 21] [(0, (iv p0)), (2, (.pointer (some ⟨g_f1, 0, none⟩))), (3, (.pointer (some ⟨g_f2, 0, none⟩))), (4, (.pointer (some ⟨g_f3, 0, none⟩))), (5, (.pointer (some ⟨g_f4, 0, none⟩))), (18, (.slice A_f2 f2.length c_f2)), (19, (iv (f2.length : Int))), (20, (iv x2112)), (21, (.bool (decide (x2112 < (f2.length : Int)))))] [] (fun fb => by kernel_rfl) rfl trivial ?_
   refine WL.done rfl ?_
   refine WX.next ?_
   refine WC.seq ?_
   rcases br_some hl2125 with ⟨h2126, hl2125⟩ | ⟨h2126, hl2125⟩
   ·refine WC.condT2 (fun fb => by kernel_rfl) h2126 ?_
    refine WC.skip ?_
    refine WX.next ?_
    refine WC.seq ?_
    refine WC.block ?_
    refine WC.seq ?_
    refine WC.region ?_
    refine seg 1 [] [0, 2, 3, 4, 5, 18, 19, 20, 22] [(0, (iv p0)), (2, (.pointer (some ⟨g_f1, 0, none⟩))), (3, (.pointer (some ⟨g_f2, 0, none⟩))), (4, (.pointer (some ⟨g_f3, 0, none⟩))), (5, (.pointer (some ⟨g_f4, 0, none⟩))), (18, (.slice A_f2 f2.length c_f2)), (19, (iv (f2.length : Int))), (20, (iv x2112)), (22, (iv x2112))] [] (fun fb => by kernel_rfl) rfl trivial ?_
    obtain ⟨h2127, hl2125⟩ := as_some hl2125
    refine seg 3 [.v (iv ((rdD f2 x2112 z_Tile).N)), .v (iv ((rdD f2 x2112 z_Tile).E)), .v (iv ((rdD f2 x2112 z_Tile).S)), .v (iv ((rdD f2 x2112 z_Tile).W))] [0, 2, 3, 4, 5, 18, 19, 20, 22, 24] [(0, (iv p0)), (2, (.pointer (some ⟨g_f1, 0, none⟩))), (3, (.pointer (some ⟨g_f2, 0, none⟩))), (4, (.pointer (some ⟨g_f3, 0, none⟩))), (5, (.pointer (some ⟨g_f4, 0, none⟩))), (18, (.slice A_f2 f2.length c_f2)), (19, (iv (f2.length : Int))), (20, (iv x2112)), (22, (iv x2112)), (24, (.agg #[(iv ((rdD f2 x2112 z_Tile).N)), (iv ((rdD f2 x2112 z_Tile).E)), (iv ((rdD f2 x2112 z_Tile).S)), (iv ((rdD f2 x2112 z_Tile).W))]))] [.idx A_f2 x2112 f2.length, .cell ((adr A_f2).add ((x2112).toNat * 4)) (iv ((rdD f2 x2112 z_Tile).N)), .cell (((adr A_f2).add ((x2112).toNat * 4)).add 1) (iv ((rdD f2 x2112 z_Tile).E)), .cell (((adr A_f2).add ((x2112).toNat * 4)).add 2) (iv ((rdD f2 x2112 z_Tile).S)), .cell (((adr A_f2).add ((x2112).toNat * 4)).add 3) (iv ((rdD f2 x2112 z_Tile).W))] (fun fb => by kernel_rfl) rfl ⟨rowR.adr (hS2124.rd 2).1 h2127.1 h2127.2, rowR.cell (hS2124.rd 2).1 z_Tile h2127.1 h2127.2 0 rfl, rowR.cell (hS2124.rd 2).1 z_Tile h2127.1 h2127.2 1 rfl, rowR.cell (hS2124.rd 2).1 z_Tile h2127.1 h2127.2 2 rfl, rowR.cell (hS2124.rd 2).1 z_Tile h2127.1 h2127.2 3 rfl, trivial⟩ ?_
    refine WL.new hS2124 8 [] (fun g => (.pointer (some ⟨g, 0, none⟩))) (.cells #[(iv 0), (iv 0), (iv 0), (iv 0)] 24 (0, 0)) [] (fun fb g => by kernel_rfl) trivial (fun g2128 w2129 hS2130 => ?_)
    refine ⟨trivial, ?_⟩
    refine seg 5 [] [0, 2, 3, 4, 5, 7, 8, 18, 19, 20, 24] [(0, (iv p0)), (2, (.pointer (some ⟨g_f1, 0, none⟩))), (3, (.pointer (some ⟨g_f2, 0, none⟩))), (4, (.pointer (some ⟨g_f3, 0, none⟩))), (5, (.pointer (some ⟨g_f4, 0, none⟩))), (7, (iv x2112)), (8, (pt g2128)), (18, (.slice A_f2 f2.length c_f2)), (19, (iv (f2.length : Int))), (20, (iv x2112)), (24, (.agg #[(iv ((rdD f2 x2112 z_Tile).N)), (iv ((rdD f2 x2112 z_Tile).E)), (iv ((rdD f2 x2112 z_Tile).S)), (iv ((rdD f2 x2112 z_Tile).W))]))] [] (fun fb => by kernel_rfl) rfl trivial ?_
    refine WL.store hS2130 0 rfl [(0, (iv ((rdD f2 x2112 z_Tile).N))), (1, (iv ((rdD f2 x2112 z_Tile).E))), (2, (iv ((rdD f2 x2112 z_Tile).S))), (3, (iv ((rdD f2 x2112 z_Tile).W)))] #[(iv ((rdD f2 x2112 z_Tile).N)), (iv ((rdD f2 x2112 z_Tile).E)), (iv ((rdD f2 x2112 z_Tile).S)), (iv ((rdD f2 x2112 z_Tile).W))] (fun fb => by kernel_rfl) (by kernel_rfl) rfl [1, 2, 3, 4, 5] (by decide) (by decide) (fun w2132 hS2133 => ?_)
    refine ⟨trivial, ?_⟩
    refine WL.done rfl ?_
    refine WX.next ?_
    refine WC.seq ?_
    obtain ⟨x2146, hx2147, hl2125⟩ := bind_some hl2125
    refine WC.cutN (T := Bool) (fun t => [(0, (iv p0)), (2, (.pointer (some ⟨g_f1, 0, none⟩))), (3, (.pointer (some ⟨g_f2, 0, none⟩))), (4, (.pointer (some ⟨g_f3, 0, none⟩))), (5, (.pointer (some ⟨g_f4, 0, none⟩))), (7, (iv x2112)), (18, (.slice A_f2 f2.length c_f2)), (19, (iv (f2.length : Int))), (20, (iv x2112)), (40, (.bool t))]) (fun t w1 => St (fpL [blk g_f1 (.cells #[(.slice A_f1 f1.length c_f1)] 82 (0, 0)), rowO 88 encN_Row A_f1 c_f1 (tag H_f1 f1), poolO [nestO subN_Row H_f1 f1], blk g_f3 (.cells #[(.slice A_f3 f3.length c_f3)] 36 (0, 0)), rowO 3 encInt A_f3 c_f3 f3]) w w1 [blk g_f0 (.cells #[(iv f0)] 3 (0, 0)), blk g_f2 (.cells #[(.slice A_f2 f2.length c_f2)] 22 (0, 0)), rowR enc_Tile A_f2 c_f2 f2, blk g_f4 (.cells #[(.func (.func 82) #[] #[(.pointer (some ⟨g_f0, 0, none⟩)), (.pointer (some ⟨g_f1, 0, none⟩)), (.pointer (some ⟨g_f2, 0, none⟩)), (.pointer (some ⟨g_f3, 0, none⟩)), (.pointer (some ⟨g_f4, 0, none⟩))])] 115 (0, 0))] [blk g_f1 (.cells #[(.slice A2105 l2107.length c2106)] 82 (0, 0)), rowO 88 encN_Row A2105 c2106 (tag H2108 l2107), poolO [nestO subN_Row H2108 l2107], blk g_f3 (.cells #[(.slice A2109 l2111.length c2110)] 36 (0, 0)), rowO 3 encInt A2109 c2110 l2111] ∧ x2146 = t) (fun Kx2146 => ?_) ?_
    ·
     rcases br_some hx2147 with ⟨h2148, hx2147⟩ | ⟨h2148, hx2147⟩
     ·
      refine WC.regionD ([], [0, 1, 2, 3, 4, 5, 6, 7, 8, 9, 10, 11, 12, 13, 14, 15], [[], [0], [0, 1], [0, 1, 2], [0, 1, 2], [0, 1, 2], [0, 1, 2, 5], [0, 1, 2, 4, 5, 6], [0, 1, 2, 4, 5, 6, 7], [0, 1, 2, 3, 4, 5, 6, 7, 8], [0, 1, 2, 3, 4, 5, 6, 7, 8, 9], [0, 1, 2, 3, 4, 5, 6, 7, 8, 9, 10], [0, 1, 2], [0, 1, 2, 12], [0, 1, 2, 3, 4, 5, 6, 7, 8, 9, 10, 11, 12, 13], [0, 1, 2, 3, 4, 5, 6, 7, 8, 9, 10, 11, 12, 13, 14]]) [[0, 1, 2, 3, 4, 5, 6, 7, 8, 9, 10, 11, 12, 13, 14, 15]] (by kernel_rfl) (by kernel_rfl) (NoPanic.seq (NoPanic.block (NoPanic.seq (NoPanic.seq (NoPanic.block (NoPanic.body)))))) ?_
      have hS2150 := hS2133.drew
      revert hS2150
      generalize World.drew w2132 = w2149
      intro hS2150
      refine ⟨trivial, forallC ?_ (forallN)⟩
      refine seg 3 [] [0, 2, 3, 4, 5, 7, 8, 18, 19, 20, 27] [(0, (iv p0)), (2, (.pointer (some ⟨g_f1, 0, none⟩))), (3, (.pointer (some ⟨g_f2, 0, none⟩))), (4, (.pointer (some ⟨g_f3, 0, none⟩))), (5, (.pointer (some ⟨g_f4, 0, none⟩))), (7, (iv x2112)), (8, (pt g2128)), (18, (.slice A_f2 f2.length c_f2)), (19, (iv (f2.length : Int))), (20, (iv x2112)), (27, (.bool (p0 == 0)))] [] (fun fb => by kernel_rfl) rfl trivial ?_
      refine WL.setB 27 h2148 rfl ?_
      refine seg 16 [] [0, 2, 3, 4, 5, 7, 18, 19, 20, 40] [(0, (iv p0)), (2, (.pointer (some ⟨g_f1, 0, none⟩))), (3, (.pointer (some ⟨g_f2, 0, none⟩))), (4, (.pointer (some ⟨g_f3, 0, none⟩))), (5, (.pointer (some ⟨g_f4, 0, none⟩))), (7, (iv x2112)), (18, (.slice A_f2 f2.length c_f2)), (19, (iv (f2.length : Int))), (20, (iv x2112)), (40, (.bool true))] [] (fun fb => by kernel_rfl) rfl trivial ?_
      refine WL.done rfl ?_
      injection hx2147 with hx2147
      exact WX.to Kx2146 true [0, 2, 3, 4, 5, 7, 18, 19, 20, 40] rfl ⟨(hS2150.subR [0, 1, 2, 3]).sub [1, 2, 3, 4, 5] (by decide), hx2147.symm⟩
     obtain ⟨h2157, hx2147⟩ := as_some hx2147
     obtain ⟨h2158, hx2147⟩ := as_some hx2147
     refine WC.regionD ([(3, ⟨g_f2, 0, none⟩, (.slice A_f2 f2.length c_f2)), (4, ⟨g_f3, 0, none⟩, (.slice A2109 l2111.length c2110)), (8, ((adr A2109).add ((w64 (p0 - 1)).toNat * 1)), (iv (rdD l2111 (w64 (p0 - 1)) 0))), (11, (((adr A_f2).add (((rdD l2111 (w64 (p0 - 1)) 0)).toNat * 4)).add 1), (iv ((rdD f2 (rdD l2111 (w64 (p0 - 1)) 0) z_Tile).E))), (13, ⟨g2128, 3, none⟩, (iv ((rdD f2 x2112 z_Tile).W)))], [0, 1, 2, 3, 4, 5, 6, 7, 8, 9, 10, 11, 12, 13, 14, 15], [[], [0], [0, 1], [0, 1, 2], [0, 1, 2], [0, 1, 2], [0, 1, 2, 5], [0, 1, 2, 4, 5, 6], [0, 1, 2, 4, 5, 6, 7], [0, 1, 2, 3, 4, 5, 6, 7, 8], [0, 1, 2, 3, 4, 5, 6, 7, 8, 9], [0, 1, 2, 3, 4, 5, 6, 7, 8, 9, 10], [0, 1, 2], [0, 1, 2, 12], [0, 1, 2, 3, 4, 5, 6, 7, 8, 9, 10, 11, 12, 13], [0, 1, 2, 3, 4, 5, 6, 7, 8, 9, 10, 11, 12, 13, 14]]) [[0, 1, 2, 3, 4, 5, 6, 7, 8, 9, 10, 11, 12, 13, 14, 15]] (by kernel_rfl) (by kernel_rfl) (NoPanic.seq (NoPanic.block (NoPanic.seq (NoPanic.seq (NoPanic.block (NoPanic.body)))))) ?_
     have hS2154 := hS2133.drew
     revert hS2154
     generalize World.drew w2132 = w2153
     intro hS2154
     refine ⟨⟨blk_cell (hS2154.rd 1).1 0 rfl, hS2154.cell 4 rfl 0 rfl, rowR.cell (rowO.rd (hS2154.own 5).1) 0 h2157.1 h2157.2 0 rfl, rowR.cell (hS2154.rd 2).1 z_Tile h2158.1 h2158.2 1 rfl, hS2154.cell 0 rfl 3 rfl, trivial⟩, forallC ?_ (forallN)⟩
     refine seg 3 [] [0, 2, 3, 4, 5, 7, 8, 18, 19, 20, 27] [(0, (iv p0)), (2, (.pointer (some ⟨g_f1, 0, none⟩))), (3, (.pointer (some ⟨g_f2, 0, none⟩))), (4, (.pointer (some ⟨g_f3, 0, none⟩))), (5, (.pointer (some ⟨g_f4, 0, none⟩))), (7, (iv x2112)), (8, (pt g2128)), (18, (.slice A_f2 f2.length c_f2)), (19, (iv (f2.length : Int))), (20, (iv x2112)), (27, (.bool (p0 == 0)))] [] (fun fb => by kernel_rfl) rfl trivial ?_
     refine WL.setB 27 h2148 rfl ?_
     refine segF 16 [.v (.slice A_f2 f2.length c_f2), .v (.slice A2109 l2111.length c2110), .v (iv (rdD l2111 (w64 (p0 - 1)) 0)), .v (iv ((rdD f2 (rdD l2111 (w64 (p0 - 1)) 0) z_Tile).E)), .v (iv ((rdD f2 x2112 z_Tile).W))] [0, 2, 3, 4, 5, 7, 18, 19, 20, 40] [(0, (iv p0)), (2, (.pointer (some ⟨g_f1, 0, none⟩))), (3, (.pointer (some ⟨g_f2, 0, none⟩))), (4, (.pointer (some ⟨g_f3, 0, none⟩))), (5, (.pointer (some ⟨g_f4, 0, none⟩))), (7, (iv x2112)), (18, (.slice A_f2 f2.length c_f2)), (19, (iv (f2.length : Int))), (20, (iv x2112)), (40, (.bool (((rdD f2 (rdD l2111 (w64 (p0 - 1)) 0) z_Tile).E) == ((rdD f2 x2112 z_Tile).W))))] [.idx A2109 (w64 (p0 - 1)) l2111.length, .idx A_f2 (rdD l2111 (w64 (p0 - 1)) 0) f2.length] [0, 1, 2, 3, 4] [(3, ⟨g_f2, 0, none⟩, (.slice A_f2 f2.length c_f2)), (4, ⟨g_f3, 0, none⟩, (.slice A2109 l2111.length c2110)), (8, ((adr A2109).add ((w64 (p0 - 1)).toNat * 1)), (iv (rdD l2111 (w64 (p0 - 1)) 0))), (11, (((adr A_f2).add (((rdD l2111 (w64 (p0 - 1)) 0)).toNat * 4)).add 1), (iv ((rdD f2 (rdD l2111 (w64 (p0 - 1)) 0) z_Tile).E))), (13, ⟨g2128, 3, none⟩, (iv ((rdD f2 x2112 z_Tile).W)))] (fun fb => by kernel_rfl) rfl ⟨rowR.adr (rowO.rd (hS2154.own 5).1) h2157.1 h2157.2, rowR.adr (hS2154.rd 2).1 h2158.1 h2158.2, trivial⟩ rfl ?_
     refine WL.done rfl ?_
     injection hx2147 with hx2147
     exact WX.to Kx2146 (((rdD f2 (rdD l2111 (w64 (p0 - 1)) 0) z_Tile).E) == ((rdD f2 x2112 z_Tile).W)) [0, 2, 3, 4, 5, 7, 18, 19, 20, 40] rfl ⟨(hS2154.subR [0, 1, 2, 3]).sub [1, 2, 3, 4, 5] (by decide), hx2147.symm⟩
    rintro y2162 w2159 ⟨hS2160, hq2161⟩
    subst hq2161
    refine WX.next ?_
    obtain ⟨x2185, hx2186, hl2125⟩ := bind_some hl2125
    refine WC.cutN (T := ((List Row) × (List Int)) × (Option Addr) × Nat × (Nat → HF) × (Option Addr) × Nat) (fun t => [(0, (iv p0)), (2, (.pointer (some ⟨g_f1, 0, none⟩))), (3, (.pointer (some ⟨g_f2, 0, none⟩))), (4, (.pointer (some ⟨g_f3, 0, none⟩))), (5, (.pointer (some ⟨g_f4, 0, none⟩))), (18, (.slice A_f2 f2.length c_f2)), (19, (iv (f2.length : Int))), (20, (iv x2112))]) (fun t w1 => St (fpL [blk g_f1 (.cells #[(.slice A_f1 f1.length c_f1)] 82 (0, 0)), rowO 88 encN_Row A_f1 c_f1 (tag H_f1 f1), poolO [nestO subN_Row H_f1 f1], blk g_f3 (.cells #[(.slice A_f3 f3.length c_f3)] 36 (0, 0)), rowO 3 encInt A_f3 c_f3 f3]) w w1 [blk g_f0 (.cells #[(iv f0)] 3 (0, 0)), blk g_f2 (.cells #[(.slice A_f2 f2.length c_f2)] 22 (0, 0)), rowR enc_Tile A_f2 c_f2 f2, blk g_f4 (.cells #[(.func (.func 82) #[] #[(.pointer (some ⟨g_f0, 0, none⟩)), (.pointer (some ⟨g_f1, 0, none⟩)), (.pointer (some ⟨g_f2, 0, none⟩)), (.pointer (some ⟨g_f3, 0, none⟩)), (.pointer (some ⟨g_f4, 0, none⟩))])] 115 (0, 0))] [blk g_f1 (.cells #[(.slice t.2.1 t.1.1.length t.2.2.1)] 82 (0, 0)), rowO 88 encN_Row t.2.1 t.2.2.1 (tag t.2.2.2.1 t.1.1), poolO [nestO subN_Row t.2.2.2.1 t.1.1], blk g_f3 (.cells #[(.slice t.2.2.2.2.1 t.1.2.length t.2.2.2.2.2)] 36 (0, 0)), rowO 3 encInt t.2.2.2.2.1 t.2.2.2.2.2 t.1.2] ∧ x2185 = t.1) (fun Kx2185 => ?_) ?_
    ·
     rcases br_some hx2186 with ⟨h2187, hx2186⟩ | ⟨h2187, hx2186⟩
     ·refine WC.condT2 (fun fb => by kernel_rfl) h2187 ?_
      refine WC.seq ?_
      refine WC.region ?_
      refine seg 3 [.v (.slice A2109 l2111.length c2110)] [0, 2, 3, 4, 5, 18, 19, 20, 41, 42, 43] [(0, (iv p0)), (2, (.pointer (some ⟨g_f1, 0, none⟩))), (3, (.pointer (some ⟨g_f2, 0, none⟩))), (4, (.pointer (some ⟨g_f3, 0, none⟩))), (5, (.pointer (some ⟨g_f4, 0, none⟩))), (18, (.slice A_f2 f2.length c_f2)), (19, (iv (f2.length : Int))), (20, (iv x2112)), (41, (.slice A2109 l2111.length c2110)), (42, (iv p0)), (43, (iv x2112))] [.cell ⟨g_f3, 0, none⟩ (.slice A2109 l2111.length c2110)] (fun fb => by kernel_rfl) rfl ⟨hS2160.cell 3 rfl 0 rfl, trivial⟩ ?_
      obtain ⟨h2188, hx2186⟩ := as_some hx2186
      refine seg 4 [] [0, 2, 3, 4, 5, 18, 19, 20, 43, 44] [(0, (iv p0)), (2, (.pointer (some ⟨g_f1, 0, none⟩))), (3, (.pointer (some ⟨g_f2, 0, none⟩))), (4, (.pointer (some ⟨g_f3, 0, none⟩))), (5, (.pointer (some ⟨g_f4, 0, none⟩))), (18, (.slice A_f2 f2.length c_f2)), (19, (iv (f2.length : Int))), (20, (iv x2112)), (43, (iv x2112)), (44, (.pointer (some ((adr A2109).add ((p0).toNat * 1)))))] [.idx A2109 p0 l2111.length] (fun fb => by kernel_rfl) rfl ⟨rowR.adr (rowO.rd (hS2160.own 4).1) h2188.1 h2188.2, trivial⟩ ?_
      refine WL.storeRow hS2160 4 rfl (p0) (x2112) (0) [(0, (iv x2112))] (fun fb => by kernel_rfl) h2188.1 h2188.2 (by kernel_rfl) rfl [0, 1, 2, 3] (by decide) (by decide) (fun w2189 hS2190 => ?_)
      refine ⟨trivial, ?_⟩
      have hS2191 : St (fpL [blk g_f1 (.cells #[(.slice A_f1 f1.length c_f1)] 82 (0, 0)), rowO 88 encN_Row A_f1 c_f1 (tag H_f1 f1), poolO [nestO subN_Row H_f1 f1], blk g_f3 (.cells #[(.slice A_f3 f3.length c_f3)] 36 (0, 0)), rowO 3 encInt A_f3 c_f3 f3]) w w2189 [blk g_f0 (.cells #[(iv f0)] 3 (0, 0)), blk g_f2 (.cells #[(.slice A_f2 f2.length c_f2)] 22 (0, 0)), rowR enc_Tile A_f2 c_f2 f2, blk g_f4 (.cells #[(.func (.func 82) #[] #[(.pointer (some ⟨g_f0, 0, none⟩)), (.pointer (some ⟨g_f1, 0, none⟩)), (.pointer (some ⟨g_f2, 0, none⟩)), (.pointer (some ⟨g_f3, 0, none⟩)), (.pointer (some ⟨g_f4, 0, none⟩))])] 115 (0, 0))] [rowO 3 encInt A2109 c2110 (l2111.set (p0).toNat x2112), blk g_f1 (.cells #[(.slice A2105 l2107.length c2106)] 82 (0, 0)), rowO 88 encN_Row A2105 c2106 (tag H2108 l2107), poolO [nestO subN_Row H2108 l2107], blk g_f3 (.cells #[(.slice A2109 (l2111.set (p0).toNat x2112).length c2110)] 36 (0, 0))] := by simpa only [List.length_set] using (show St (fpL [blk g_f1 (.cells #[(.slice A_f1 f1.length c_f1)] 82 (0, 0)), rowO 88 encN_Row A_f1 c_f1 (tag H_f1 f1), poolO [nestO subN_Row H_f1 f1], blk g_f3 (.cells #[(.slice A_f3 f3.length c_f3)] 36 (0, 0)), rowO 3 encInt A_f3 c_f3 f3]) w w2189 [blk g_f0 (.cells #[(iv f0)] 3 (0, 0)), blk g_f2 (.cells #[(.slice A_f2 f2.length c_f2)] 22 (0, 0)), rowR enc_Tile A_f2 c_f2 f2, blk g_f4 (.cells #[(.func (.func 82) #[] #[(.pointer (some ⟨g_f0, 0, none⟩)), (.pointer (some ⟨g_f1, 0, none⟩)), (.pointer (some ⟨g_f2, 0, none⟩)), (.pointer (some ⟨g_f3, 0, none⟩)), (.pointer (some ⟨g_f4, 0, none⟩))])] 115 (0, 0))] [rowO 3 encInt A2109 c2110 (l2111.set (p0).toNat x2112), blk g_f1 (.cells #[(.slice A2105 l2107.length c2106)] 82 (0, 0)), rowO 88 encN_Row A2105 c2106 (tag H2108 l2107), poolO [nestO subN_Row H2108 l2107], blk g_f3 (.cells #[(.slice A2109 l2111.length c2110)] 36 (0, 0))] from hS2190)
      refine WL.done rfl ?_
      refine WX.next ?_
      refine WC.region ?_
      refine seg 3 [.v (.func (.func 82) #[] #[(.pointer (some ⟨g_f0, 0, none⟩)), (.pointer (some ⟨g_f1, 0, none⟩)), (.pointer (some ⟨g_f2, 0, none⟩)), (.pointer (some ⟨g_f3, 0, none⟩)), (.pointer (some ⟨g_f4, 0, none⟩))])] [0, 2, 3, 4, 5, 18, 19, 20, 45, 47] [(0, (iv p0)), (2, (.pointer (some ⟨g_f1, 0, none⟩))), (3, (.pointer (some ⟨g_f2, 0, none⟩))), (4, (.pointer (some ⟨g_f3, 0, none⟩))), (5, (.pointer (some ⟨g_f4, 0, none⟩))), (18, (.slice A_f2 f2.length c_f2)), (19, (iv (f2.length : Int))), (20, (iv x2112)), (45, (.func (.func 82) #[] #[(.pointer (some ⟨g_f0, 0, none⟩)), (.pointer (some ⟨g_f1, 0, none⟩)), (.pointer (some ⟨g_f2, 0, none⟩)), (.pointer (some ⟨g_f3, 0, none⟩)), (.pointer (some ⟨g_f4, 0, none⟩))])), (47, (iv (w64 (p0 + 1))))] [.cell ⟨g_f4, 0, none⟩ (.func (.func 82) #[] #[(.pointer (some ⟨g_f0, 0, none⟩)), (.pointer (some ⟨g_f1, 0, none⟩)), (.pointer (some ⟨g_f2, 0, none⟩)), (.pointer (some ⟨g_f3, 0, none⟩)), (.pointer (some ⟨g_f4, 0, none⟩))])] (fun fb => by kernel_rfl) rfl ⟨blk_cell (hS2191.rd 3).1 0 rfl, trivial⟩ ?_
      obtain ⟨t2192, ht2193, hx2186⟩ := bind_some hx2186
      refine WL.call (some 48) 82 #[(iv (w64 (p0 + 1))), (.pointer (some ⟨g_f0, 0, none⟩)), (.pointer (some ⟨g_f1, 0, none⟩)), (.pointer (some ⟨g_f2, 0, none⟩)), (.pointer (some ⟨g_f3, 0, none⟩)), (.pointer (some ⟨g_f4, 0, none⟩))] (fun fb => by kernel_rfl) (ih_ (w64 (p0 + 1)) f0 l2107 f2 (l2111.set (p0).toNat x2112) g_f0 g_f1 A2105 c2106 H2108 g_f2 A_f2 c_f2 g_f3 A2109 c2110 g_f4 t2192 _ (hS2191.rdT [1, 2, 3, 4, 0] 0) (hS2191.rdT [1, 2, 3, 4, 0] 1) (hS2191.rdT [1, 2, 3, 4, 0] 2) (hS2191.rdT [1, 2, 3, 4, 0] 3) (hS2191.io [1, 2, 3, 4, 0] (by decide)) ht2193) (fun v w2194 hR2195 => ?_)
      obtain ⟨A2197, c2198, H2199, A2200, c2201, rfl, hk_⟩ := hR2195
      have hS2196 : St (fpL [blk g_f1 (.cells #[(.slice A_f1 f1.length c_f1)] 82 (0, 0)), rowO 88 encN_Row A_f1 c_f1 (tag H_f1 f1), poolO [nestO subN_Row H_f1 f1], blk g_f3 (.cells #[(.slice A_f3 f3.length c_f3)] 36 (0, 0)), rowO 3 encInt A_f3 c_f3 f3]) w w2194 [blk g_f0 (.cells #[(iv f0)] 3 (0, 0)), blk g_f2 (.cells #[(.slice A_f2 f2.length c_f2)] 22 (0, 0)), rowR enc_Tile A_f2 c_f2 f2, blk g_f4 (.cells #[(.func (.func 82) #[] #[(.pointer (some ⟨g_f0, 0, none⟩)), (.pointer (some ⟨g_f1, 0, none⟩)), (.pointer (some ⟨g_f2, 0, none⟩)), (.pointer (some ⟨g_f3, 0, none⟩)), (.pointer (some ⟨g_f4, 0, none⟩))])] 115 (0, 0))] [blk g_f1 (.cells #[(.slice A2197 t2192.1.length c2198)] 82 (0, 0)), rowO 88 encN_Row A2197 c2198 (tag H2199 t2192.1), poolO [nestO subN_Row H2199 t2192.1], blk g_f3 (.cells #[(.slice A2200 t2192.2.length c2201)] 36 (0, 0)), rowO 3 encInt A2200 c2201 t2192.2] := hS2191.call hk_ [1, 2, 3, 4, 0] [] (fun g hg => fpL_sel g hg) (by decide) (by decide)
      refine ⟨trivial, ?_⟩
      refine WL.done rfl ?_
      injection hx2186 with hx2186
      exact WX.to Kx2185 ((t2192.1, t2192.2), A2197, c2198, H2199, A2200, c2201) [0, 2, 3, 4, 5, 18, 19, 20] rfl ⟨(hS2196.subR [0, 1, 2, 3]).sub [0, 1, 2, 3, 4] (by decide), hx2186.symm⟩
     refine WC.condF2 (fun fb => by kernel_rfl) h2187 ?_
     refine WC.skip ?_
     injection hx2186 with hx2186
     exact WX.to Kx2185 ((l2107, l2111), A2105, c2106, H2108, A2109, c2110) [0, 2, 3, 4, 5, 18, 19, 20] rfl ⟨(hS2160.subR [0, 1, 2, 3]).sub [0, 1, 2, 3, 4] (by decide), hx2186.symm⟩
    rintro ⟨y2205, A2178, c2179, H2181, A2182, c2183⟩ w2202 ⟨hS2203, hq2204⟩
    subst hq2204
    refine WX.blockN (WX.next ?_)
    refine WC.region ?_
    refine seg 2 [] [0, 2, 3, 4, 5, 18, 19, 20] [(0, (iv p0)), (2, (.pointer (some ⟨g_f1, 0, none⟩))), (3, (.pointer (some ⟨g_f2, 0, none⟩))), (4, (.pointer (some ⟨g_f3, 0, none⟩))), (5, (.pointer (some ⟨g_f4, 0, none⟩))), (18, (.slice A_f2 f2.length c_f2)), (19, (iv (f2.length : Int))), (20, (iv (w64 (x2112 + 1))))] [] (fun fb => by kernel_rfl) rfl trivial ?_
    refine WL.done rfl ?_
    exact WX.again k2122 (Nat.lt_succ_self _) ((x2185.1, x2185.2, w64 (x2112 + 1)), A2178, c2179, H2181, A2182, c2183) [0, 2, 3, 4, 5, 18, 19, 20] rfl ⟨(hS2203.subR [0, 1, 2, 3]).sub [0, 1, 2, 3, 4] (by decide), hl2125⟩
   refine WC.condF2 (fun fb => by kernel_rfl) h2126 ?_
   refine WC.exit ?_
   injection hl2125 with hl2125
   exact WX.thenX (WX.thenX (WX.blockHere (WX.to Kx2120 ((l2107, l2111), A2105, c2106, H2108, A2109, c2110) [2, 4] rfl ⟨(hS2124.subR [0, 1, 2, 3]).sub [0, 1, 2, 3, 4] (by decide), hl2125.symm⟩)))
 rintro ⟨y2209, A2113, c2114, H2116, A2117, c2118⟩ w2206 ⟨hS2207, hq2208⟩
 subst hq2208
 injection hf with hf
 subst hf
 exact WX.end_ [] (.tuple #[]) [] (fun fb => by kernel_rfl) trivial ⟨_, rfl, A2113, c2114, H2116, A2117, c2118, rfl, (hS2207.sub [0, 1, 2, 3, 4] (by decide)).noR⟩
theorem rows_All_calls (k : Nat) (p0 : List Tile) (p1 : Int) (A_p0 : Option Addr) (c_p0 : Nat) (r : (List Row)) (w : World) (hR0 : RO NoS w (rowR enc_Tile A_p0 c_p0 p0)) (hf : rows_All k p0 p1 = some r) :
  CallsR Try.prog 67 #[(.slice A_p0 p0.length c_p0), (iv p1)] w (fun v w' => ∃ (A1_ : Option Addr), ∃ (c1_ : Nat), ∃ (h1_ : Nat → HF), v = (.slice A1_ r.length c1_) ∧ St NoS w w' [] [rowO 88 encN_Row A1_ c1_ (tag h1_ r), poolO [nestO subN_Row h1_ r]]) := by
 have hS : St NoS w w [rowR enc_Tile A_p0 c_p0 p0] [] := St.init (ro_cons hR0 (ro_nil _ _))
 refine enter 14 Try.func67 rfl Try.ntmps67 rfl ?_
 unfold rows_All at hf
 refine WC.seq ?_
 refine WC.region ?_
 refine WL.new hS 2 [] (fun g => (.pointer (some ⟨g, 0, none⟩))) (.cells #[(.slice A_p0 p0.length c_p0)] 22 (0, 0)) [] (fun fb g => by kernel_rfl) trivial (fun g1532 w1533 hS1534 => ?_)
 refine ⟨trivial, ?_⟩
 refine WL.new hS1534 3 [] (fun g => (.pointer (some ⟨g, 0, none⟩))) (.cells #[(iv p1)] 3 (0, 0)) [] (fun fb g => by kernel_rfl) trivial (fun g1536 w1537 hS1538 => ?_)
 refine ⟨trivial, ?_⟩
 refine seg 3 [] [2, 3] [(2, (pt g1532)), (3, (pt g1536))] [] (fun fb => by kernel_rfl) rfl trivial ?_
 refine WL.done rfl ?_
 refine WX.next ?_
 refine WC.seq ?_
 refine WC.region ?_
 refine WL.new hS1538 5 [] (fun g => (.pointer (some ⟨g, 0, none⟩))) (.cells #[(.slice none 0 0)] 82 (0, 0)) [] (fun fb g => by kernel_rfl) trivial (fun g1540 w1541 hS1542 => ?_)
 refine ⟨trivial, ?_⟩
 refine WL.done rfl ?_
 refine WX.next ?_
 refine WC.seq ?_
 refine WC.region ?_
 refine seg 1 [.v (iv p1)] [2, 3, 5, 8] [(2, (pt g1532)), (3, (pt g1536)), (5, (pt g1540)), (8, (iv p1))] [.cell ⟨g1536, 0, none⟩ (iv p1)] (fun fb => by kernel_rfl) rfl ⟨hS1542.cell 1 rfl 0 rfl, trivial⟩ ?_
 obtain ⟨h1544, hf⟩ := as_some hf
 refine WL.make hS1542 (e := encInt) (T := 3) (tS := 36) (z := (iv 0)) (bytes := 8) (d := 9) (0 : Int) p1 (fun fb => by kernel_rfl) (by kernel_rfl) (by kernel_rfl) rfl (by decide) h1544 (by decide) (fun g1545 w1546 hS1547 => ?_)
 refine ⟨trivial, ?_⟩
 refine WL.new hS1547 6 [] (fun g => (.pointer (some ⟨g, 0, none⟩))) (.cells #[(.slice none 0 0)] 36 (0, 0)) [] (fun fb g => by kernel_rfl) trivial (fun g1548 w1549 hS1550 => ?_)
 refine ⟨trivial, ?_⟩
 refine WL.store hS1550 0 rfl [(0, (.slice (some ⟨g1545, 0, none⟩) (List.replicate p1.toNat (0 : Int)).length p1.toNat))] #[(.slice (some ⟨g1545, 0, none⟩) (List.replicate p1.toNat (0 : Int)).length p1.toNat)] (fun fb => by kernel_rfl) (by kernel_rfl) rfl [1, 2, 3, 4] (by decide) (by decide) (fun w1552 hS1553 => ?_)
 refine ⟨trivial, ?_⟩
 refine WL.done rfl ?_
 refine WX.next ?_
 refine WC.seq ?_
 refine WC.region ?_
 refine WL.new hS1553 7 [] (fun g => (.pointer (some ⟨g, 0, none⟩))) (.cells #[.nilFunc] 115 (0, 0)) [] (fun fb g => by kernel_rfl) trivial (fun g1554 w1555 hS1556 => ?_)
 refine ⟨trivial, ?_⟩
 refine WL.done rfl ?_
 refine WX.next ?_
 refine WC.seq ?_
 refine WC.region ?_
 refine seg 1 [] [5, 7, 10] [(5, (pt g1540)), (7, (pt g1554)), (10, (.func (.func 82) #[] #[(pt g1536), (pt g1540), (pt g1532), (pt g1548), (pt g1554)]))] [] (fun fb => by kernel_rfl) rfl trivial ?_
 refine WL.store hS1556 0 rfl [(0, (.func (.func 82) #[] #[(pt g1536), (pt g1540), (pt g1532), (pt g1548), (pt g1554)]))] #[(.func (.func 82) #[] #[(pt g1536), (pt g1540), (pt g1532), (pt g1548), (pt g1554)])] (fun fb => by kernel_rfl) (by kernel_rfl) rfl [1, 2, 3, 4, 5] (by decide) (by decide) (fun w1558 hS1559 => ?_)
 refine ⟨trivial, ?_⟩
 refine WL.done rfl ?_
 refine WX.next ?_
 refine WC.seq ?_
 refine WC.region ?_
 refine seg 1 [.v (.func (.func 82) #[] #[(pt g1536), (pt g1540), (pt g1532), (pt g1548), (pt g1554)])] [5, 11] [(5, (pt g1540)), (11, (.func (.func 82) #[] #[(pt g1536), (pt g1540), (pt g1532), (pt g1548), (pt g1554)]))] [.cell ⟨g1554, 0, none⟩ (.func (.func 82) #[] #[(pt g1536), (pt g1540), (pt g1532), (pt g1548), (pt g1554)])] (fun fb => by kernel_rfl) rfl ⟨hS1559.cell 0 rfl 0 rfl, trivial⟩ ?_
 have hS2210 : St NoS w w1558 [rowR enc_Tile A_p0 c_p0 p0] [rowO 88 encN_Row none 0 (tag h0 ([] : List Row)), blk g1554 (.cells #[(.func (.func 82) #[] #[(pt g1536), (pt g1540), (pt g1532), (pt g1548), (pt g1554)])] 115 (0, 0)), blk g1548 (.cells #[(.slice (some ⟨g1545, 0, none⟩) (List.replicate p1.toNat (0 : Int)).length p1.toNat)] 36 (0, 0)), rowO 3 encInt (some ⟨g1545, 0, none⟩) p1.toNat (List.replicate p1.toNat (0 : Int)), blk g1540 (.cells #[(.slice none 0 0)] 82 (0, 0)), blk g1536 (.cells #[(iv p1)] 3 (0, 0)), blk g1532 (.cells #[(.slice A_p0 p0.length c_p0)] 22 (0, 0))] := hS1559.nilrow 88 encN_Row
 have hS2211 := hS2210.poolNil subN_Row h0
 obtain ⟨t2212, ht2213, hf⟩ := bind_some hf
 refine WL.call (some 12) 82 #[(iv 0), (pt g1536), (pt g1540), (pt g1532), (pt g1548), (pt g1554)] (fun fb => by kernel_rfl) (rows_All_1_calls _ 0 p1 ([] : List Row) p0 (List.replicate p1.toNat (0 : Int)) g1536 g1540 none 0 h0 g1532 A_p0 c_p0 g1548 (some ⟨g1545, 0, none⟩) p1.toNat g1554 t2212 _ (hS2211.owT [5, 1, 0, 3, 4] 6 (by decide)) (hS2211.owT [5, 1, 0, 3, 4] 7 (by decide)) (hS2211.rdT [5, 1, 0, 3, 4] 0) (hS2211.owT [5, 1, 0, 3, 4] 2 (by decide)) (hS2211.io [5, 1, 0, 3, 4] (by decide)) ht2213) (fun v w2214 hR2215 => ?_)
 obtain ⟨A2217, c2218, H2219, A2220, c2221, rfl, hk_⟩ := hR2215
 have hS2216 : St NoS w w2214 [rowR enc_Tile A_p0 c_p0 p0] [blk g1540 (.cells #[(.slice A2217 t2212.1.length c2218)] 82 (0, 0)), rowO 88 encN_Row A2217 c2218 (tag H2219 t2212.1), poolO [nestO subN_Row H2219 t2212.1], blk g1548 (.cells #[(.slice A2220 t2212.2.length c2221)] 36 (0, 0)), rowO 3 encInt A2220 c2221 t2212.2, blk g1554 (.cells #[(.func (.func 82) #[] #[(pt g1536), (pt g1540), (pt g1532), (pt g1548), (pt g1554)])] 115 (0, 0)), blk g1536 (.cells #[(iv p1)] 3 (0, 0)), blk g1532 (.cells #[(.slice A_p0 p0.length c_p0)] 22 (0, 0))] := hS2211.call hk_ [5, 1, 0, 3, 4] [2, 6, 7] (fun g hg => fpL_sel g hg) (by decide) (by decide)
 refine ⟨trivial, ?_⟩
 refine WL.done rfl ?_
 refine WX.next ?_
 refine WC.seq ?_
 refine WC.region ?_
 refine seg 2 [.v (.slice A2217 t2212.1.length c2218)] [4] [(4, (.slice A2217 t2212.1.length c2218))] [.cell ⟨g1540, 0, none⟩ (.slice A2217 t2212.1.length c2218)] (fun fb => by kernel_rfl) rfl ⟨hS2216.cell 0 rfl 0 rfl, trivial⟩ ?_
 refine WL.done rfl ?_
 refine WX.next ?_
 refine WC.ret ?_
 injection hf with hf
 subst hf
 exact WX.ret_ [] (.slice A2217 t2212.1.length c2218) [] (fun fb => by kernel_rfl) trivial ⟨_, rfl, A2217, c2218, H2219, rfl, (hS2216.sub [1, 2] (by decide)).noR⟩
theorem fill_begin_calls (k : Nat) (p0 : List Tile) (p1 : Int) (p2 : Int) (p3 : Edges) (A_p0 : Option Addr) (c_p0 : Nat) (A_p3_North : Option Addr) (c_p3_North : Nat) (A_p3_East : Option Addr) (c_p3_East : Nat) (A_p3_South : Option Addr) (c_p3_South : Nat) (A_p3_West : Option Addr) (c_p3_West : Nat) (r : (Option Job) × Int) (w : World) (hR0 : RO NoS w (rowR enc_Tile A_p0 c_p0 p0)) (hR1 : RO NoS w (rowR encInt A_p3_North c_p3_North p3.North)) (hR2 : RO NoS w (rowR encInt A_p3_East c_p3_East p3.East)) (hR3 : RO NoS w (rowR encInt A_p3_South c_p3_South p3.South)) (hR4 : RO NoS w (rowR encInt A_p3_West c_p3_West p3.West)) (hf : fill_begin k p0 p1 p2 p3 = some r) :
  CallsR Try.prog 54 #[(.slice A_p0 p0.length c_p0), (iv p1), (iv p2), (.agg #[(.slice A_p3_North p3.North.length c_p3_North), (.slice A_p3_East p3.East.length c_p3_East), (.slice A_p3_South p3.South.length c_p3_South), (.slice A_p3_West p3.West.length c_p3_West)])] w (fun v w' => ∃ (g1_ : Nat), ∃ (A2_ : Option Addr), ∃ (c2_ : Nat), ∃ (h2_ : Nat → HF), v = (.tuple #[(optP r.1 g1_), (iv r.2)]) ∧ optS r.1 (Keeps NoS w w') (fun y_ => St NoS w w' [] [blk g1_ (.cells #[(.slice A2_ y_.rows.length c2_), (iv y_.width), (iv y_.height), (.slice A_p3_North p3.North.length c_p3_North), (.slice A_p3_East p3.East.length c_p3_East), (.slice A_p3_South p3.South.length c_p3_South), (.slice A_p3_West p3.West.length c_p3_West)] 84 (0, 0)), rowO 88 encN_Row A2_ c2_ (tag h2_ y_.rows), poolO [nestO subN_Row h2_ y_.rows]])) := by
 have hS : St NoS w w [rowR enc_Tile A_p0 c_p0 p0, rowR encInt A_p3_North c_p3_North p3.North, rowR encInt A_p3_East c_p3_East p3.East, rowR encInt A_p3_South c_p3_South p3.South, rowR encInt A_p3_West c_p3_West p3.West] [] := St.init (ro_cons hR0 (ro_cons hR1 (ro_cons hR2 (ro_cons hR3 (ro_cons hR4 (ro_nil _ _))))))
 refine enter 76 Try.func54 rfl Try.ntmps54 rfl ?_
 unfold fill_begin at hf
 refine WC.seq ?_
 refine WC.region ?_
 refine WL.new hS 7 [] (fun g => (.pointer (some ⟨g, 0, none⟩))) (.cells #[(.slice A_p3_North p3.North.length c_p3_North), (.slice A_p3_East p3.East.length c_p3_East), (.slice A_p3_South p3.South.length c_p3_South), (.slice A_p3_West p3.West.length c_p3_West)] 57 (0, 0)) [] (fun fb g => by kernel_rfl) trivial (fun g2248 w2249 hS2250 => ?_)
 refine ⟨trivial, ?_⟩
 refine seg 3 [] [0, 1, 2, 7] [(0, (.slice A_p0 p0.length c_p0)), (1, (iv p1)), (2, (iv p2)), (7, (pt g2248))] [] (fun fb => by kernel_rfl) rfl trivial ?_
 refine WL.done rfl ?_
 refine WX.next ?_
 refine WC.seq ?_
 refine WC.seq ?_
 refine WC.region ?_
 refine seg 1 [] [0, 1, 2, 7, 12] [(0, (.slice A_p0 p0.length c_p0)), (1, (iv p1)), (2, (iv p2)), (7, (pt g2248)), (12, (.slice A_p0 p0.length c_p0))] [] (fun fb => by kernel_rfl) rfl trivial ?_
 obtain ⟨t2252, ht2253, hf⟩ := bind_some hf
 refine WL.call (some 13) 38 #[(.slice A_p0 p0.length c_p0)] (fun fb => by kernel_rfl) (tile_Valid_calls _ p0 A_p0 c_p0 t2252 _ (hS2250.rd 0) ht2253) (fun v w2254 hR2255 => ?_)
 obtain ⟨rfl, hk_⟩ := hR2255
 have hS2256 := hS2250.keepN hk_
 refine ⟨trivial, ?_⟩
 refine seg 3 [] [0, 1, 2, 7, 14] [(0, (.slice A_p0 p0.length c_p0)), (1, (iv p1)), (2, (iv p2)), (7, (pt g2248)), (14, (.bool (!t2252)))] [] (fun fb => by kernel_rfl) rfl trivial ?_
 refine WL.done rfl ?_
 refine WX.next ?_
 rcases br_some hf with ⟨h2257, hf⟩ | ⟨h2257, hf⟩
 ·refine WC.condT2 (fun fb => by kernel_rfl) h2257 ?_
  refine WC.seq ?_
  refine WC.region ?_
  refine seg 2 [] [8, 9] [(8, (.pointer none)), (9, (iv 1))] [] (fun fb => by kernel_rfl) rfl trivial ?_
  refine WL.done rfl ?_
  refine WX.next ?_
  refine WC.ret ?_
  injection hf with hf
  subst hf
  exact WX.thenR (WX.ret_ [] (.tuple #[(.pointer none), (iv 1)]) [] (fun fb => by kernel_rfl) trivial ⟨_, rfl, 0, none, 0, h0, rfl, hS2256.keep⟩)
 refine WC.condF2 (fun fb => by kernel_rfl) h2257 ?_
 refine WC.skip ?_
 refine WX.next ?_
 refine WC.seq ?_
 refine WC.seq ?_
 refine WC.region ?_
 refine seg 3 [] [0, 1, 2, 7, 17] [(0, (.slice A_p0 p0.length c_p0)), (1, (iv p1)), (2, (iv p2)), (7, (pt g2248)), (17, (.bool (decide (p1 < 1))))] [] (fun fb => by kernel_rfl) rfl trivial ?_
 refine WL.cutV (T := Bool) 6 (fun t => [(20, (.bool t)), (0, (.slice A_p0 p0.length c_p0)), (1, (iv p1)), (2, (iv p2)), (7, (pt g2248))]) (fun t => ((decide (p1 < 1)) || (decide (p1 > 8))) = t) (fun K => ?_) ?_
 ·
  rcases Bool.eq_false_or_eq_true (decide (p1 < 1)) with h2258 | h2258
  ·
   refine WL.setB 17 h2258 rfl ?_
   refine seg 6 [] [0, 1, 2, 7, 20] [(0, (.slice A_p0 p0.length c_p0)), (1, (iv p1)), (2, (iv p2)), (7, (pt g2248)), (20, (.bool true))] [] (fun fb => by kernel_rfl) rfl trivial ?_
   exact WL.toV K true [20, 0, 1, 2, 7] rfl (by first | (rw [h2258]; done) | (rw [h2258]; rfl))
  refine WL.setB 17 h2258 rfl ?_
  refine seg 6 [] [0, 1, 2, 7, 20] [(0, (.slice A_p0 p0.length c_p0)), (1, (iv p1)), (2, (iv p2)), (7, (pt g2248)), (20, (.bool (decide (p1 > 8))))] [] (fun fb => by kernel_rfl) rfl trivial ?_
  exact WL.toV K (decide (p1 > 8)) [20, 0, 1, 2, 7] rfl (by first | (rw [h2258]; done) | (rw [h2258]; rfl))
 rintro b2259 rfl
 refine seg 7 [] [0, 1, 2, 7, 21] [(0, (.slice A_p0 p0.length c_p0)), (1, (iv p1)), (2, (iv p2)), (7, (pt g2248)), (21, (.bool ((decide (p1 < 1)) || (decide (p1 > 8)))))] [] (fun fb => by kernel_rfl) rfl trivial ?_
 refine WL.cutV (T := Bool) 10 (fun t => [(24, (.bool t)), (0, (.slice A_p0 p0.length c_p0)), (1, (iv p1)), (2, (iv p2)), (7, (pt g2248))]) (fun t => (((decide (p1 < 1)) || (decide (p1 > 8))) || (decide (p2 < 1))) = t) (fun K => ?_) ?_
 ·
  rcases Bool.eq_false_or_eq_true ((decide (p1 < 1)) || (decide (p1 > 8))) with h2260 | h2260
  ·
   refine WL.setB 21 h2260 rfl ?_
   refine seg 10 [] [0, 1, 2, 7, 24] [(0, (.slice A_p0 p0.length c_p0)), (1, (iv p1)), (2, (iv p2)), (7, (pt g2248)), (24, (.bool true))] [] (fun fb => by kernel_rfl) rfl trivial ?_
   exact WL.toV K true [24, 0, 1, 2, 7] rfl (by first | (rw [h2260]; done) | (rw [h2260]; rfl))
  refine WL.setB 21 h2260 rfl ?_
  refine seg 10 [] [0, 1, 2, 7, 24] [(0, (.slice A_p0 p0.length c_p0)), (1, (iv p1)), (2, (iv p2)), (7, (pt g2248)), (24, (.bool (decide (p2 < 1))))] [] (fun fb => by kernel_rfl) rfl trivial ?_
  exact WL.toV K (decide (p2 < 1)) [24, 0, 1, 2, 7] rfl (by first | (rw [h2260]; done) | (rw [h2260]; rfl))
 rintro b2261 rfl
 refine seg 11 [] [0, 1, 2, 7, 25] [(0, (.slice A_p0 p0.length c_p0)), (1, (iv p1)), (2, (iv p2)), (7, (pt g2248)), (25, (.bool (((decide (p1 < 1)) || (decide (p1 > 8))) || (decide (p2 < 1)))))] [] (fun fb => by kernel_rfl) rfl trivial ?_
 refine WL.cutV (T := Bool) 14 (fun t => [(28, (.bool t)), (0, (.slice A_p0 p0.length c_p0)), (1, (iv p1)), (2, (iv p2)), (7, (pt g2248))]) (fun t => ((((decide (p1 < 1)) || (decide (p1 > 8))) || (decide (p2 < 1))) || (decide (p2 > 60))) = t) (fun K => ?_) ?_
 ·
  rcases Bool.eq_false_or_eq_true (((decide (p1 < 1)) || (decide (p1 > 8))) || (decide (p2 < 1))) with h2262 | h2262
  ·
   refine WL.setB 25 h2262 rfl ?_
   refine seg 14 [] [0, 1, 2, 7, 28] [(0, (.slice A_p0 p0.length c_p0)), (1, (iv p1)), (2, (iv p2)), (7, (pt g2248)), (28, (.bool true))] [] (fun fb => by kernel_rfl) rfl trivial ?_
   exact WL.toV K true [28, 0, 1, 2, 7] rfl (by first | (rw [h2262]; done) | (rw [h2262]; rfl))
  refine WL.setB 25 h2262 rfl ?_
  refine seg 14 [] [0, 1, 2, 7, 28] [(0, (.slice A_p0 p0.length c_p0)), (1, (iv p1)), (2, (iv p2)), (7, (pt g2248)), (28, (.bool (decide (p2 > 60))))] [] (fun fb => by kernel_rfl) rfl trivial ?_
  exact WL.toV K (decide (p2 > 60)) [28, 0, 1, 2, 7] rfl (by first | (rw [h2262]; done) | (rw [h2262]; rfl))
 rintro b2263 rfl
 refine WL.done rfl ?_
 refine WX.next ?_
 rcases br_some hf with ⟨h2264, hf⟩ | ⟨h2264, hf⟩
 ·refine WC.condT2 (fun fb => by kernel_rfl) h2264 ?_
  refine WC.seq ?_
  refine WC.region ?_
  refine seg 2 [] [8, 9] [(8, (.pointer none)), (9, (iv 2))] [] (fun fb => by kernel_rfl) rfl trivial ?_
  refine WL.done rfl ?_
  refine WX.next ?_
  refine WC.ret ?_
  injection hf with hf
  subst hf
  exact WX.thenR (WX.ret_ [] (.tuple #[(.pointer none), (iv 2)]) [] (fun fb => by kernel_rfl) trivial ⟨_, rfl, 0, none, 0, h0, rfl, hS2256.keep⟩)
 refine WC.condF2 (fun fb => by kernel_rfl) h2264 ?_
 refine WC.skip ?_
 refine WX.next ?_
 refine WC.seq ?_
 refine WC.seq ?_
 refine WC.region ?_
 refine seg 16 [.v (.slice A_p3_North p3.North.length c_p3_North), .v (.slice A_p3_South p3.South.length c_p3_South), .v (.slice A_p3_East p3.East.length c_p3_East), .v (.slice A_p3_West p3.West.length c_p3_West)] [0, 1, 2, 7, 32, 36, 40, 44] [(0, (.slice A_p0 p0.length c_p0)), (1, (iv p1)), (2, (iv p2)), (7, (pt g2248)), (32, (.agg #[(.slice A_p3_North p3.North.length c_p3_North), (iv p1)])), (36, (.agg #[(.slice A_p3_South p3.South.length c_p3_South), (iv p1)])), (40, (.agg #[(.slice A_p3_East p3.East.length c_p3_East), (iv p2)])), (44, (.agg #[(.slice A_p3_West p3.West.length c_p3_West), (iv p2)]))] [.cell ⟨g2248, 0, none⟩ (.slice A_p3_North p3.North.length c_p3_North), .cell ⟨g2248, 2, none⟩ (.slice A_p3_South p3.South.length c_p3_South), .cell ⟨g2248, 1, none⟩ (.slice A_p3_East p3.East.length c_p3_East), .cell ⟨g2248, 3, none⟩ (.slice A_p3_West p3.West.length c_p3_West)] (fun fb => by kernel_rfl) rfl ⟨hS2256.cell 0 rfl 0 rfl, hS2256.cell 0 rfl 2 rfl, hS2256.cell 0 rfl 1 rfl, hS2256.cell 0 rfl 3 rfl, trivial⟩ ?_
 refine WL.new hS2256 45 [] (fun g => (.slice (some ⟨g, 0, none⟩) 4 4)) (.cells #[(.slice A_p3_North p3.North.length c_p3_North), (iv p1), (.slice A_p3_South p3.South.length c_p3_South), (iv p1), (.slice A_p3_East p3.East.length c_p3_East), (iv p2), (.slice A_p3_West p3.West.length c_p3_West), (iv p2)] 108 (0, 0)) [] (fun fb g => by kernel_rfl) trivial (fun g2265 w2266 hS2267 => ?_)
 refine ⟨trivial, ?_⟩
 have hS2270 : St NoS w w2266 [nestO subN_S_side_n (hlN [(hd1 A_p3_North c_p3_North), (hd1 A_p3_South c_p3_South), (hd1 A_p3_East c_p3_East), (hd1 A_p3_West c_p3_West)]) [(S_side_n.mk p3.North p1), (S_side_n.mk p3.South p1), (S_side_n.mk p3.East p2), (S_side_n.mk p3.West p2)], rowR enc_Tile A_p0 c_p0 p0, rowR encInt A_p3_North c_p3_North p3.North, rowR encInt A_p3_East c_p3_East p3.East, rowR encInt A_p3_South c_p3_South p3.South, rowR encInt A_p3_West c_p3_West p3.West] [blk g2265 (.cells #[(.slice A_p3_North p3.North.length c_p3_North), (iv p1), (.slice A_p3_South p3.South.length c_p3_South), (iv p1), (.slice A_p3_East p3.East.length c_p3_East), (iv p2), (.slice A_p3_West p3.West.length c_p3_West), (iv p2)] 108 (0, 0)), blk g2248 (.cells #[(.slice A_p3_North p3.North.length c_p3_North), (.slice A_p3_East p3.East.length c_p3_East), (.slice A_p3_South p3.South.length c_p3_South), (.slice A_p3_West p3.West.length c_p3_West)] 57 (0, 0))] := hS2267.addR _ (nestO_cons (hS2267.rdL 1) (nestO_cons (hS2267.rdL 3) (nestO_cons (hS2267.rdL 2) (nestO_cons (hS2267.rdL 4) (nestO_nil _ _ _ _)))))
 have hS2269 : St NoS w w2266 [nestO subN_S_side_n (hlN [(hd1 A_p3_North c_p3_North), (hd1 A_p3_South c_p3_South), (hd1 A_p3_East c_p3_East), (hd1 A_p3_West c_p3_West)]) [(S_side_n.mk p3.North p1), (S_side_n.mk p3.South p1), (S_side_n.mk p3.East p2), (S_side_n.mk p3.West p2)], rowR enc_Tile A_p0 c_p0 p0, rowR encInt A_p3_North c_p3_North p3.North, rowR encInt A_p3_East c_p3_East p3.East, rowR encInt A_p3_South c_p3_South p3.South, rowR encInt A_p3_West c_p3_West p3.West] [rowO 108 encN_S_side_n (some ⟨g2265, 0, none⟩) 4 (tag (hlN [(hd1 A_p3_North c_p3_North), (hd1 A_p3_South c_p3_South), (hd1 A_p3_East c_p3_East), (hd1 A_p3_West c_p3_West)]) [(S_side_n.mk p3.North p1), (S_side_n.mk p3.South p1), (S_side_n.mk p3.East p2), (S_side_n.mk p3.West p2)]), blk g2248 (.cells #[(.slice A_p3_North p3.North.length c_p3_North), (.slice A_p3_East p3.East.length c_p3_East), (.slice A_p3_South p3.South.length c_p3_South), (.slice A_p3_West p3.West.length c_p3_West)] 57 (0, 0))] := hS2270.map1 0 _ (fun h => rowO.ofBlk h rfl (Nat.le_of_ble_eq_true (by kernel_rfl))) (fun _ h => by obtain ⟨_, h1, h2⟩ := h; injection h1 with h1; subst h1; exact h2) [1] (by decide) (by decide)
 refine seg 19 [] [0, 1, 2, 7, 45, 46, 47] [(0, (.slice A_p0 p0.length c_p0)), (1, (iv p1)), (2, (iv p2)), (7, (pt g2248)), (45, (.slice (some ⟨g2265, 0, none⟩) [(S_side_n.mk p3.North p1), (S_side_n.mk p3.South p1), (S_side_n.mk p3.East p2), (S_side_n.mk p3.West p2)].length 4)), (46, (iv ([(S_side_n.mk p3.North p1), (S_side_n.mk p3.South p1), (S_side_n.mk p3.East p2), (S_side_n.mk p3.West p2)].length : Int))), (47, (iv 0))] [] (fun fb => by kernel_rfl) rfl trivial ?_
 refine WL.done rfl ?_
 refine WX.next ?_
 obtain ⟨x2295, hx2296, hf⟩ := bind_some hf
 refine WC.cutN (T := Unit) (fun t => [(0, (.slice A_p0 p0.length c_p0)), (1, (iv p1)), (2, (iv p2)), (7, (pt g2248))]) (fun t w1 => St NoS w w1 [nestO subN_S_side_n (hlN [(hd1 A_p3_North c_p3_North), (hd1 A_p3_South c_p3_South), (hd1 A_p3_East c_p3_East), (hd1 A_p3_West c_p3_West)]) [(S_side_n.mk p3.North p1), (S_side_n.mk p3.South p1), (S_side_n.mk p3.East p2), (S_side_n.mk p3.West p2)], rowR enc_Tile A_p0 c_p0 p0, rowR encInt A_p3_North c_p3_North p3.North, rowR encInt A_p3_East c_p3_East p3.East, rowR encInt A_p3_South c_p3_South p3.South, rowR encInt A_p3_West c_p3_West p3.West] [blk g2248 (.cells #[(.slice A_p3_North p3.North.length c_p3_North), (.slice A_p3_East p3.East.length c_p3_East), (.slice A_p3_South p3.South.length c_p3_South), (.slice A_p3_West p3.West.length c_p3_West)] 57 (0, 0))] ∧ x2295 = .inr t) (fun Kx2295 => ?_) ?_
 ·
  refine WC.block ?_
  refine WC.loop (T := Int) (fun t => [(0, (.slice A_p0 p0.length c_p0)), (1, (iv p1)), (2, (iv p2)), (7, (pt g2248)), (45, (.slice (some ⟨g2265, 0, none⟩) [(S_side_n.mk p3.North p1), (S_side_n.mk p3.South p1), (S_side_n.mk p3.East p2), (S_side_n.mk p3.West p2)].length 4)), (46, (iv ([(S_side_n.mk p3.North p1), (S_side_n.mk p3.South p1), (S_side_n.mk p3.East p2), (S_side_n.mk p3.West p2)].length : Int))), (47, (iv t))]) (fun n t w1 => St NoS w w1 [nestO subN_S_side_n (hlN [(hd1 A_p3_North c_p3_North), (hd1 A_p3_South c_p3_South), (hd1 A_p3_East c_p3_East), (hd1 A_p3_West c_p3_West)]) [(S_side_n.mk p3.North p1), (S_side_n.mk p3.South p1), (S_side_n.mk p3.East p2), (S_side_n.mk p3.West p2)], rowR enc_Tile A_p0 c_p0 p0, rowR encInt A_p3_North c_p3_North p3.North, rowR encInt A_p3_East c_p3_East p3.East, rowR encInt A_p3_South c_p3_South p3.South, rowR encInt A_p3_West c_p3_West p3.West] [blk g2248 (.cells #[(.slice A_p3_North p3.North.length c_p3_North), (.slice A_p3_East p3.East.length c_p3_East), (.slice A_p3_South p3.South.length c_p3_South), (.slice A_p3_West p3.West.length c_p3_West)] 57 (0, 0)), rowO 108 encN_S_side_n (some ⟨g2265, 0, none⟩) 4 (tag (hlN [(hd1 A_p3_North c_p3_North), (hd1 A_p3_South c_p3_South), (hd1 A_p3_East c_p3_East), (hd1 A_p3_West c_p3_West)]) [(S_side_n.mk p3.North p1), (S_side_n.mk p3.South p1), (S_side_n.mk p3.East p2), (S_side_n.mk p3.West p2)])] ∧ fill_begin.l0 n t p1 p2 p3 = some x2295) k 0 [0, 1, 2, 7, 45, 46, 47] rfl ⟨(hS2269.subR [0, 1, 2, 3, 4, 5]).sub [1, 0] (by decide), hx2296⟩ ?_
  rintro k2297 x2294 w2298 ⟨hS2299, hl2300⟩
  cases k2297 with
  | zero => rw [fill_begin.l0] at hl2300; cases hl2300
  | succ k2297 =>
   rw [fill_begin.l0] at hl2300
   refine WC.seq ?_
   refine WC.region ?_
   refine seg 1 [] [0, 1, 2, 7, 45, 46, 47, 48] [(0, (.slice A_p0 p0.length c_p0)), (1, (iv p1)), (2, (iv p2)), (7, (pt g2248)), (45, (.slice (some ⟨g2265, 0, none⟩) [(S_side_n.mk p3.North p1), (S_side_n.mk p3.South p1), (S_side_n.mk p3.East p2), (S_side_n.mk p3.West p2)].length 4)), (46, (iv ([(S_side_n.mk p3.North p1), (S_side_n.mk p3.South p1), (S_side_n.mk p3.East p2), (S_side_n.mk p3.West p2)].length : Int))), (47, (iv x2294)), (48, (.bool (decide (x2294 < ([(S_side_n.mk p3.North p1), (S_side_n.mk p3.South p1), (S_side_n.mk p3.East p2), (S_side_n.mk p3.West p2)].length : Int)))))] [] (fun fb => by kernel_rfl) rfl trivial ?_
   refine WL.done rfl ?_
   refine WX.next ?_
   refine WC.seq ?_
   rcases br_some hl2300 with ⟨h2301, hl2300⟩ | ⟨h2301, hl2300⟩
   ·refine WC.condT2 (fun fb => by kernel_rfl) h2301 ?_
    refine WC.skip ?_
    refine WX.next ?_
    refine WC.seq ?_
    refine WC.block ?_
    refine WC.seq ?_
    refine WC.region ?_
    obtain ⟨h2302, hl2300⟩ := as_some hl2300
    refine seg 2 [.v (.slice (((hlN [(hd1 A_p3_North c_p3_North), (hd1 A_p3_South c_p3_South), (hd1 A_p3_East c_p3_East), (hd1 A_p3_West c_p3_West)]) x2294.toNat 0).1) ((rdD [(S_side_n.mk p3.North p1), (S_side_n.mk p3.South p1), (S_side_n.mk p3.East p2), (S_side_n.mk p3.West p2)] x2294 z_S_side_n).side).length (((hlN [(hd1 A_p3_North c_p3_North), (hd1 A_p3_South c_p3_South), (hd1 A_p3_East c_p3_East), (hd1 A_p3_West c_p3_West)]) x2294.toNat 0).2)), .v (iv ((rdD [(S_side_n.mk p3.North p1), (S_side_n.mk p3.South p1), (S_side_n.mk p3.East p2), (S_side_n.mk p3.West p2)] x2294 z_S_side_n).n))] [0, 1, 2, 7, 45, 46, 47, 50] [(0, (.slice A_p0 p0.length c_p0)), (1, (iv p1)), (2, (iv p2)), (7, (pt g2248)), (45, (.slice (some ⟨g2265, 0, none⟩) [(S_side_n.mk p3.North p1), (S_side_n.mk p3.South p1), (S_side_n.mk p3.East p2), (S_side_n.mk p3.West p2)].length 4)), (46, (iv ([(S_side_n.mk p3.North p1), (S_side_n.mk p3.South p1), (S_side_n.mk p3.East p2), (S_side_n.mk p3.West p2)].length : Int))), (47, (iv x2294)), (50, (.agg #[(.slice (((hlN [(hd1 A_p3_North c_p3_North), (hd1 A_p3_South c_p3_South), (hd1 A_p3_East c_p3_East), (hd1 A_p3_West c_p3_West)]) x2294.toNat 0).1) ((rdD [(S_side_n.mk p3.North p1), (S_side_n.mk p3.South p1), (S_side_n.mk p3.East p2), (S_side_n.mk p3.West p2)] x2294 z_S_side_n).side).length (((hlN [(hd1 A_p3_North c_p3_North), (hd1 A_p3_South c_p3_South), (hd1 A_p3_East c_p3_East), (hd1 A_p3_West c_p3_West)]) x2294.toNat 0).2)), (iv ((rdD [(S_side_n.mk p3.North p1), (S_side_n.mk p3.South p1), (S_side_n.mk p3.East p2), (S_side_n.mk p3.West p2)] x2294 z_S_side_n).n))]))] [.idx (some ⟨g2265, 0, none⟩) x2294 [(S_side_n.mk p3.North p1), (S_side_n.mk p3.South p1), (S_side_n.mk p3.East p2), (S_side_n.mk p3.West p2)].length, .cell ((adr (some ⟨g2265, 0, none⟩)).add ((x2294).toNat * 2)) (.slice (((hlN [(hd1 A_p3_North c_p3_North), (hd1 A_p3_South c_p3_South), (hd1 A_p3_East c_p3_East), (hd1 A_p3_West c_p3_West)]) x2294.toNat 0).1) ((rdD [(S_side_n.mk p3.North p1), (S_side_n.mk p3.South p1), (S_side_n.mk p3.East p2), (S_side_n.mk p3.West p2)] x2294 z_S_side_n).side).length (((hlN [(hd1 A_p3_North c_p3_North), (hd1 A_p3_South c_p3_South), (hd1 A_p3_East c_p3_East), (hd1 A_p3_West c_p3_West)]) x2294.toNat 0).2)), .cell (((adr (some ⟨g2265, 0, none⟩)).add ((x2294).toNat * 2)).add 1) (iv ((rdD [(S_side_n.mk p3.North p1), (S_side_n.mk p3.South p1), (S_side_n.mk p3.East p2), (S_side_n.mk p3.West p2)] x2294 z_S_side_n).n))] (fun fb => by kernel_rfl) rfl ⟨nrow_adr (rowO.rd (hS2299.own 1).1) h2302.1 h2302.2, nrow_cell (rowO.rd (hS2299.own 1).1) z_S_side_n h2302.1 h2302.2 0 rfl, nrow_cell (rowO.rd (hS2299.own 1).1) z_S_side_n h2302.1 h2302.2 1 rfl, trivial⟩ ?_
    refine WL.new hS2299 11 [] (fun g => (.pointer (some ⟨g, 0, none⟩))) (.cells #[(.slice none 0 0), (iv 0)] 108 (0, 0)) [] (fun fb g => by kernel_rfl) trivial (fun g2303 w2304 hS2305 => ?_)
    refine ⟨trivial, ?_⟩
    refine WL.store hS2305 0 rfl [(0, (.slice (((hlN [(hd1 A_p3_North c_p3_North), (hd1 A_p3_South c_p3_South), (hd1 A_p3_East c_p3_East), (hd1 A_p3_West c_p3_West)]) x2294.toNat 0).1) ((rdD [(S_side_n.mk p3.North p1), (S_side_n.mk p3.South p1), (S_side_n.mk p3.East p2), (S_side_n.mk p3.West p2)] x2294 z_S_side_n).side).length (((hlN [(hd1 A_p3_North c_p3_North), (hd1 A_p3_South c_p3_South), (hd1 A_p3_East c_p3_East), (hd1 A_p3_West c_p3_West)]) x2294.toNat 0).2))), (1, (iv ((rdD [(S_side_n.mk p3.North p1), (S_side_n.mk p3.South p1), (S_side_n.mk p3.East p2), (S_side_n.mk p3.West p2)] x2294 z_S_side_n).n)))] #[(.slice (((hlN [(hd1 A_p3_North c_p3_North), (hd1 A_p3_South c_p3_South), (hd1 A_p3_East c_p3_East), (hd1 A_p3_West c_p3_West)]) x2294.toNat 0).1) ((rdD [(S_side_n.mk p3.North p1), (S_side_n.mk p3.South p1), (S_side_n.mk p3.East p2), (S_side_n.mk p3.West p2)] x2294 z_S_side_n).side).length (((hlN [(hd1 A_p3_North c_p3_North), (hd1 A_p3_South c_p3_South), (hd1 A_p3_East c_p3_East), (hd1 A_p3_West c_p3_West)]) x2294.toNat 0).2)), (iv ((rdD [(S_side_n.mk p3.North p1), (S_side_n.mk p3.South p1), (S_side_n.mk p3.East p2), (S_side_n.mk p3.West p2)] x2294 z_S_side_n).n))] (fun fb => by kernel_rfl) (by kernel_rfl) rfl [1, 2] (by decide) (by decide) (fun w2307 hS2308 => ?_)
    refine ⟨trivial, ?_⟩
    refine WL.done rfl ?_
    refine WX.next ?_
    refine WC.seq ?_
    refine WC.region ?_
    refine seg 5 [.v (.slice (((hlN [(hd1 A_p3_North c_p3_North), (hd1 A_p3_South c_p3_South), (hd1 A_p3_East c_p3_East), (hd1 A_p3_West c_p3_West)]) x2294.toNat 0).1) ((rdD [(S_side_n.mk p3.North p1), (S_side_n.mk p3.South p1), (S_side_n.mk p3.East p2), (S_side_n.mk p3.West p2)] x2294 z_S_side_n).side).length (((hlN [(hd1 A_p3_North c_p3_North), (hd1 A_p3_South c_p3_South), (hd1 A_p3_East c_p3_East), (hd1 A_p3_West c_p3_West)]) x2294.toNat 0).2))] [0, 1, 2, 7, 11, 45, 46, 47, 55] [(0, (.slice A_p0 p0.length c_p0)), (1, (iv p1)), (2, (iv p2)), (7, (pt g2248)), (11, (pt g2303)), (45, (.slice (some ⟨g2265, 0, none⟩) [(S_side_n.mk p3.North p1), (S_side_n.mk p3.South p1), (S_side_n.mk p3.East p2), (S_side_n.mk p3.West p2)].length 4)), (46, (iv ([(S_side_n.mk p3.North p1), (S_side_n.mk p3.South p1), (S_side_n.mk p3.East p2), (S_side_n.mk p3.West p2)].length : Int))), (47, (iv x2294)), (55, (.bool ((((rdD [(S_side_n.mk p3.North p1), (S_side_n.mk p3.South p1), (S_side_n.mk p3.East p2), (S_side_n.mk p3.West p2)] x2294 z_S_side_n).side).length : Int) != 0)))] [.cell ⟨g2303, 0, none⟩ (.slice (((hlN [(hd1 A_p3_North c_p3_North), (hd1 A_p3_South c_p3_South), (hd1 A_p3_East c_p3_East), (hd1 A_p3_West c_p3_West)]) x2294.toNat 0).1) ((rdD [(S_side_n.mk p3.North p1), (S_side_n.mk p3.South p1), (S_side_n.mk p3.East p2), (S_side_n.mk p3.West p2)] x2294 z_S_side_n).side).length (((hlN [(hd1 A_p3_North c_p3_North), (hd1 A_p3_South c_p3_South), (hd1 A_p3_East c_p3_East), (hd1 A_p3_West c_p3_West)]) x2294.toNat 0).2))] (fun fb => by kernel_rfl) rfl ⟨hS2308.cell 0 rfl 0 rfl, trivial⟩ ?_
    refine WL.cutV (T := Bool) 12 (fun t => [(62, (.bool t)), (0, (.slice A_p0 p0.length c_p0)), (1, (iv p1)), (2, (iv p2)), (7, (pt g2248)), (45, (.slice (some ⟨g2265, 0, none⟩) [(S_side_n.mk p3.North p1), (S_side_n.mk p3.South p1), (S_side_n.mk p3.East p2), (S_side_n.mk p3.West p2)].length 4)), (46, (iv ([(S_side_n.mk p3.North p1), (S_side_n.mk p3.South p1), (S_side_n.mk p3.East p2), (S_side_n.mk p3.West p2)].length : Int))), (47, (iv x2294))]) (fun t => (((((rdD [(S_side_n.mk p3.North p1), (S_side_n.mk p3.South p1), (S_side_n.mk p3.East p2), (S_side_n.mk p3.West p2)] x2294 z_S_side_n).side).length : Int) != 0) && ((((rdD [(S_side_n.mk p3.North p1), (S_side_n.mk p3.South p1), (S_side_n.mk p3.East p2), (S_side_n.mk p3.West p2)] x2294 z_S_side_n).side).length : Int) != ((rdD [(S_side_n.mk p3.North p1), (S_side_n.mk p3.South p1), (S_side_n.mk p3.East p2), (S_side_n.mk p3.West p2)] x2294 z_S_side_n).n))) = t) (fun K => ?_) ?_
    ·
     rcases Bool.eq_false_or_eq_true ((((rdD [(S_side_n.mk p3.North p1), (S_side_n.mk p3.South p1), (S_side_n.mk p3.East p2), (S_side_n.mk p3.West p2)] x2294 z_S_side_n).side).length : Int) != 0) with h2309 | h2309
     ·
      refine WL.setB 55 h2309 rfl ?_
      refine seg 12 [.v (.slice (((hlN [(hd1 A_p3_North c_p3_North), (hd1 A_p3_South c_p3_South), (hd1 A_p3_East c_p3_East), (hd1 A_p3_West c_p3_West)]) x2294.toNat 0).1) ((rdD [(S_side_n.mk p3.North p1), (S_side_n.mk p3.South p1), (S_side_n.mk p3.East p2), (S_side_n.mk p3.West p2)] x2294 z_S_side_n).side).length (((hlN [(hd1 A_p3_North c_p3_North), (hd1 A_p3_South c_p3_South), (hd1 A_p3_East c_p3_East), (hd1 A_p3_West c_p3_West)]) x2294.toNat 0).2)), .v (iv ((rdD [(S_side_n.mk p3.North p1), (S_side_n.mk p3.South p1), (S_side_n.mk p3.East p2), (S_side_n.mk p3.West p2)] x2294 z_S_side_n).n))] [0, 1, 2, 7, 45, 46, 47, 62] [(0, (.slice A_p0 p0.length c_p0)), (1, (iv p1)), (2, (iv p2)), (7, (pt g2248)), (45, (.slice (some ⟨g2265, 0, none⟩) [(S_side_n.mk p3.North p1), (S_side_n.mk p3.South p1), (S_side_n.mk p3.East p2), (S_side_n.mk p3.West p2)].length 4)), (46, (iv ([(S_side_n.mk p3.North p1), (S_side_n.mk p3.South p1), (S_side_n.mk p3.East p2), (S_side_n.mk p3.West p2)].length : Int))), (47, (iv x2294)), (62, (.bool ((((rdD [(S_side_n.mk p3.North p1), (S_side_n.mk p3.South p1), (S_side_n.mk p3.East p2), (S_side_n.mk p3.West p2)] x2294 z_S_side_n).side).length : Int) != ((rdD [(S_side_n.mk p3.North p1), (S_side_n.mk p3.South p1), (S_side_n.mk p3.East p2), (S_side_n.mk p3.West p2)] x2294 z_S_side_n).n))))] [.cell ⟨g2303, 0, none⟩ (.slice (((hlN [(hd1 A_p3_North c_p3_North), (hd1 A_p3_South c_p3_South), (hd1 A_p3_East c_p3_East), (hd1 A_p3_West c_p3_West)]) x2294.toNat 0).1) ((rdD [(S_side_n.mk p3.North p1), (S_side_n.mk p3.South p1), (S_side_n.mk p3.East p2), (S_side_n.mk p3.West p2)] x2294 z_S_side_n).side).length (((hlN [(hd1 A_p3_North c_p3_North), (hd1 A_p3_South c_p3_South), (hd1 A_p3_East c_p3_East), (hd1 A_p3_West c_p3_West)]) x2294.toNat 0).2)), .cell ⟨g2303, 1, none⟩ (iv ((rdD [(S_side_n.mk p3.North p1), (S_side_n.mk p3.South p1), (S_side_n.mk p3.East p2), (S_side_n.mk p3.West p2)] x2294 z_S_side_n).n))] (fun fb => by kernel_rfl) rfl ⟨hS2308.cell 0 rfl 0 rfl, hS2308.cell 0 rfl 1 rfl, trivial⟩ ?_
      exact WL.toV K ((((rdD [(S_side_n.mk p3.North p1), (S_side_n.mk p3.South p1), (S_side_n.mk p3.East p2), (S_side_n.mk p3.West p2)] x2294 z_S_side_n).side).length : Int) != ((rdD [(S_side_n.mk p3.North p1), (S_side_n.mk p3.South p1), (S_side_n.mk p3.East p2), (S_side_n.mk p3.West p2)] x2294 z_S_side_n).n)) [62, 0, 1, 2, 7, 45, 46, 47] rfl (by first | (rw [h2309]; done) | (rw [h2309]; rfl))
     refine WL.setB 55 h2309 rfl ?_
     refine seg 12 [] [0, 1, 2, 7, 45, 46, 47, 62] [(0, (.slice A_p0 p0.length c_p0)), (1, (iv p1)), (2, (iv p2)), (7, (pt g2248)), (45, (.slice (some ⟨g2265, 0, none⟩) [(S_side_n.mk p3.North p1), (S_side_n.mk p3.South p1), (S_side_n.mk p3.East p2), (S_side_n.mk p3.West p2)].length 4)), (46, (iv ([(S_side_n.mk p3.North p1), (S_side_n.mk p3.South p1), (S_side_n.mk p3.East p2), (S_side_n.mk p3.West p2)].length : Int))), (47, (iv x2294)), (62, (.bool false))] [] (fun fb => by kernel_rfl) rfl trivial ?_
     exact WL.toV K false [62, 0, 1, 2, 7, 45, 46, 47] rfl (by first | (rw [h2309]; done) | (rw [h2309]; rfl))
    rintro b2310 rfl
    refine WL.done rfl ?_
    refine WX.next ?_
    rcases br_some hl2300 with ⟨h2311, hl2300⟩ | ⟨h2311, hl2300⟩
    ·refine WC.condT2 (fun fb => by kernel_rfl) h2311 ?_
     refine WC.seq ?_
     refine WC.region ?_
     refine seg 2 [] [8, 9] [(8, (.pointer none)), (9, (iv 2))] [] (fun fb => by kernel_rfl) rfl trivial ?_
     refine WL.done rfl ?_
     refine WX.next ?_
     refine WC.ret ?_
     injection hl2300 with hl2300
     subst hl2300
     injection hf with hf
     subst hf
     exact WX.blockR (WX.thenR (WX.thenR (WX.blockR (WX.thenR (WX.ret_ [] (.tuple #[(.pointer none), (iv 2)]) [] (fun fb => by kernel_rfl) trivial ⟨_, rfl, 0, none, 0, h0, rfl, hS2308.keep⟩)))))
    refine WC.condF2 (fun fb => by kernel_rfl) h2311 ?_
    refine WC.skip ?_
    refine WX.blockN (WX.next ?_)
    refine WC.region ?_
    refine seg 2 [] [0, 1, 2, 7, 45, 46, 47] [(0, (.slice A_p0 p0.length c_p0)), (1, (iv p1)), (2, (iv p2)), (7, (pt g2248)), (45, (.slice (some ⟨g2265, 0, none⟩) [(S_side_n.mk p3.North p1), (S_side_n.mk p3.South p1), (S_side_n.mk p3.East p2), (S_side_n.mk p3.West p2)].length 4)), (46, (iv ([(S_side_n.mk p3.North p1), (S_side_n.mk p3.South p1), (S_side_n.mk p3.East p2), (S_side_n.mk p3.West p2)].length : Int))), (47, (iv (w64 (x2294 + 1))))] [] (fun fb => by kernel_rfl) rfl trivial ?_
    refine WL.done rfl ?_
    exact WX.again k2297 (Nat.lt_succ_self _) (w64 (x2294 + 1)) [0, 1, 2, 7, 45, 46, 47] rfl ⟨(hS2308.subR [0, 1, 2, 3, 4, 5]).sub [1, 2] (by decide), hl2300⟩
   refine WC.condF2 (fun fb => by kernel_rfl) h2301 ?_
   refine WC.exit ?_
   injection hl2300 with hl2300
   exact WX.thenX (WX.thenX (WX.blockHere (WX.to Kx2295 () [0, 1, 2, 7] rfl ⟨(hS2299.subR [0, 1, 2, 3, 4, 5]).sub [0] (by decide), hl2300.symm⟩)))
 rintro y2315 w2312 ⟨hS2313, hq2314⟩
 subst hq2314
 have hf := sum_inr hf
 refine WX.next ?_
 refine WC.seq ?_
 refine WC.seq ?_
 refine WC.region ?_
 refine seg 2 [] [0, 1, 2, 7, 64, 65] [(0, (.slice A_p0 p0.length c_p0)), (1, (iv p1)), (2, (iv p2)), (7, (pt g2248)), (64, (.slice A_p0 p0.length c_p0)), (65, (iv p1))] [] (fun fb => by kernel_rfl) rfl trivial ?_
 obtain ⟨t2317, ht2318, hf⟩ := bind_some hf
 refine WL.call (some 66) 45 #[(.slice A_p0 p0.length c_p0), (iv p1)] (fun fb => by kernel_rfl) (rows_Few_calls _ p0 p1 A_p0 c_p0 t2317 _ (hS2313.rd 1) ht2318) (fun v w2319 hR2320 => ?_)
 obtain ⟨rfl, hk_⟩ := hR2320
 have hS2321 := hS2313.keepN hk_
 refine ⟨trivial, ?_⟩
 refine seg 4 [] [0, 1, 2, 7, 67] [(0, (.slice A_p0 p0.length c_p0)), (1, (iv p1)), (2, (iv p2)), (7, (pt g2248)), (67, (.bool (!t2317)))] [] (fun fb => by kernel_rfl) rfl trivial ?_
 refine WL.done rfl ?_
 refine WX.next ?_
 rcases br_some hf with ⟨h2322, hf⟩ | ⟨h2322, hf⟩
 ·refine WC.condT2 (fun fb => by kernel_rfl) h2322 ?_
  refine WC.seq ?_
  refine WC.region ?_
  refine seg 2 [] [8, 9] [(8, (.pointer none)), (9, (iv 4))] [] (fun fb => by kernel_rfl) rfl trivial ?_
  refine WL.done rfl ?_
  refine WX.next ?_
  refine WC.ret ?_
  injection hf with hf
  subst hf
  exact WX.thenR (WX.ret_ [] (.tuple #[(.pointer none), (iv 4)]) [] (fun fb => by kernel_rfl) trivial ⟨_, rfl, 0, none, 0, h0, rfl, hS2321.keep⟩)
 refine WC.condF2 (fun fb => by kernel_rfl) h2322 ?_
 refine WC.skip ?_
 refine WX.next ?_
 refine WC.seq ?_
 refine WC.regionD ([(5, ⟨g2248, 0, none⟩, (.slice A_p3_North p3.North.length c_p3_North)), (5, ⟨g2248, 1, none⟩, (.slice A_p3_East p3.East.length c_p3_East)), (5, ⟨g2248, 2, none⟩, (.slice A_p3_South p3.South.length c_p3_South)), (5, ⟨g2248, 3, none⟩, (.slice A_p3_West p3.West.length c_p3_West))], [0, 1, 3, 4, 5, 6, 8, 9], [[], [], [0, 1], [], [], [], [0, 1, 2, 3, 4, 5], [0, 1, 2, 3, 4, 5, 6], [0, 1, 2, 3, 4, 5, 6, 7], [0, 1, 2, 3, 4, 5, 6, 7, 8]]) [[0, 1, 3, 4, 5, 2, 6, 7, 8, 9]] (by kernel_rfl) (by kernel_rfl) (NoPanic.seq (NoPanic.body)) ?_
 have hS2336 := hS2321.drew
 revert hS2336
 generalize World.drew w2319 = w2335
 intro hS2336
 refine ⟨⟨hS2336.cell 0 rfl 0 rfl, hS2336.cell 0 rfl 1 rfl, hS2336.cell 0 rfl 2 rfl, hS2336.cell 0 rfl 3 rfl, trivial⟩, forallC ?_ (forallN)⟩
 refine segF 5 [.v (.slice A_p3_North p3.North.length c_p3_North), .v (.slice A_p3_East p3.East.length c_p3_East), .v (.slice A_p3_South p3.South.length c_p3_South), .v (.slice A_p3_West p3.West.length c_p3_West)] [68, 69, 71, 72, 73] [(68, (.slice A_p0 p0.length c_p0)), (69, (iv p1)), (71, (iv p1)), (72, (iv p2)), (73, (.agg #[(.slice A_p3_North p3.North.length c_p3_North), (.slice A_p3_East p3.East.length c_p3_East), (.slice A_p3_South p3.South.length c_p3_South), (.slice A_p3_West p3.West.length c_p3_West)]))] [] [0, 1, 2, 3] [(5, ⟨g2248, 0, none⟩, (.slice A_p3_North p3.North.length c_p3_North)), (5, ⟨g2248, 1, none⟩, (.slice A_p3_East p3.East.length c_p3_East)), (5, ⟨g2248, 2, none⟩, (.slice A_p3_South p3.South.length c_p3_South)), (5, ⟨g2248, 3, none⟩, (.slice A_p3_West p3.West.length c_p3_West))] (fun fb => by kernel_rfl) rfl trivial rfl ?_
 obtain ⟨t2337, ht2338, hf⟩ := bind_some hf
 refine WL.call (some 70) 67 #[(.slice A_p0 p0.length c_p0), (iv p1)] (fun fb => by kernel_rfl) (rows_All_calls _ p0 p1 A_p0 c_p0 t2337 _ (hS2336.rd 1) ht2338) (fun v w2339 hR2340 => ?_)
 obtain ⟨A2342, c2343, H2344, rfl, hk_⟩ := hR2340
 have hS2341 : St NoS w w2339 [nestO subN_S_side_n (hlN [(hd1 A_p3_North c_p3_North), (hd1 A_p3_South c_p3_South), (hd1 A_p3_East c_p3_East), (hd1 A_p3_West c_p3_West)]) [(S_side_n.mk p3.North p1), (S_side_n.mk p3.South p1), (S_side_n.mk p3.East p2), (S_side_n.mk p3.West p2)], rowR enc_Tile A_p0 c_p0 p0, rowR encInt A_p3_North c_p3_North p3.North, rowR encInt A_p3_East c_p3_East p3.East, rowR encInt A_p3_South c_p3_South p3.South, rowR encInt A_p3_West c_p3_West p3.West] [rowO 88 encN_Row A2342 c2343 (tag H2344 t2337), poolO [nestO subN_Row H2344 t2337], blk g2248 (.cells #[(.slice A_p3_North p3.North.length c_p3_North), (.slice A_p3_East p3.East.length c_p3_East), (.slice A_p3_South p3.South.length c_p3_South), (.slice A_p3_West p3.West.length c_p3_West)] 57 (0, 0))] := hS2336.call hk_ [] [0] (fun g hg => hg.elim) (by simp) (by decide)
 refine ⟨⟨hS2341.cell 2 rfl 0 rfl, hS2341.cell 2 rfl 1 rfl, hS2341.cell 2 rfl 2 rfl, hS2341.cell 2 rfl 3 rfl, trivial⟩, ?_⟩
 refine seg 7 [] [74] [(74, (.agg #[(.slice A2342 t2337.length c2343), (iv p1), (iv p2), (.slice A_p3_North p3.North.length c_p3_North), (.slice A_p3_East p3.East.length c_p3_East), (.slice A_p3_South p3.South.length c_p3_South), (.slice A_p3_West p3.West.length c_p3_West)]))] [] (fun fb => by kernel_rfl) rfl trivial ?_
 refine WL.new hS2341 75 [] (fun g => (.pointer (some ⟨g, 0, none⟩))) (.cells #[(.slice A2342 t2337.length c2343), (iv p1), (iv p2), (.slice A_p3_North p3.North.length c_p3_North), (.slice A_p3_East p3.East.length c_p3_East), (.slice A_p3_South p3.South.length c_p3_South), (.slice A_p3_West p3.West.length c_p3_West)] 84 (0, 0)) [] (fun fb g => by kernel_rfl) trivial (fun g2345 w2346 hS2347 => ?_)
 refine ⟨trivial, ?_⟩
 refine seg 10 [] [8, 9] [(8, (pt g2345)), (9, (iv 0))] [] (fun fb => by kernel_rfl) rfl trivial ?_
 refine WL.done rfl ?_
 refine WX.next ?_
 refine WC.ret ?_
 injection hf with hf
 subst hf
 exact WX.ret_ [] (.tuple #[(pt g2345), (iv 0)]) [] (fun fb => by kernel_rfl) trivial ⟨_, rfl, g2345, A2342, c2343, H2344, rfl, (hS2347.sub [0, 1, 2] (by decide)).noR⟩
theorem fill_at_calls (p0 : List Int) (p1 : Int) (p2 : Int) (A_p0 : Option Addr) (c_p0 : Nat) (r : Bool) (w : World) (hR0 : RO NoS w (rowR encInt A_p0 c_p0 p0)) (hf : fill_at p0 p1 p2 = some r) :
  CallsR Try.prog 68 #[(.slice A_p0 p0.length c_p0), (iv p1), (iv p2)] w (fun v w' => v = (.bool r) ∧ Keeps NoS w w') := by
 have hS : St NoS w w [rowR encInt A_p0 c_p0 p0] [] := St.init (ro_cons hR0 (ro_nil _ _))
 refine enter 18 Try.func68 rfl Try.ntmps68 rfl ?_
 unfold fill_at at hf
 refine WC.seq ?_
 refine WC.region ?_
 refine seg 1 [] [0, 1, 2] [(0, (.slice A_p0 p0.length c_p0)), (1, (iv p1)), (2, (iv p2))] [] (fun fb => by kernel_rfl) rfl trivial ?_
 refine WL.done rfl ?_
 refine WX.next ?_
 refine WC.seq ?_
 refine WC.region ?_
 refine seg 4 [] [0, 1, 2, 10] [(0, (.slice A_p0 p0.length c_p0)), (1, (iv p1)), (2, (iv p2)), (10, (.bool ((p0.length : Int) == 0)))] [] (fun fb => by kernel_rfl) rfl trivial ?_
 obtain ⟨b2451, hv2452, hf⟩ := bind_some hf
 refine WL.cutV (T := Unit) 11 (fun t => [(17, (.bool b2451))]) (fun t => True) (fun K => ?_) ?_
 ·
  rcases br_some hv2452 with ⟨h2453, hv2452⟩ | ⟨h2453, hv2452⟩
  ·
   refine WL.setB 10 h2453 rfl ?_
   refine seg 11 [] [17] [(17, (.bool true))] [] (fun fb => by kernel_rfl) rfl trivial ?_
   injection hv2452 with hv2452
   subst hv2452
   exact WL.toV K () [17] rfl trivial
  refine WL.setB 10 h2453 rfl ?_
  refine seg 6 [] [2, 10, 11, 12] [(2, (iv p2)), (10, (.bool false)), (11, (.slice A_p0 p0.length c_p0)), (12, (iv p1))] [] (fun fb => by kernel_rfl) rfl trivial ?_
  obtain ⟨h2454, hv2452⟩ := as_some hv2452
  refine seg 11 [.v (iv (rdD p0 p1 0))] [17] [(17, (.bool ((rdD p0 p1 0) == p2)))] [.idx A_p0 p1 p0.length, .cell ((adr A_p0).add ((p1).toNat * 1)) (iv (rdD p0 p1 0))] (fun fb => by kernel_rfl) rfl ⟨rowR.adr (hS.rd 0).1 h2454.1 h2454.2, rowR.cell (hS.rd 0).1 0 h2454.1 h2454.2 0 rfl, trivial⟩ ?_
  injection hv2452 with hv2452
  subst hv2452
  exact WL.toV K () [17] rfl trivial
 rintro _ _
 refine seg 12 [] [6] [(6, (.bool b2451))] [] (fun fb => by kernel_rfl) rfl trivial ?_
 refine WL.done rfl ?_
 refine WX.next ?_
 refine WC.ret ?_
 injection hf with hf
 subst hf
 exact WX.ret_ [] (.bool b2451) [] (fun fb => by kernel_rfl) trivial ⟨_, rfl, rfl, hS.keep⟩
end Gp
