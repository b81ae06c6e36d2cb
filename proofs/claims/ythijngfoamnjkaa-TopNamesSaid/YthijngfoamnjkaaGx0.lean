/- Walks: each function of the program computes its plain function. -/
import Derived.Test.YthijngfoamnjkaaGp
set_option linter.unusedVariables false
set_option linter.unusedSimpArgs false
set_option maxHeartbeats 4000000
set_option maxRecDepth 8000
namespace Gp
open Go Gw Go.Proofs
theorem top_cycle_calls (p0 : Int) (p1 : Int)  (r : Int) (w : World)  (hf : top_cycle p0 p1 = some r) :
  CallsR Try.prog 9 #[(iv p0), (iv p1)] w (fun v w' => v = (iv r) ∧ Keeps NoS w w') := by
 have hS : St NoS w w [] [] := St.init (ro_nil _ _)
 refine enter 12 Try.func9 rfl Try.ntmps9 rfl ?_
 unfold top_cycle at hf
 refine WC.seq (WC.region ?_)
 refine sg 1 [] [0, 1] [(0, (iv p0)), (1, (iv p1))] (by kernel_rfl) ?_
 refine WL.done rfl (WX.next (WC.seq (WC.region ?_)))
 refine sg 2 [] [1, 5, 6] [(1, (iv p1)), (5, (iv p0)), (6, (iv p1))] (by kernel_rfl) ?_
 obtain ⟨h13, hf⟩ := as_some hf
 refine seg 8 [] [4] [(4, (iv (Int.tmod (w64 ((Int.tmod p0 p1) + p1)) p1)))] [.ne p1, .ne p1] (fun fb => by kernel_rfl) rfl ⟨h13, h13, trivial⟩ ?_
 refine WL.done rfl (WX.next ?_)
 refine WC.ret ?_
 injection hf with hf
 subst hf
 exact WX.ret_ [] (iv (Int.tmod (w64 ((Int.tmod p0 p1) + p1)) p1)) [] (fun fb => by kernel_rfl) trivial ⟨_, rfl, rfl, hS.keep⟩
theorem top_small_calls (k : Nat) (p0 : A3_Tile) (p1 : Int)  (r : (List Tile)) (w : World)  (hf : top_small k p0 p1 = some r) :
  CallsR Try.prog 4 #[(.agg #[(iv p0.e0.N), (iv p0.e0.E), (iv p0.e0.S), (iv p0.e0.W), (iv p0.e1.N), (iv p0.e1.E), (iv p0.e1.S), (iv p0.e1.W), (iv p0.e2.N), (iv p0.e2.E), (iv p0.e2.S), (iv p0.e2.W)]), (iv p1)] w (fun v w' => ∃ (A1_ : Option Addr), ∃ (c1_ : Nat), v = (sv A1_ r c1_) ∧ St NoS w w' [] [rowO 23 enc_Tile A1_ c1_ r]) := by
 have hS : St NoS w w [] [] := St.init (ro_nil _ _)
 refine enter 54 Try.func4 rfl Try.ntmps4 rfl ?_
 unfold top_small at hf
 refine WC.seq (WC.region ?_)
 refine WL.new hS 2 [] (fun g => (pt g)) (.cells #[(iv p0.e0.N), (iv p0.e0.E), (iv p0.e0.S), (iv p0.e0.W), (iv p0.e1.N), (iv p0.e1.E), (iv p0.e1.S), (iv p0.e1.W), (iv p0.e2.N), (iv p0.e2.E), (iv p0.e2.S), (iv p0.e2.W)] 24 (0, 0)) [] (fun fb g => by kernel_rfl) trivial (fun g9 w10 hS11 => ?_)
 refine ⟨trivial, ?_⟩
 refine sg 2 [] [1, 2] [(1, (iv p1)), (2, (pt g9))] (by kernel_rfl) ?_
 refine WL.done rfl (WX.next (WC.seq (WC.region ?_)))
 refine sg 1 [] [1, 2, 5] [(1, (iv p1)), (2, (pt g9)), (5, (.slice none 0 0))] (by kernel_rfl) ?_
 refine WL.done rfl (WX.next (WC.seq (WC.seq (WC.region ?_))))
 refine sg 1 [] [1, 2, 5, 6] [(1, (iv p1)), (2, (pt g9)), (5, (.slice none 0 0)), (6, (iv 0))] (by kernel_rfl) ?_
 refine WL.done rfl (WX.next ?_)
 have hS5 := hS11.nilrow 23 enc_Tile
 obtain ⟨x15, hx16, hf⟩ := bind_some hf
 refine WC.cutN (T := (List Tile) × (Option Addr) × Nat) (fun t => [(5, (sv t.2.1 t.1 t.2.2))]) (fun t w1 => St NoS w w1 [] [rowO 23 enc_Tile t.2.1 t.2.2 t.1] ∧ x15 = t.1) (fun Kx15 => ?_) ?_
 ·
  refine WC.block ?_
  refine WC.loop (T := ((List Tile) × Int) × (Option Addr) × Nat) (fun t => [(1, (iv p1)), (2, (pt g9)), (5, (sv t.2.1 t.1.1 t.2.2)), (6, (iv t.1.2))]) (fun n t w1 => St NoS w w1 [] [blk g9 (.cells #[(iv p0.e0.N), (iv p0.e0.E), (iv p0.e0.S), (iv p0.e0.W), (iv p0.e1.N), (iv p0.e1.E), (iv p0.e1.S), (iv p0.e1.W), (iv p0.e2.N), (iv p0.e2.E), (iv p0.e2.S), (iv p0.e2.W)] 24 (0, 0)), rowO 23 enc_Tile t.2.1 t.2.2 t.1.1] ∧ top_small.l0 n t.1.1 t.1.2 p0 p1 = some x15) k ((([] : List Tile), 0), none, 0) [1, 2, 5, 6] rfl ⟨(hS5.subR []).sub [1, 0] (by decide), hx16⟩ ?_
  rintro k17 ⟨⟨l8, x12⟩, A6, c7⟩ w18 ⟨hS19, hl20⟩
  cases k17 with
  | zero => rw [top_small.l0] at hl20; cases hl20
  | succ k17 =>
   rw [top_small.l0] at hl20
   refine WC.seq (WC.seq (WC.region ?_))
   refine sg 2 [] [1, 2, 5, 6, 10, 11] [(1, (iv p1)), (2, (pt g9)), (5, (sv A6 l8 c7)), (6, (iv x12)), (10, (iv x12)), (11, (iv p1))] (by kernel_rfl) ?_
   obtain ⟨t21, ht22, hl20⟩ := bind_some hl20
   refine WL.call (some 12) 9 #[(iv p1), (iv 4)] (fun fb => by kernel_rfl) (top_cycle_calls p1 4 t21 _ ht22) (fun v w23 hR24 => ?_)
   obtain ⟨rfl, hk_⟩ := hR24
   have hS25 := hS19.keepN hk_
   refine ⟨trivial, ?_⟩
   refine sg 4 [] [1, 2, 5, 6, 13] [(1, (iv p1)), (2, (pt g9)), (5, (sv A6 l8 c7)), (6, (iv x12)), (13, (bv (decide (x12 < t21))))] (by kernel_rfl) ?_
   refine WL.done rfl (WX.next ?_)
   rcases br_some hl20 with ⟨h26, hl20⟩ | ⟨h26, hl20⟩
   ·refine WC.condT2 (fun fb => by kernel_rfl) h26 ?_
    refine WC.skip (WX.next (WC.seq (WC.block (WC.seq (WC.region ?_)))))
    refine sg 1 [] [1, 2, 5, 6, 16] [(1, (iv p1)), (2, (pt g9)), (5, (sv A6 l8 c7)), (6, (iv x12)), (16, (iv x12))] (by kernel_rfl) ?_
    rcases br_some hl20 with ⟨h27, hl20⟩ | ⟨h27, hl20⟩
    ·
     refine WL.setI 16 (eq_of_beq h27) rfl ?_
     refine sg 2 [] [1, 2, 5, 6, 17] [(1, (iv p1)), (2, (pt g9)), (5, (sv A6 l8 c7)), (6, (iv x12)), (17, (pt g9))] (by kernel_rfl) ?_
     refine seg 3 [.v (iv p0.e0.N), .v (iv p0.e0.E), .v (iv p0.e0.S), .v (iv p0.e0.W)] [1, 2, 5, 6, 18] [(1, (iv p1)), (2, (pt g9)), (5, (sv A6 l8 c7)), (6, (iv x12)), (18, (.agg #[(iv p0.e0.N), (iv p0.e0.E), (iv p0.e0.S), (iv p0.e0.W)]))] [.cell ⟨g9, 0, none⟩ (iv p0.e0.N), .cell ⟨g9, 1, none⟩ (iv p0.e0.E), .cell ⟨g9, 2, none⟩ (iv p0.e0.S), .cell ⟨g9, 3, none⟩ (iv p0.e0.W)] (fun fb => by kernel_rfl) rfl ⟨hS25.cell 0 rfl 0 rfl, hS25.cell 0 rfl 1 rfl, hS25.cell 0 rfl 2 rfl, hS25.cell 0 rfl 3 rfl, trivial⟩ ?_
     refine WL.new hS25 7 [] (fun g => (pt g)) (.cells #[(iv 0), (iv 0), (iv 0), (iv 0)] 23 (0, 0)) [] (fun fb g => by kernel_rfl) trivial (fun g28 w29 hS30 => ?_)
     refine ⟨trivial, ?_⟩
     refine WL.store hS30 0 rfl [(0, (iv p0.e0.N)), (1, (iv p0.e0.E)), (2, (iv p0.e0.S)), (3, (iv p0.e0.W))] #[(iv p0.e0.N), (iv p0.e0.E), (iv p0.e0.S), (iv p0.e0.W)] (fun fb => by kernel_rfl) (by kernel_rfl) rfl [1, 2] (by decide) (by decide) (fun w31 hS32 => ?_)
     refine ⟨trivial, ?_⟩
     refine WL.done rfl (WX.next (WC.seq ?_))
     refine WC.regionD ([(1, ⟨g28, 0, none⟩, (iv p0.e0.N)), (4, ⟨g28, 1, none⟩, (iv p0.e0.E)), (7, ⟨g28, 2, none⟩, (iv p0.e0.S)), (10, ⟨g28, 3, none⟩, (iv p0.e0.W))], [0, 1, 3, 4, 6, 7, 9, 10, 12], [[], [0], [0, 1], [], [3], [0, 1, 2, 3, 4], [], [6], [0, 1, 2, 3, 4, 5, 6, 7], [], [9], [0, 1, 2, 3, 4, 5, 6, 7, 8, 9, 10], [0, 1, 2, 3, 4, 5, 6, 7, 8, 9, 10, 11], [0, 1, 2, 3, 4, 5, 6, 7, 8, 9, 10, 11, 12]]) [[0, 1, 3, 4, 6, 7, 9, 10, 2, 5, 8, 11, 12, 13]] (by kernel_rfl) (by kernel_rfl) (NoPanic.seq (NoPanic.block (NoPanic.seq (NoPanic.seq (NoPanic.block (NoPanic.seq (NoPanic.body))))))) ?_
     have hS34 := hS32.drew
     revert hS34
     generalize World.drew w31 = w33
     intro hS34
     refine ⟨⟨hS34.cell 0 rfl 0 rfl, hS34.cell 0 rfl 1 rfl, hS34.cell 0 rfl 2 rfl, hS34.cell 0 rfl 3 rfl, trivial⟩, forallC ?_ (forallN)⟩
     refine segF 8 [.v (iv p0.e0.N), .v (iv p0.e0.E), .v (iv p0.e0.S), .v (iv p0.e0.W)] [1, 2, 5, 6, 7, 20, 23, 26, 29] [(1, (iv p1)), (2, (pt g9)), (5, (sv A6 l8 c7)), (6, (iv x12)), (7, (pt g28)), (20, (iv p0.e0.N)), (23, (iv p0.e0.E)), (26, (iv p0.e0.S)), (29, (iv p0.e0.W))] [] [0, 1, 2, 3] [(1, ⟨g28, 0, none⟩, (iv p0.e0.N)), (4, ⟨g28, 1, none⟩, (iv p0.e0.E)), (7, ⟨g28, 2, none⟩, (iv p0.e0.S)), (10, ⟨g28, 3, none⟩, (iv p0.e0.W))] (fun fb => by kernel_rfl) rfl trivial rfl ?_
     obtain ⟨t35, ht36, hl20⟩ := bind_some hl20
     refine WL.call (some 21) 9 #[(iv p0.e0.N), (iv 6)] (fun fb => by kernel_rfl) (top_cycle_calls p0.e0.N 6 t35 _ ht36) (fun v w37 hR38 => ?_)
     obtain ⟨rfl, hk_⟩ := hR38
     have hS39 := hS34.keepN hk_
     refine ⟨⟨hS39.cell 0 rfl 1 rfl, hS39.cell 0 rfl 2 rfl, hS39.cell 0 rfl 3 rfl, trivial⟩, ?_⟩
     obtain ⟨t40, ht41, hl20⟩ := bind_some hl20
     refine WL.call (some 24) 9 #[(iv p0.e0.E), (iv 6)] (fun fb => by kernel_rfl) (top_cycle_calls p0.e0.E 6 t40 _ ht41) (fun v w42 hR43 => ?_)
     obtain ⟨rfl, hk_⟩ := hR43
     have hS44 := hS39.keepN hk_
     refine ⟨⟨hS44.cell 0 rfl 2 rfl, hS44.cell 0 rfl 3 rfl, trivial⟩, ?_⟩
     obtain ⟨t45, ht46, hl20⟩ := bind_some hl20
     refine WL.call (some 27) 9 #[(iv p0.e0.S), (iv 6)] (fun fb => by kernel_rfl) (top_cycle_calls p0.e0.S 6 t45 _ ht46) (fun v w47 hR48 => ?_)
     obtain ⟨rfl, hk_⟩ := hR48
     have hS49 := hS44.keepN hk_
     refine ⟨⟨hS49.cell 0 rfl 3 rfl, trivial⟩, ?_⟩
     obtain ⟨t50, ht51, hl20⟩ := bind_some hl20
     refine WL.call (some 30) 9 #[(iv p0.e0.W), (iv 6)] (fun fb => by kernel_rfl) (top_cycle_calls p0.e0.W 6 t50 _ ht51) (fun v w52 hR53 => ?_)
     obtain ⟨rfl, hk_⟩ := hR53
     have hS54 := hS49.keepN hk_
     refine ⟨trivial, ?_⟩
     refine sg 13 [] [1, 2, 5, 6, 7, 31] [(1, (iv p1)), (2, (pt g9)), (5, (sv A6 l8 c7)), (6, (iv x12)), (7, (pt g28)), (31, (.agg #[(iv t35), (iv t40), (iv t45), (iv t50)]))] (by kernel_rfl) ?_
     refine WL.store hS54 0 rfl [(0, (iv t35)), (1, (iv t40)), (2, (iv t45)), (3, (iv t50))] #[(iv t35), (iv t40), (iv t45), (iv t50)] (fun fb => by kernel_rfl) (by kernel_rfl) rfl [1, 2] (by decide) (by decide) (fun w55 hS56 => ?_)
     refine ⟨trivial, ?_⟩
     refine WL.done rfl (WX.next (WC.seq (WC.region ?_)))
     refine sg 1 [] [1, 2, 5, 6, 7, 8] [(1, (iv p1)), (2, (pt g9)), (5, (sv A6 l8 c7)), (6, (iv x12)), (7, (pt g28)), (8, (bv false))] (by kernel_rfl) ?_
     refine WL.done rfl (WX.next (WC.seq (WC.seq (WC.region ?_))))
     refine sg 1 [] [1, 2, 5, 6, 7, 8, 9] [(1, (iv p1)), (2, (pt g9)), (5, (sv A6 l8 c7)), (6, (iv x12)), (7, (pt g28)), (8, (bv false)), (9, (iv 0))] (by kernel_rfl) ?_
     refine WL.done rfl (WX.next ?_)
     obtain ⟨x59, hx60, hl20⟩ := bind_some hl20
     refine WC.cutN (T := Bool) (fun t => [(1, (iv p1)), (2, (pt g9)), (5, (sv A6 l8 c7)), (6, (iv x12)), (7, (pt g28)), (8, (bv t))]) (fun t w1 => St NoS w w1 [] [blk g9 (.cells #[(iv p0.e0.N), (iv p0.e0.E), (iv p0.e0.S), (iv p0.e0.W), (iv p0.e1.N), (iv p0.e1.E), (iv p0.e1.S), (iv p0.e1.W), (iv p0.e2.N), (iv p0.e2.E), (iv p0.e2.S), (iv p0.e2.W)] 24 (0, 0)), rowO 23 enc_Tile A6 c7 l8, blk g28 (.cells #[(iv t35), (iv t40), (iv t45), (iv t50)] 23 (0, 0))] ∧ x59 = t) (fun Kx59 => ?_) ?_
     ·
      refine WC.block ?_
      refine WC.loop (T := Bool × Int) (fun t => [(1, (iv p1)), (2, (pt g9)), (5, (sv A6 l8 c7)), (6, (iv x12)), (7, (pt g28)), (8, (bv t.1)), (9, (iv t.2))]) (fun n t w1 => St NoS w w1 [] [blk g9 (.cells #[(iv p0.e0.N), (iv p0.e0.E), (iv p0.e0.S), (iv p0.e0.W), (iv p0.e1.N), (iv p0.e1.E), (iv p0.e1.S), (iv p0.e1.W), (iv p0.e2.N), (iv p0.e2.E), (iv p0.e2.S), (iv p0.e2.W)] 24 (0, 0)), rowO 23 enc_Tile A6 c7 l8, blk g28 (.cells #[(iv t35), (iv t40), (iv t45), (iv t50)] 23 (0, 0))] ∧ top_small.l1 n t.1 t.2 l8 t35 t40 t45 t50 = some x59) k17 (false, 0) [1, 2, 5, 6, 7, 8, 9] rfl ⟨(hS56.subR []).sub [1, 2, 0] (by decide), hx60⟩ ?_
      rintro k61 ⟨b57, x58⟩ w62 ⟨hS63, hl65⟩
      cases k61 with
      | zero => rw [top_small.l1] at hl65; cases hl65
      | succ k61 =>
       rw [top_small.l1] at hl65
       refine WC.seq (WC.seq (WC.region ?_))
       refine sg 4 [] [1, 2, 5, 6, 7, 8, 9, 35] [(1, (iv p1)), (2, (pt g9)), (5, (sv A6 l8 c7)), (6, (iv x12)), (7, (pt g28)), (8, (bv b57)), (9, (iv x58)), (35, (bv (decide (x58 < (l8.length : Int)))))] (by kernel_rfl) ?_
       refine WL.done rfl (WX.next ?_)
       rcases br_some hl65 with ⟨h66, hl65⟩ | ⟨h66, hl65⟩
       ·refine WC.condT2 (fun fb => by kernel_rfl) h66 ?_
        refine WC.skip (WX.next (WC.seq (WC.block ?_)))
        obtain ⟨x67, hx68, hl65⟩ := bind_some hl65
        refine WC.cutN (T := Bool) (fun t => [(1, (iv p1)), (2, (pt g9)), (5, (sv A6 l8 c7)), (6, (iv x12)), (7, (pt g28)), (8, (bv t)), (9, (iv x58))]) (fun t w1 => St NoS w w1 [] [blk g9 (.cells #[(iv p0.e0.N), (iv p0.e0.E), (iv p0.e0.S), (iv p0.e0.W), (iv p0.e1.N), (iv p0.e1.E), (iv p0.e1.S), (iv p0.e1.W), (iv p0.e2.N), (iv p0.e2.E), (iv p0.e2.S), (iv p0.e2.W)] 24 (0, 0)), rowO 23 enc_Tile A6 c7 l8, blk g28 (.cells #[(iv t35), (iv t40), (iv t45), (iv t50)] 23 (0, 0))] ∧ x67 = t) (fun Kx67 => ?_) ?_
        ·
         rcases br_some hx68 with ⟨h69, hx68⟩ | ⟨h69, hx68⟩
         ·
          refine WC.regionD ([], [0, 1, 2, 3, 4, 5, 6, 7, 8, 9], [[], [0], [0, 1], [0, 1], [0, 1, 2, 3], [0, 1, 2, 3, 4], [0, 1], [0, 1, 2, 3, 4, 5, 6], [0, 1, 2, 3, 4, 5, 6, 7], [0, 1, 2, 3, 4, 5, 6, 7, 8]]) [[0, 1, 2, 3, 4, 5, 6, 7, 8, 9]] (by kernel_rfl) (by kernel_rfl) (NoPanic.block (NoPanic.seq (NoPanic.seq (NoPanic.block (NoPanic.seq (NoPanic.block (NoPanic.seq (NoPanic.seq (NoPanic.block (NoPanic.seq (NoPanic.body))))))))))) ?_
          have hS71 := hS63.drew
          revert hS71
          generalize World.drew w62 = w70
          intro hS71
          refine ⟨trivial, forallC ?_ (forallN)⟩
          refine sg 2 [] [1, 2, 5, 6, 7, 9, 39] [(1, (iv p1)), (2, (pt g9)), (5, (sv A6 l8 c7)), (6, (iv x12)), (7, (pt g28)), (9, (iv x58)), (39, (bv b57))] (by kernel_rfl) ?_
          refine WL.setB 39 h69 rfl ?_
          refine sg 10 [] [1, 2, 5, 6, 7, 8, 9] [(1, (iv p1)), (2, (pt g9)), (5, (sv A6 l8 c7)), (6, (iv x12)), (7, (pt g28)), (8, (bv true)), (9, (iv x58))] (by kernel_rfl) ?_
          refine WL.done rfl ?_
          injection hx68 with hx68
          exact WX.to Kx67 true [1, 2, 5, 6, 7, 8, 9] rfl ⟨(hS71.subR []).sub [0, 1, 2] (by decide), hx68.symm⟩
         obtain ⟨h74, hx68⟩ := as_some hx68
         refine WC.regionD ([(5, ((adr A6).add ((x58).toNat * 4)), (iv ((rdD l8 x58 z_Tile).N))), (5, (((adr A6).add ((x58).toNat * 4)).add 1), (iv ((rdD l8 x58 z_Tile).E))), (5, (((adr A6).add ((x58).toNat * 4)).add 2), (iv ((rdD l8 x58 z_Tile).S))), (5, (((adr A6).add ((x58).toNat * 4)).add 3), (iv ((rdD l8 x58 z_Tile).W))), (6, ⟨g28, 0, none⟩, (iv t35)), (6, ⟨g28, 1, none⟩, (iv t40)), (6, ⟨g28, 2, none⟩, (iv t45)), (6, ⟨g28, 3, none⟩, (iv t50))], [0, 1, 2, 3, 4, 5, 6, 7, 8, 9], [[], [0], [0, 1], [0, 1], [0, 1, 2, 3], [0, 1, 2, 3, 4], [0, 1], [0, 1, 2, 3, 4, 5, 6], [0, 1, 2, 3, 4, 5, 6, 7], [0, 1, 2, 3, 4, 5, 6, 7, 8]]) [[0, 1, 2, 3, 4, 5, 6, 7, 8, 9]] (by kernel_rfl) (by kernel_rfl) (NoPanic.block (NoPanic.seq (NoPanic.seq (NoPanic.block (NoPanic.seq (NoPanic.block (NoPanic.seq (NoPanic.seq (NoPanic.block (NoPanic.seq (NoPanic.body))))))))))) ?_
         have hS73 := hS63.drew
         revert hS73
         generalize World.drew w62 = w72
         intro hS73
         refine ⟨⟨rowR.cell (rowO.rd (hS73.own 1).1) z_Tile h74.1 h74.2 0 rfl, rowR.cell (rowO.rd (hS73.own 1).1) z_Tile h74.1 h74.2 1 rfl, rowR.cell (rowO.rd (hS73.own 1).1) z_Tile h74.1 h74.2 2 rfl, rowR.cell (rowO.rd (hS73.own 1).1) z_Tile h74.1 h74.2 3 rfl, hS73.cell 2 rfl 0 rfl, hS73.cell 2 rfl 1 rfl, hS73.cell 2 rfl 2 rfl, hS73.cell 2 rfl 3 rfl, trivial⟩, forallC ?_ (forallN)⟩
         refine sg 2 [] [1, 2, 5, 6, 7, 9, 39] [(1, (iv p1)), (2, (pt g9)), (5, (sv A6 l8 c7)), (6, (iv x12)), (7, (pt g28)), (9, (iv x58)), (39, (bv b57))] (by kernel_rfl) ?_
         refine WL.setB 39 h69 rfl ?_
         refine segF 10 [.v (iv ((rdD l8 x58 z_Tile).N)), .v (iv ((rdD l8 x58 z_Tile).E)), .v (iv ((rdD l8 x58 z_Tile).S)), .v (iv ((rdD l8 x58 z_Tile).W)), .v (iv t35), .v (iv t40), .v (iv t45), .v (iv t50)] [1, 2, 5, 6, 7, 8, 9] [(1, (iv p1)), (2, (pt g9)), (5, (sv A6 l8 c7)), (6, (iv x12)), (7, (pt g28)), (8, (bv (((rdD l8 x58 z_Tile).N) == t35 && (((rdD l8 x58 z_Tile).E) == t40 && (((rdD l8 x58 z_Tile).S) == t45 && (((rdD l8 x58 z_Tile).W) == t50)))))), (9, (iv x58))] [.idx A6 x58 l8.length] [0, 1, 2, 3, 4, 5, 6, 7] [(5, ((adr A6).add ((x58).toNat * 4)), (iv ((rdD l8 x58 z_Tile).N))), (5, (((adr A6).add ((x58).toNat * 4)).add 1), (iv ((rdD l8 x58 z_Tile).E))), (5, (((adr A6).add ((x58).toNat * 4)).add 2), (iv ((rdD l8 x58 z_Tile).S))), (5, (((adr A6).add ((x58).toNat * 4)).add 3), (iv ((rdD l8 x58 z_Tile).W))), (6, ⟨g28, 0, none⟩, (iv t35)), (6, ⟨g28, 1, none⟩, (iv t40)), (6, ⟨g28, 2, none⟩, (iv t45)), (6, ⟨g28, 3, none⟩, (iv t50))] (fun fb => by kernel_rfl) rfl ⟨rowR.adr (rowO.rd (hS73.own 1).1) h74.1 h74.2, trivial⟩ rfl ?_
         refine WL.done rfl ?_
         injection hx68 with hx68
         exact WX.to Kx67 (((rdD l8 x58 z_Tile).N) == t35 && (((rdD l8 x58 z_Tile).E) == t40 && (((rdD l8 x58 z_Tile).S) == t45 && (((rdD l8 x58 z_Tile).W) == t50)))) [1, 2, 5, 6, 7, 8, 9] rfl ⟨(hS73.subR []).sub [0, 1, 2] (by decide), hx68.symm⟩
        rintro y78 w75 ⟨hS76, hq77⟩
        subst hq77
        refine WX.blockN (WX.next ?_)
        refine WC.region ?_
        refine sg 3 [] [1, 2, 5, 6, 7, 8, 9] [(1, (iv p1)), (2, (pt g9)), (5, (sv A6 l8 c7)), (6, (iv x12)), (7, (pt g28)), (8, (bv x67)), (9, (iv (w64 (x58 + 1))))] (by kernel_rfl) ?_
        refine WL.done rfl ?_
        exact WX.again k61 (Nat.lt_succ_self _) (x67, w64 (x58 + 1)) [1, 2, 5, 6, 7, 8, 9] rfl ⟨(hS76.subR []).sub [0, 1, 2] (by decide), hl65⟩
       refine WC.condF2 (fun fb => by kernel_rfl) h66 ?_
       refine WC.exit ?_
       injection hl65 with hl65
       exact WX.thenX (WX.thenX (WX.blockHere (WX.to Kx59 b57 [1, 2, 5, 6, 7, 8] rfl ⟨(hS63.subR []).sub [0, 1, 2] (by decide), hl65.symm⟩)))
     rintro y82 w79 ⟨hS80, hq81⟩
     subst hq81
     refine WX.next (WC.seq (WC.region ?_))
     refine sg 2 [] [1, 2, 5, 6, 7, 48] [(1, (iv p1)), (2, (pt g9)), (5, (sv A6 l8 c7)), (6, (iv x12)), (7, (pt g28)), (48, (bv (!x59)))] (by kernel_rfl) ?_
     refine WL.done rfl (WX.next ?_)
     obtain ⟨x85, hx86, hl20⟩ := bind_some hl20
     refine WC.cutN (T := (List Tile) × (Option Addr) × Nat) (fun t => [(1, (iv p1)), (2, (pt g9)), (5, (sv t.2.1 t.1 t.2.2)), (6, (iv x12))]) (fun t w1 => St NoS w w1 [] [blk g9 (.cells #[(iv p0.e0.N), (iv p0.e0.E), (iv p0.e0.S), (iv p0.e0.W), (iv p0.e1.N), (iv p0.e1.E), (iv p0.e1.S), (iv p0.e1.W), (iv p0.e2.N), (iv p0.e2.E), (iv p0.e2.S), (iv p0.e2.W)] 24 (0, 0)), rowO 23 enc_Tile t.2.1 t.2.2 t.1] ∧ x85 = t.1) (fun Kx85 => ?_) ?_
     ·
      rcases br_some hx86 with ⟨h87, hx86⟩ | ⟨h87, hx86⟩
      ·refine WC.condT2 (fun fb => by kernel_rfl) h87 ?_
       refine WC.region ?_
       refine seg 2 [.v (iv t35), .v (iv t40), .v (iv t45), .v (iv t50)] [1, 2, 6, 49, 50] [(1, (iv p1)), (2, (pt g9)), (6, (iv x12)), (49, (sv A6 l8 c7)), (50, (.agg #[(iv t35), (iv t40), (iv t45), (iv t50)]))] [.cell ⟨g28, 0, none⟩ (iv t35), .cell ⟨g28, 1, none⟩ (iv t40), .cell ⟨g28, 2, none⟩ (iv t45), .cell ⟨g28, 3, none⟩ (iv t50)] (fun fb => by kernel_rfl) rfl ⟨hS80.cell 2 rfl 0 rfl, hS80.cell 2 rfl 1 rfl, hS80.cell 2 rfl 2 rfl, hS80.cell 2 rfl 3 rfl, trivial⟩ ?_
       refine WL.new hS80 51 [] (fun g => (.slice (some ⟨g, 0, none⟩) 1 1)) (.cells #[(iv t35), (iv t40), (iv t45), (iv t50)] 23 (0, 0)) [] (fun fb g => by kernel_rfl) trivial (fun g88 w89 hS90 => ?_)
       refine ⟨trivial, ?_⟩
       have hS91 := hS.go w89 [rowO 23 enc_Tile (some ⟨g88, 0, none⟩) 1 [(Tile.mk t35 t40 t45 t50)], blk g9 (.cells #[(iv p0.e0.N), (iv p0.e0.E), (iv p0.e0.S), (iv p0.e0.W), (iv p0.e1.N), (iv p0.e1.E), (iv p0.e1.S), (iv p0.e1.W), (iv p0.e2.N), (iv p0.e2.E), (iv p0.e2.S), (iv p0.e2.W)] 24 (0, 0)), rowO 23 enc_Tile A6 c7 l8, blk g28 (.cells #[(iv t35), (iv t40), (iv t45), (iv t50)] 23 (0, 0))] (hS90.map1 0 _ (fun h => rowO.ofBlk h rfl (Nat.le_of_ble_eq_true (by kernel_rfl))) (fun _ h => by obtain ⟨_, h1, h2⟩ := h; injection h1 with h1; subst h1; exact h2) [1, 2, 3] (by decide) (by decide))
       obtain ⟨h92, hx86⟩ := as_some hx86
       refine WL.append hS91 2 (d := 52) (tS := 26) (z := (.agg #[(iv 0), (iv 0), (iv 0), (iv 0)])) (bytes := 32) (c2 := 1) rfl (fun fb => by kernel_rfl) (rowO.rd (hS91.own 0).1) (by kernel_rfl) (by kernel_rfl) rfl (by decide) h92 (by decide) [0, 1, 3] (by decide) (by decide) (fun A93 c94 w95 hS96 => ?_)
       refine ⟨trivial, ?_⟩
       refine sg 5 [] [1, 2, 5, 6] [(1, (iv p1)), (2, (pt g9)), (5, (sv A93 (l8 ++ [(Tile.mk t35 t40 t45 t50)]) c94)), (6, (iv x12))] (by kernel_rfl) ?_
       refine WL.done rfl ?_
       injection hx86 with hx86
       exact WX.to Kx85 (l8 ++ [(Tile.mk t35 t40 t45 t50)], A93, c94) [1, 2, 5, 6] rfl ⟨(hS96.subR []).sub [2, 0] (by decide), hx86.symm⟩
      refine WC.condF2 (fun fb => by kernel_rfl) h87 ?_
      refine WC.skip ?_
      injection hx86 with hx86
      exact WX.to Kx85 (l8, A6, c7) [1, 2, 5, 6] rfl ⟨(hS80.subR []).sub [0, 1] (by decide), hx86.symm⟩
     rintro ⟨y100, A83, c84⟩ w97 ⟨hS98, hq99⟩
     subst hq99
     refine WX.blockN (WX.next ?_)
     refine WC.region ?_
     refine sg 3 [] [1, 2, 5, 6] [(1, (iv p1)), (2, (pt g9)), (5, (sv A83 x85 c84)), (6, (iv (w64 (x12 + 1))))] (by kernel_rfl) ?_
     refine WL.done rfl ?_
     exact WX.again k17 (Nat.lt_succ_self _) ((x85, w64 (x12 + 1)), A83, c84) [1, 2, 5, 6] rfl ⟨(hS98.subR []).sub [0, 1] (by decide), hl20⟩
    rcases br_some hl20 with ⟨h101, hl20⟩ | ⟨h101, hl20⟩
    ·
     refine WL.setI 16 (eq_of_beq h101) rfl ?_
     refine sg 2 [] [1, 2, 5, 6, 17] [(1, (iv p1)), (2, (pt g9)), (5, (sv A6 l8 c7)), (6, (iv x12)), (17, (.pointer (some ⟨g9, 4, none⟩)))] (by kernel_rfl) ?_
     refine seg 3 [.v (iv p0.e1.N), .v (iv p0.e1.E), .v (iv p0.e1.S), .v (iv p0.e1.W)] [1, 2, 5, 6, 18] [(1, (iv p1)), (2, (pt g9)), (5, (sv A6 l8 c7)), (6, (iv x12)), (18, (.agg #[(iv p0.e1.N), (iv p0.e1.E), (iv p0.e1.S), (iv p0.e1.W)]))] [.cell ⟨g9, 4, none⟩ (iv p0.e1.N), .cell ⟨g9, 5, none⟩ (iv p0.e1.E), .cell ⟨g9, 6, none⟩ (iv p0.e1.S), .cell ⟨g9, 7, none⟩ (iv p0.e1.W)] (fun fb => by kernel_rfl) rfl ⟨hS25.cell 0 rfl 4 rfl, hS25.cell 0 rfl 5 rfl, hS25.cell 0 rfl 6 rfl, hS25.cell 0 rfl 7 rfl, trivial⟩ ?_
     refine WL.new hS25 7 [] (fun g => (pt g)) (.cells #[(iv 0), (iv 0), (iv 0), (iv 0)] 23 (0, 0)) [] (fun fb g => by kernel_rfl) trivial (fun g102 w103 hS104 => ?_)
     refine ⟨trivial, ?_⟩
     refine WL.store hS104 0 rfl [(0, (iv p0.e1.N)), (1, (iv p0.e1.E)), (2, (iv p0.e1.S)), (3, (iv p0.e1.W))] #[(iv p0.e1.N), (iv p0.e1.E), (iv p0.e1.S), (iv p0.e1.W)] (fun fb => by kernel_rfl) (by kernel_rfl) rfl [1, 2] (by decide) (by decide) (fun w105 hS106 => ?_)
     refine ⟨trivial, ?_⟩
     refine WL.done rfl (WX.next (WC.seq ?_))
     refine WC.regionD ([(1, ⟨g102, 0, none⟩, (iv p0.e1.N)), (4, ⟨g102, 1, none⟩, (iv p0.e1.E)), (7, ⟨g102, 2, none⟩, (iv p0.e1.S)), (10, ⟨g102, 3, none⟩, (iv p0.e1.W))], [0, 1, 3, 4, 6, 7, 9, 10, 12], [[], [0], [0, 1], [], [3], [0, 1, 2, 3, 4], [], [6], [0, 1, 2, 3, 4, 5, 6, 7], [], [9], [0, 1, 2, 3, 4, 5, 6, 7, 8, 9, 10], [0, 1, 2, 3, 4, 5, 6, 7, 8, 9, 10, 11], [0, 1, 2, 3, 4, 5, 6, 7, 8, 9, 10, 11, 12]]) [[0, 1, 3, 4, 6, 7, 9, 10, 2, 5, 8, 11, 12, 13]] (by kernel_rfl) (by kernel_rfl) (NoPanic.seq (NoPanic.block (NoPanic.seq (NoPanic.seq (NoPanic.block (NoPanic.seq (NoPanic.body))))))) ?_
     have hS108 := hS106.drew
     revert hS108
     generalize World.drew w105 = w107
     intro hS108
     refine ⟨⟨hS108.cell 0 rfl 0 rfl, hS108.cell 0 rfl 1 rfl, hS108.cell 0 rfl 2 rfl, hS108.cell 0 rfl 3 rfl, trivial⟩, forallC ?_ (forallN)⟩
     refine segF 8 [.v (iv p0.e1.N), .v (iv p0.e1.E), .v (iv p0.e1.S), .v (iv p0.e1.W)] [1, 2, 5, 6, 7, 20, 23, 26, 29] [(1, (iv p1)), (2, (pt g9)), (5, (sv A6 l8 c7)), (6, (iv x12)), (7, (pt g102)), (20, (iv p0.e1.N)), (23, (iv p0.e1.E)), (26, (iv p0.e1.S)), (29, (iv p0.e1.W))] [] [0, 1, 2, 3] [(1, ⟨g102, 0, none⟩, (iv p0.e1.N)), (4, ⟨g102, 1, none⟩, (iv p0.e1.E)), (7, ⟨g102, 2, none⟩, (iv p0.e1.S)), (10, ⟨g102, 3, none⟩, (iv p0.e1.W))] (fun fb => by kernel_rfl) rfl trivial rfl ?_
     obtain ⟨t109, ht110, hl20⟩ := bind_some hl20
     refine WL.call (some 21) 9 #[(iv p0.e1.N), (iv 6)] (fun fb => by kernel_rfl) (top_cycle_calls p0.e1.N 6 t109 _ ht110) (fun v w111 hR112 => ?_)
     obtain ⟨rfl, hk_⟩ := hR112
     have hS113 := hS108.keepN hk_
     refine ⟨⟨hS113.cell 0 rfl 1 rfl, hS113.cell 0 rfl 2 rfl, hS113.cell 0 rfl 3 rfl, trivial⟩, ?_⟩
     obtain ⟨t114, ht115, hl20⟩ := bind_some hl20
     refine WL.call (some 24) 9 #[(iv p0.e1.E), (iv 6)] (fun fb => by kernel_rfl) (top_cycle_calls p0.e1.E 6 t114 _ ht115) (fun v w116 hR117 => ?_)
     obtain ⟨rfl, hk_⟩ := hR117
     have hS118 := hS113.keepN hk_
     refine ⟨⟨hS118.cell 0 rfl 2 rfl, hS118.cell 0 rfl 3 rfl, trivial⟩, ?_⟩
     obtain ⟨t119, ht120, hl20⟩ := bind_some hl20
     refine WL.call (some 27) 9 #[(iv p0.e1.S), (iv 6)] (fun fb => by kernel_rfl) (top_cycle_calls p0.e1.S 6 t119 _ ht120) (fun v w121 hR122 => ?_)
     obtain ⟨rfl, hk_⟩ := hR122
     have hS123 := hS118.keepN hk_
     refine ⟨⟨hS123.cell 0 rfl 3 rfl, trivial⟩, ?_⟩
     obtain ⟨t124, ht125, hl20⟩ := bind_some hl20
     refine WL.call (some 30) 9 #[(iv p0.e1.W), (iv 6)] (fun fb => by kernel_rfl) (top_cycle_calls p0.e1.W 6 t124 _ ht125) (fun v w126 hR127 => ?_)
     obtain ⟨rfl, hk_⟩ := hR127
     have hS128 := hS123.keepN hk_
     refine ⟨trivial, ?_⟩
     refine sg 13 [] [1, 2, 5, 6, 7, 31] [(1, (iv p1)), (2, (pt g9)), (5, (sv A6 l8 c7)), (6, (iv x12)), (7, (pt g102)), (31, (.agg #[(iv t109), (iv t114), (iv t119), (iv t124)]))] (by kernel_rfl) ?_
     refine WL.store hS128 0 rfl [(0, (iv t109)), (1, (iv t114)), (2, (iv t119)), (3, (iv t124))] #[(iv t109), (iv t114), (iv t119), (iv t124)] (fun fb => by kernel_rfl) (by kernel_rfl) rfl [1, 2] (by decide) (by decide) (fun w129 hS130 => ?_)
     refine ⟨trivial, ?_⟩
     refine WL.done rfl (WX.next (WC.seq (WC.region ?_)))
     refine sg 1 [] [1, 2, 5, 6, 7, 8] [(1, (iv p1)), (2, (pt g9)), (5, (sv A6 l8 c7)), (6, (iv x12)), (7, (pt g102)), (8, (bv false))] (by kernel_rfl) ?_
     refine WL.done rfl (WX.next (WC.seq (WC.seq (WC.region ?_))))
     refine sg 1 [] [1, 2, 5, 6, 7, 8, 9] [(1, (iv p1)), (2, (pt g9)), (5, (sv A6 l8 c7)), (6, (iv x12)), (7, (pt g102)), (8, (bv false)), (9, (iv 0))] (by kernel_rfl) ?_
     refine WL.done rfl (WX.next ?_)
     obtain ⟨x133, hx134, hl20⟩ := bind_some hl20
     refine WC.cutN (T := Bool) (fun t => [(1, (iv p1)), (2, (pt g9)), (5, (sv A6 l8 c7)), (6, (iv x12)), (7, (pt g102)), (8, (bv t))]) (fun t w1 => St NoS w w1 [] [blk g9 (.cells #[(iv p0.e0.N), (iv p0.e0.E), (iv p0.e0.S), (iv p0.e0.W), (iv p0.e1.N), (iv p0.e1.E), (iv p0.e1.S), (iv p0.e1.W), (iv p0.e2.N), (iv p0.e2.E), (iv p0.e2.S), (iv p0.e2.W)] 24 (0, 0)), rowO 23 enc_Tile A6 c7 l8, blk g102 (.cells #[(iv t109), (iv t114), (iv t119), (iv t124)] 23 (0, 0))] ∧ x133 = t) (fun Kx133 => ?_) ?_
     ·
      refine WC.block ?_
      refine WC.loop (T := Bool × Int) (fun t => [(1, (iv p1)), (2, (pt g9)), (5, (sv A6 l8 c7)), (6, (iv x12)), (7, (pt g102)), (8, (bv t.1)), (9, (iv t.2))]) (fun n t w1 => St NoS w w1 [] [blk g9 (.cells #[(iv p0.e0.N), (iv p0.e0.E), (iv p0.e0.S), (iv p0.e0.W), (iv p0.e1.N), (iv p0.e1.E), (iv p0.e1.S), (iv p0.e1.W), (iv p0.e2.N), (iv p0.e2.E), (iv p0.e2.S), (iv p0.e2.W)] 24 (0, 0)), rowO 23 enc_Tile A6 c7 l8, blk g102 (.cells #[(iv t109), (iv t114), (iv t119), (iv t124)] 23 (0, 0))] ∧ top_small.l2 n t.1 t.2 l8 t109 t114 t119 t124 = some x133) k17 (false, 0) [1, 2, 5, 6, 7, 8, 9] rfl ⟨(hS130.subR []).sub [1, 2, 0] (by decide), hx134⟩ ?_
      rintro k135 ⟨b131, x132⟩ w136 ⟨hS137, hl138⟩
      cases k135 with
      | zero => rw [top_small.l2] at hl138; cases hl138
      | succ k135 =>
       rw [top_small.l2] at hl138
       refine WC.seq (WC.seq (WC.region ?_))
       refine sg 4 [] [1, 2, 5, 6, 7, 8, 9, 35] [(1, (iv p1)), (2, (pt g9)), (5, (sv A6 l8 c7)), (6, (iv x12)), (7, (pt g102)), (8, (bv b131)), (9, (iv x132)), (35, (bv (decide (x132 < (l8.length : Int)))))] (by kernel_rfl) ?_
       refine WL.done rfl (WX.next ?_)
       rcases br_some hl138 with ⟨h139, hl138⟩ | ⟨h139, hl138⟩
       ·refine WC.condT2 (fun fb => by kernel_rfl) h139 ?_
        refine WC.skip (WX.next (WC.seq (WC.block ?_)))
        obtain ⟨x140, hx141, hl138⟩ := bind_some hl138
        refine WC.cutN (T := Bool) (fun t => [(1, (iv p1)), (2, (pt g9)), (5, (sv A6 l8 c7)), (6, (iv x12)), (7, (pt g102)), (8, (bv t)), (9, (iv x132))]) (fun t w1 => St NoS w w1 [] [blk g9 (.cells #[(iv p0.e0.N), (iv p0.e0.E), (iv p0.e0.S), (iv p0.e0.W), (iv p0.e1.N), (iv p0.e1.E), (iv p0.e1.S), (iv p0.e1.W), (iv p0.e2.N), (iv p0.e2.E), (iv p0.e2.S), (iv p0.e2.W)] 24 (0, 0)), rowO 23 enc_Tile A6 c7 l8, blk g102 (.cells #[(iv t109), (iv t114), (iv t119), (iv t124)] 23 (0, 0))] ∧ x140 = t) (fun Kx140 => ?_) ?_
        ·
         rcases br_some hx141 with ⟨h142, hx141⟩ | ⟨h142, hx141⟩
         ·
          refine WC.regionD ([], [0, 1, 2, 3, 4, 5, 6, 7, 8, 9], [[], [0], [0, 1], [0, 1], [0, 1, 2, 3], [0, 1, 2, 3, 4], [0, 1], [0, 1, 2, 3, 4, 5, 6], [0, 1, 2, 3, 4, 5, 6, 7], [0, 1, 2, 3, 4, 5, 6, 7, 8]]) [[0, 1, 2, 3, 4, 5, 6, 7, 8, 9]] (by kernel_rfl) (by kernel_rfl) (NoPanic.block (NoPanic.seq (NoPanic.seq (NoPanic.block (NoPanic.seq (NoPanic.block (NoPanic.seq (NoPanic.seq (NoPanic.block (NoPanic.seq (NoPanic.body))))))))))) ?_
          have hS144 := hS137.drew
          revert hS144
          generalize World.drew w136 = w143
          intro hS144
          refine ⟨trivial, forallC ?_ (forallN)⟩
          refine sg 2 [] [1, 2, 5, 6, 7, 9, 39] [(1, (iv p1)), (2, (pt g9)), (5, (sv A6 l8 c7)), (6, (iv x12)), (7, (pt g102)), (9, (iv x132)), (39, (bv b131))] (by kernel_rfl) ?_
          refine WL.setB 39 h142 rfl ?_
          refine sg 10 [] [1, 2, 5, 6, 7, 8, 9] [(1, (iv p1)), (2, (pt g9)), (5, (sv A6 l8 c7)), (6, (iv x12)), (7, (pt g102)), (8, (bv true)), (9, (iv x132))] (by kernel_rfl) ?_
          refine WL.done rfl ?_
          injection hx141 with hx141
          exact WX.to Kx140 true [1, 2, 5, 6, 7, 8, 9] rfl ⟨(hS144.subR []).sub [0, 1, 2] (by decide), hx141.symm⟩
         obtain ⟨h147, hx141⟩ := as_some hx141
         refine WC.regionD ([(5, ((adr A6).add ((x132).toNat * 4)), (iv ((rdD l8 x132 z_Tile).N))), (5, (((adr A6).add ((x132).toNat * 4)).add 1), (iv ((rdD l8 x132 z_Tile).E))), (5, (((adr A6).add ((x132).toNat * 4)).add 2), (iv ((rdD l8 x132 z_Tile).S))), (5, (((adr A6).add ((x132).toNat * 4)).add 3), (iv ((rdD l8 x132 z_Tile).W))), (6, ⟨g102, 0, none⟩, (iv t109)), (6, ⟨g102, 1, none⟩, (iv t114)), (6, ⟨g102, 2, none⟩, (iv t119)), (6, ⟨g102, 3, none⟩, (iv t124))], [0, 1, 2, 3, 4, 5, 6, 7, 8, 9], [[], [0], [0, 1], [0, 1], [0, 1, 2, 3], [0, 1, 2, 3, 4], [0, 1], [0, 1, 2, 3, 4, 5, 6], [0, 1, 2, 3, 4, 5, 6, 7], [0, 1, 2, 3, 4, 5, 6, 7, 8]]) [[0, 1, 2, 3, 4, 5, 6, 7, 8, 9]] (by kernel_rfl) (by kernel_rfl) (NoPanic.block (NoPanic.seq (NoPanic.seq (NoPanic.block (NoPanic.seq (NoPanic.block (NoPanic.seq (NoPanic.seq (NoPanic.block (NoPanic.seq (NoPanic.body))))))))))) ?_
         have hS146 := hS137.drew
         revert hS146
         generalize World.drew w136 = w145
         intro hS146
         refine ⟨⟨rowR.cell (rowO.rd (hS146.own 1).1) z_Tile h147.1 h147.2 0 rfl, rowR.cell (rowO.rd (hS146.own 1).1) z_Tile h147.1 h147.2 1 rfl, rowR.cell (rowO.rd (hS146.own 1).1) z_Tile h147.1 h147.2 2 rfl, rowR.cell (rowO.rd (hS146.own 1).1) z_Tile h147.1 h147.2 3 rfl, hS146.cell 2 rfl 0 rfl, hS146.cell 2 rfl 1 rfl, hS146.cell 2 rfl 2 rfl, hS146.cell 2 rfl 3 rfl, trivial⟩, forallC ?_ (forallN)⟩
         refine sg 2 [] [1, 2, 5, 6, 7, 9, 39] [(1, (iv p1)), (2, (pt g9)), (5, (sv A6 l8 c7)), (6, (iv x12)), (7, (pt g102)), (9, (iv x132)), (39, (bv b131))] (by kernel_rfl) ?_
         refine WL.setB 39 h142 rfl ?_
         refine segF 10 [.v (iv ((rdD l8 x132 z_Tile).N)), .v (iv ((rdD l8 x132 z_Tile).E)), .v (iv ((rdD l8 x132 z_Tile).S)), .v (iv ((rdD l8 x132 z_Tile).W)), .v (iv t109), .v (iv t114), .v (iv t119), .v (iv t124)] [1, 2, 5, 6, 7, 8, 9] [(1, (iv p1)), (2, (pt g9)), (5, (sv A6 l8 c7)), (6, (iv x12)), (7, (pt g102)), (8, (bv (((rdD l8 x132 z_Tile).N) == t109 && (((rdD l8 x132 z_Tile).E) == t114 && (((rdD l8 x132 z_Tile).S) == t119 && (((rdD l8 x132 z_Tile).W) == t124)))))), (9, (iv x132))] [.idx A6 x132 l8.length] [0, 1, 2, 3, 4, 5, 6, 7] [(5, ((adr A6).add ((x132).toNat * 4)), (iv ((rdD l8 x132 z_Tile).N))), (5, (((adr A6).add ((x132).toNat * 4)).add 1), (iv ((rdD l8 x132 z_Tile).E))), (5, (((adr A6).add ((x132).toNat * 4)).add 2), (iv ((rdD l8 x132 z_Tile).S))), (5, (((adr A6).add ((x132).toNat * 4)).add 3), (iv ((rdD l8 x132 z_Tile).W))), (6, ⟨g102, 0, none⟩, (iv t109)), (6, ⟨g102, 1, none⟩, (iv t114)), (6, ⟨g102, 2, none⟩, (iv t119)), (6, ⟨g102, 3, none⟩, (iv t124))] (fun fb => by kernel_rfl) rfl ⟨rowR.adr (rowO.rd (hS146.own 1).1) h147.1 h147.2, trivial⟩ rfl ?_
         refine WL.done rfl ?_
         injection hx141 with hx141
         exact WX.to Kx140 (((rdD l8 x132 z_Tile).N) == t109 && (((rdD l8 x132 z_Tile).E) == t114 && (((rdD l8 x132 z_Tile).S) == t119 && (((rdD l8 x132 z_Tile).W) == t124)))) [1, 2, 5, 6, 7, 8, 9] rfl ⟨(hS146.subR []).sub [0, 1, 2] (by decide), hx141.symm⟩
        rintro y151 w148 ⟨hS149, hq150⟩
        subst hq150
        refine WX.blockN (WX.next ?_)
        refine WC.region ?_
        refine sg 3 [] [1, 2, 5, 6, 7, 8, 9] [(1, (iv p1)), (2, (pt g9)), (5, (sv A6 l8 c7)), (6, (iv x12)), (7, (pt g102)), (8, (bv x140)), (9, (iv (w64 (x132 + 1))))] (by kernel_rfl) ?_
        refine WL.done rfl ?_
        exact WX.again k135 (Nat.lt_succ_self _) (x140, w64 (x132 + 1)) [1, 2, 5, 6, 7, 8, 9] rfl ⟨(hS149.subR []).sub [0, 1, 2] (by decide), hl138⟩
       refine WC.condF2 (fun fb => by kernel_rfl) h139 ?_
       refine WC.exit ?_
       injection hl138 with hl138
       exact WX.thenX (WX.thenX (WX.blockHere (WX.to Kx133 b131 [1, 2, 5, 6, 7, 8] rfl ⟨(hS137.subR []).sub [0, 1, 2] (by decide), hl138.symm⟩)))
     rintro y155 w152 ⟨hS153, hq154⟩
     subst hq154
     refine WX.next (WC.seq (WC.region ?_))
     refine sg 2 [] [1, 2, 5, 6, 7, 48] [(1, (iv p1)), (2, (pt g9)), (5, (sv A6 l8 c7)), (6, (iv x12)), (7, (pt g102)), (48, (bv (!x133)))] (by kernel_rfl) ?_
     refine WL.done rfl (WX.next ?_)
     obtain ⟨x158, hx159, hl20⟩ := bind_some hl20
     refine WC.cutN (T := (List Tile) × (Option Addr) × Nat) (fun t => [(1, (iv p1)), (2, (pt g9)), (5, (sv t.2.1 t.1 t.2.2)), (6, (iv x12))]) (fun t w1 => St NoS w w1 [] [blk g9 (.cells #[(iv p0.e0.N), (iv p0.e0.E), (iv p0.e0.S), (iv p0.e0.W), (iv p0.e1.N), (iv p0.e1.E), (iv p0.e1.S), (iv p0.e1.W), (iv p0.e2.N), (iv p0.e2.E), (iv p0.e2.S), (iv p0.e2.W)] 24 (0, 0)), rowO 23 enc_Tile t.2.1 t.2.2 t.1] ∧ x158 = t.1) (fun Kx158 => ?_) ?_
     ·
      rcases br_some hx159 with ⟨h160, hx159⟩ | ⟨h160, hx159⟩
      ·refine WC.condT2 (fun fb => by kernel_rfl) h160 ?_
       refine WC.region ?_
       refine seg 2 [.v (iv t109), .v (iv t114), .v (iv t119), .v (iv t124)] [1, 2, 6, 49, 50] [(1, (iv p1)), (2, (pt g9)), (6, (iv x12)), (49, (sv A6 l8 c7)), (50, (.agg #[(iv t109), (iv t114), (iv t119), (iv t124)]))] [.cell ⟨g102, 0, none⟩ (iv t109), .cell ⟨g102, 1, none⟩ (iv t114), .cell ⟨g102, 2, none⟩ (iv t119), .cell ⟨g102, 3, none⟩ (iv t124)] (fun fb => by kernel_rfl) rfl ⟨hS153.cell 2 rfl 0 rfl, hS153.cell 2 rfl 1 rfl, hS153.cell 2 rfl 2 rfl, hS153.cell 2 rfl 3 rfl, trivial⟩ ?_
       refine WL.new hS153 51 [] (fun g => (.slice (some ⟨g, 0, none⟩) 1 1)) (.cells #[(iv t109), (iv t114), (iv t119), (iv t124)] 23 (0, 0)) [] (fun fb g => by kernel_rfl) trivial (fun g161 w162 hS163 => ?_)
       refine ⟨trivial, ?_⟩
       have hS164 := hS.go w162 [rowO 23 enc_Tile (some ⟨g161, 0, none⟩) 1 [(Tile.mk t109 t114 t119 t124)], blk g9 (.cells #[(iv p0.e0.N), (iv p0.e0.E), (iv p0.e0.S), (iv p0.e0.W), (iv p0.e1.N), (iv p0.e1.E), (iv p0.e1.S), (iv p0.e1.W), (iv p0.e2.N), (iv p0.e2.E), (iv p0.e2.S), (iv p0.e2.W)] 24 (0, 0)), rowO 23 enc_Tile A6 c7 l8, blk g102 (.cells #[(iv t109), (iv t114), (iv t119), (iv t124)] 23 (0, 0))] (hS163.map1 0 _ (fun h => rowO.ofBlk h rfl (Nat.le_of_ble_eq_true (by kernel_rfl))) (fun _ h => by obtain ⟨_, h1, h2⟩ := h; injection h1 with h1; subst h1; exact h2) [1, 2, 3] (by decide) (by decide))
       obtain ⟨h165, hx159⟩ := as_some hx159
       refine WL.append hS164 2 (d := 52) (tS := 26) (z := (.agg #[(iv 0), (iv 0), (iv 0), (iv 0)])) (bytes := 32) (c2 := 1) rfl (fun fb => by kernel_rfl) (rowO.rd (hS164.own 0).1) (by kernel_rfl) (by kernel_rfl) rfl (by decide) h165 (by decide) [0, 1, 3] (by decide) (by decide) (fun A166 c167 w168 hS169 => ?_)
       refine ⟨trivial, ?_⟩
       refine sg 5 [] [1, 2, 5, 6] [(1, (iv p1)), (2, (pt g9)), (5, (sv A166 (l8 ++ [(Tile.mk t109 t114 t119 t124)]) c167)), (6, (iv x12))] (by kernel_rfl) ?_
       refine WL.done rfl ?_
       injection hx159 with hx159
       exact WX.to Kx158 (l8 ++ [(Tile.mk t109 t114 t119 t124)], A166, c167) [1, 2, 5, 6] rfl ⟨(hS169.subR []).sub [2, 0] (by decide), hx159.symm⟩
      refine WC.condF2 (fun fb => by kernel_rfl) h160 ?_
      refine WC.skip ?_
      injection hx159 with hx159
      exact WX.to Kx158 (l8, A6, c7) [1, 2, 5, 6] rfl ⟨(hS153.subR []).sub [0, 1] (by decide), hx159.symm⟩
     rintro ⟨y173, A156, c157⟩ w170 ⟨hS171, hq172⟩
     subst hq172
     refine WX.blockN (WX.next ?_)
     refine WC.region ?_
     refine sg 3 [] [1, 2, 5, 6] [(1, (iv p1)), (2, (pt g9)), (5, (sv A156 x158 c157)), (6, (iv (w64 (x12 + 1))))] (by kernel_rfl) ?_
     refine WL.done rfl ?_
     exact WX.again k17 (Nat.lt_succ_self _) ((x158, w64 (x12 + 1)), A156, c157) [1, 2, 5, 6] rfl ⟨(hS171.subR []).sub [0, 1] (by decide), hl20⟩
    rcases br_some hl20 with ⟨h174, hl20⟩ | ⟨h174, hl20⟩
    ·
     refine WL.setI 16 (eq_of_beq h174) rfl ?_
     refine sg 2 [] [1, 2, 5, 6, 17] [(1, (iv p1)), (2, (pt g9)), (5, (sv A6 l8 c7)), (6, (iv x12)), (17, (.pointer (some ⟨g9, 8, none⟩)))] (by kernel_rfl) ?_
     refine seg 3 [.v (iv p0.e2.N), .v (iv p0.e2.E), .v (iv p0.e2.S), .v (iv p0.e2.W)] [1, 2, 5, 6, 18] [(1, (iv p1)), (2, (pt g9)), (5, (sv A6 l8 c7)), (6, (iv x12)), (18, (.agg #[(iv p0.e2.N), (iv p0.e2.E), (iv p0.e2.S), (iv p0.e2.W)]))] [.cell ⟨g9, 8, none⟩ (iv p0.e2.N), .cell ⟨g9, 9, none⟩ (iv p0.e2.E), .cell ⟨g9, 10, none⟩ (iv p0.e2.S), .cell ⟨g9, 11, none⟩ (iv p0.e2.W)] (fun fb => by kernel_rfl) rfl ⟨hS25.cell 0 rfl 8 rfl, hS25.cell 0 rfl 9 rfl, hS25.cell 0 rfl 10 rfl, hS25.cell 0 rfl 11 rfl, trivial⟩ ?_
     refine WL.new hS25 7 [] (fun g => (pt g)) (.cells #[(iv 0), (iv 0), (iv 0), (iv 0)] 23 (0, 0)) [] (fun fb g => by kernel_rfl) trivial (fun g175 w176 hS177 => ?_)
     refine ⟨trivial, ?_⟩
     refine WL.store hS177 0 rfl [(0, (iv p0.e2.N)), (1, (iv p0.e2.E)), (2, (iv p0.e2.S)), (3, (iv p0.e2.W))] #[(iv p0.e2.N), (iv p0.e2.E), (iv p0.e2.S), (iv p0.e2.W)] (fun fb => by kernel_rfl) (by kernel_rfl) rfl [1, 2] (by decide) (by decide) (fun w178 hS179 => ?_)
     refine ⟨trivial, ?_⟩
     refine WL.done rfl (WX.next (WC.seq ?_))
     refine WC.regionD ([(1, ⟨g175, 0, none⟩, (iv p0.e2.N)), (4, ⟨g175, 1, none⟩, (iv p0.e2.E)), (7, ⟨g175, 2, none⟩, (iv p0.e2.S)), (10, ⟨g175, 3, none⟩, (iv p0.e2.W))], [0, 1, 3, 4, 6, 7, 9, 10, 12], [[], [0], [0, 1], [], [3], [0, 1, 2, 3, 4], [], [6], [0, 1, 2, 3, 4, 5, 6, 7], [], [9], [0, 1, 2, 3, 4, 5, 6, 7, 8, 9, 10], [0, 1, 2, 3, 4, 5, 6, 7, 8, 9, 10, 11], [0, 1, 2, 3, 4, 5, 6, 7, 8, 9, 10, 11, 12]]) [[0, 1, 3, 4, 6, 7, 9, 10, 2, 5, 8, 11, 12, 13]] (by kernel_rfl) (by kernel_rfl) (NoPanic.seq (NoPanic.block (NoPanic.seq (NoPanic.seq (NoPanic.block (NoPanic.seq (NoPanic.body))))))) ?_
     have hS181 := hS179.drew
     revert hS181
     generalize World.drew w178 = w180
     intro hS181
     refine ⟨⟨hS181.cell 0 rfl 0 rfl, hS181.cell 0 rfl 1 rfl, hS181.cell 0 rfl 2 rfl, hS181.cell 0 rfl 3 rfl, trivial⟩, forallC ?_ (forallN)⟩
     refine segF 8 [.v (iv p0.e2.N), .v (iv p0.e2.E), .v (iv p0.e2.S), .v (iv p0.e2.W)] [1, 2, 5, 6, 7, 20, 23, 26, 29] [(1, (iv p1)), (2, (pt g9)), (5, (sv A6 l8 c7)), (6, (iv x12)), (7, (pt g175)), (20, (iv p0.e2.N)), (23, (iv p0.e2.E)), (26, (iv p0.e2.S)), (29, (iv p0.e2.W))] [] [0, 1, 2, 3] [(1, ⟨g175, 0, none⟩, (iv p0.e2.N)), (4, ⟨g175, 1, none⟩, (iv p0.e2.E)), (7, ⟨g175, 2, none⟩, (iv p0.e2.S)), (10, ⟨g175, 3, none⟩, (iv p0.e2.W))] (fun fb => by kernel_rfl) rfl trivial rfl ?_
     obtain ⟨t182, ht183, hl20⟩ := bind_some hl20
     refine WL.call (some 21) 9 #[(iv p0.e2.N), (iv 6)] (fun fb => by kernel_rfl) (top_cycle_calls p0.e2.N 6 t182 _ ht183) (fun v w184 hR185 => ?_)
     obtain ⟨rfl, hk_⟩ := hR185
     have hS186 := hS181.keepN hk_
     refine ⟨⟨hS186.cell 0 rfl 1 rfl, hS186.cell 0 rfl 2 rfl, hS186.cell 0 rfl 3 rfl, trivial⟩, ?_⟩
     obtain ⟨t187, ht188, hl20⟩ := bind_some hl20
     refine WL.call (some 24) 9 #[(iv p0.e2.E), (iv 6)] (fun fb => by kernel_rfl) (top_cycle_calls p0.e2.E 6 t187 _ ht188) (fun v w189 hR190 => ?_)
     obtain ⟨rfl, hk_⟩ := hR190
     have hS191 := hS186.keepN hk_
     refine ⟨⟨hS191.cell 0 rfl 2 rfl, hS191.cell 0 rfl 3 rfl, trivial⟩, ?_⟩
     obtain ⟨t192, ht193, hl20⟩ := bind_some hl20
     refine WL.call (some 27) 9 #[(iv p0.e2.S), (iv 6)] (fun fb => by kernel_rfl) (top_cycle_calls p0.e2.S 6 t192 _ ht193) (fun v w194 hR195 => ?_)
     obtain ⟨rfl, hk_⟩ := hR195
     have hS196 := hS191.keepN hk_
     refine ⟨⟨hS196.cell 0 rfl 3 rfl, trivial⟩, ?_⟩
     obtain ⟨t197, ht198, hl20⟩ := bind_some hl20
     refine WL.call (some 30) 9 #[(iv p0.e2.W), (iv 6)] (fun fb => by kernel_rfl) (top_cycle_calls p0.e2.W 6 t197 _ ht198) (fun v w199 hR200 => ?_)
     obtain ⟨rfl, hk_⟩ := hR200
     have hS201 := hS196.keepN hk_
     refine ⟨trivial, ?_⟩
     refine sg 13 [] [1, 2, 5, 6, 7, 31] [(1, (iv p1)), (2, (pt g9)), (5, (sv A6 l8 c7)), (6, (iv x12)), (7, (pt g175)), (31, (.agg #[(iv t182), (iv t187), (iv t192), (iv t197)]))] (by kernel_rfl) ?_
     refine WL.store hS201 0 rfl [(0, (iv t182)), (1, (iv t187)), (2, (iv t192)), (3, (iv t197))] #[(iv t182), (iv t187), (iv t192), (iv t197)] (fun fb => by kernel_rfl) (by kernel_rfl) rfl [1, 2] (by decide) (by decide) (fun w202 hS203 => ?_)
     refine ⟨trivial, ?_⟩
     refine WL.done rfl (WX.next (WC.seq (WC.region ?_)))
     refine sg 1 [] [1, 2, 5, 6, 7, 8] [(1, (iv p1)), (2, (pt g9)), (5, (sv A6 l8 c7)), (6, (iv x12)), (7, (pt g175)), (8, (bv false))] (by kernel_rfl) ?_
     refine WL.done rfl (WX.next (WC.seq (WC.seq (WC.region ?_))))
     refine sg 1 [] [1, 2, 5, 6, 7, 8, 9] [(1, (iv p1)), (2, (pt g9)), (5, (sv A6 l8 c7)), (6, (iv x12)), (7, (pt g175)), (8, (bv false)), (9, (iv 0))] (by kernel_rfl) ?_
     refine WL.done rfl (WX.next ?_)
     obtain ⟨x206, hx207, hl20⟩ := bind_some hl20
     refine WC.cutN (T := Bool) (fun t => [(1, (iv p1)), (2, (pt g9)), (5, (sv A6 l8 c7)), (6, (iv x12)), (7, (pt g175)), (8, (bv t))]) (fun t w1 => St NoS w w1 [] [blk g9 (.cells #[(iv p0.e0.N), (iv p0.e0.E), (iv p0.e0.S), (iv p0.e0.W), (iv p0.e1.N), (iv p0.e1.E), (iv p0.e1.S), (iv p0.e1.W), (iv p0.e2.N), (iv p0.e2.E), (iv p0.e2.S), (iv p0.e2.W)] 24 (0, 0)), rowO 23 enc_Tile A6 c7 l8, blk g175 (.cells #[(iv t182), (iv t187), (iv t192), (iv t197)] 23 (0, 0))] ∧ x206 = t) (fun Kx206 => ?_) ?_
     ·
      refine WC.block ?_
      refine WC.loop (T := Bool × Int) (fun t => [(1, (iv p1)), (2, (pt g9)), (5, (sv A6 l8 c7)), (6, (iv x12)), (7, (pt g175)), (8, (bv t.1)), (9, (iv t.2))]) (fun n t w1 => St NoS w w1 [] [blk g9 (.cells #[(iv p0.e0.N), (iv p0.e0.E), (iv p0.e0.S), (iv p0.e0.W), (iv p0.e1.N), (iv p0.e1.E), (iv p0.e1.S), (iv p0.e1.W), (iv p0.e2.N), (iv p0.e2.E), (iv p0.e2.S), (iv p0.e2.W)] 24 (0, 0)), rowO 23 enc_Tile A6 c7 l8, blk g175 (.cells #[(iv t182), (iv t187), (iv t192), (iv t197)] 23 (0, 0))] ∧ top_small.l3 n t.1 t.2 l8 t182 t187 t192 t197 = some x206) k17 (false, 0) [1, 2, 5, 6, 7, 8, 9] rfl ⟨(hS203.subR []).sub [1, 2, 0] (by decide), hx207⟩ ?_
      rintro k208 ⟨b204, x205⟩ w209 ⟨hS210, hl211⟩
      cases k208 with
      | zero => rw [top_small.l3] at hl211; cases hl211
      | succ k208 =>
       rw [top_small.l3] at hl211
       refine WC.seq (WC.seq (WC.region ?_))
       refine sg 4 [] [1, 2, 5, 6, 7, 8, 9, 35] [(1, (iv p1)), (2, (pt g9)), (5, (sv A6 l8 c7)), (6, (iv x12)), (7, (pt g175)), (8, (bv b204)), (9, (iv x205)), (35, (bv (decide (x205 < (l8.length : Int)))))] (by kernel_rfl) ?_
       refine WL.done rfl (WX.next ?_)
       rcases br_some hl211 with ⟨h212, hl211⟩ | ⟨h212, hl211⟩
       ·refine WC.condT2 (fun fb => by kernel_rfl) h212 ?_
        refine WC.skip (WX.next (WC.seq (WC.block ?_)))
        obtain ⟨x213, hx214, hl211⟩ := bind_some hl211
        refine WC.cutN (T := Bool) (fun t => [(1, (iv p1)), (2, (pt g9)), (5, (sv A6 l8 c7)), (6, (iv x12)), (7, (pt g175)), (8, (bv t)), (9, (iv x205))]) (fun t w1 => St NoS w w1 [] [blk g9 (.cells #[(iv p0.e0.N), (iv p0.e0.E), (iv p0.e0.S), (iv p0.e0.W), (iv p0.e1.N), (iv p0.e1.E), (iv p0.e1.S), (iv p0.e1.W), (iv p0.e2.N), (iv p0.e2.E), (iv p0.e2.S), (iv p0.e2.W)] 24 (0, 0)), rowO 23 enc_Tile A6 c7 l8, blk g175 (.cells #[(iv t182), (iv t187), (iv t192), (iv t197)] 23 (0, 0))] ∧ x213 = t) (fun Kx213 => ?_) ?_
        ·
         rcases br_some hx214 with ⟨h215, hx214⟩ | ⟨h215, hx214⟩
         ·
          refine WC.regionD ([], [0, 1, 2, 3, 4, 5, 6, 7, 8, 9], [[], [0], [0, 1], [0, 1], [0, 1, 2, 3], [0, 1, 2, 3, 4], [0, 1], [0, 1, 2, 3, 4, 5, 6], [0, 1, 2, 3, 4, 5, 6, 7], [0, 1, 2, 3, 4, 5, 6, 7, 8]]) [[0, 1, 2, 3, 4, 5, 6, 7, 8, 9]] (by kernel_rfl) (by kernel_rfl) (NoPanic.block (NoPanic.seq (NoPanic.seq (NoPanic.block (NoPanic.seq (NoPanic.block (NoPanic.seq (NoPanic.seq (NoPanic.block (NoPanic.seq (NoPanic.body))))))))))) ?_
          have hS217 := hS210.drew
          revert hS217
          generalize World.drew w209 = w216
          intro hS217
          refine ⟨trivial, forallC ?_ (forallN)⟩
          refine sg 2 [] [1, 2, 5, 6, 7, 9, 39] [(1, (iv p1)), (2, (pt g9)), (5, (sv A6 l8 c7)), (6, (iv x12)), (7, (pt g175)), (9, (iv x205)), (39, (bv b204))] (by kernel_rfl) ?_
          refine WL.setB 39 h215 rfl ?_
          refine sg 10 [] [1, 2, 5, 6, 7, 8, 9] [(1, (iv p1)), (2, (pt g9)), (5, (sv A6 l8 c7)), (6, (iv x12)), (7, (pt g175)), (8, (bv true)), (9, (iv x205))] (by kernel_rfl) ?_
          refine WL.done rfl ?_
          injection hx214 with hx214
          exact WX.to Kx213 true [1, 2, 5, 6, 7, 8, 9] rfl ⟨(hS217.subR []).sub [0, 1, 2] (by decide), hx214.symm⟩
         obtain ⟨h220, hx214⟩ := as_some hx214
         refine WC.regionD ([(5, ((adr A6).add ((x205).toNat * 4)), (iv ((rdD l8 x205 z_Tile).N))), (5, (((adr A6).add ((x205).toNat * 4)).add 1), (iv ((rdD l8 x205 z_Tile).E))), (5, (((adr A6).add ((x205).toNat * 4)).add 2), (iv ((rdD l8 x205 z_Tile).S))), (5, (((adr A6).add ((x205).toNat * 4)).add 3), (iv ((rdD l8 x205 z_Tile).W))), (6, ⟨g175, 0, none⟩, (iv t182)), (6, ⟨g175, 1, none⟩, (iv t187)), (6, ⟨g175, 2, none⟩, (iv t192)), (6, ⟨g175, 3, none⟩, (iv t197))], [0, 1, 2, 3, 4, 5, 6, 7, 8, 9], [[], [0], [0, 1], [0, 1], [0, 1, 2, 3], [0, 1, 2, 3, 4], [0, 1], [0, 1, 2, 3, 4, 5, 6], [0, 1, 2, 3, 4, 5, 6, 7], [0, 1, 2, 3, 4, 5, 6, 7, 8]]) [[0, 1, 2, 3, 4, 5, 6, 7, 8, 9]] (by kernel_rfl) (by kernel_rfl) (NoPanic.block (NoPanic.seq (NoPanic.seq (NoPanic.block (NoPanic.seq (NoPanic.block (NoPanic.seq (NoPanic.seq (NoPanic.block (NoPanic.seq (NoPanic.body))))))))))) ?_
         have hS219 := hS210.drew
         revert hS219
         generalize World.drew w209 = w218
         intro hS219
         refine ⟨⟨rowR.cell (rowO.rd (hS219.own 1).1) z_Tile h220.1 h220.2 0 rfl, rowR.cell (rowO.rd (hS219.own 1).1) z_Tile h220.1 h220.2 1 rfl, rowR.cell (rowO.rd (hS219.own 1).1) z_Tile h220.1 h220.2 2 rfl, rowR.cell (rowO.rd (hS219.own 1).1) z_Tile h220.1 h220.2 3 rfl, hS219.cell 2 rfl 0 rfl, hS219.cell 2 rfl 1 rfl, hS219.cell 2 rfl 2 rfl, hS219.cell 2 rfl 3 rfl, trivial⟩, forallC ?_ (forallN)⟩
         refine sg 2 [] [1, 2, 5, 6, 7, 9, 39] [(1, (iv p1)), (2, (pt g9)), (5, (sv A6 l8 c7)), (6, (iv x12)), (7, (pt g175)), (9, (iv x205)), (39, (bv b204))] (by kernel_rfl) ?_
         refine WL.setB 39 h215 rfl ?_
         refine segF 10 [.v (iv ((rdD l8 x205 z_Tile).N)), .v (iv ((rdD l8 x205 z_Tile).E)), .v (iv ((rdD l8 x205 z_Tile).S)), .v (iv ((rdD l8 x205 z_Tile).W)), .v (iv t182), .v (iv t187), .v (iv t192), .v (iv t197)] [1, 2, 5, 6, 7, 8, 9] [(1, (iv p1)), (2, (pt g9)), (5, (sv A6 l8 c7)), (6, (iv x12)), (7, (pt g175)), (8, (bv (((rdD l8 x205 z_Tile).N) == t182 && (((rdD l8 x205 z_Tile).E) == t187 && (((rdD l8 x205 z_Tile).S) == t192 && (((rdD l8 x205 z_Tile).W) == t197)))))), (9, (iv x205))] [.idx A6 x205 l8.length] [0, 1, 2, 3, 4, 5, 6, 7] [(5, ((adr A6).add ((x205).toNat * 4)), (iv ((rdD l8 x205 z_Tile).N))), (5, (((adr A6).add ((x205).toNat * 4)).add 1), (iv ((rdD l8 x205 z_Tile).E))), (5, (((adr A6).add ((x205).toNat * 4)).add 2), (iv ((rdD l8 x205 z_Tile).S))), (5, (((adr A6).add ((x205).toNat * 4)).add 3), (iv ((rdD l8 x205 z_Tile).W))), (6, ⟨g175, 0, none⟩, (iv t182)), (6, ⟨g175, 1, none⟩, (iv t187)), (6, ⟨g175, 2, none⟩, (iv t192)), (6, ⟨g175, 3, none⟩, (iv t197))] (fun fb => by kernel_rfl) rfl ⟨rowR.adr (rowO.rd (hS219.own 1).1) h220.1 h220.2, trivial⟩ rfl ?_
         refine WL.done rfl ?_
         injection hx214 with hx214
         exact WX.to Kx213 (((rdD l8 x205 z_Tile).N) == t182 && (((rdD l8 x205 z_Tile).E) == t187 && (((rdD l8 x205 z_Tile).S) == t192 && (((rdD l8 x205 z_Tile).W) == t197)))) [1, 2, 5, 6, 7, 8, 9] rfl ⟨(hS219.subR []).sub [0, 1, 2] (by decide), hx214.symm⟩
        rintro y224 w221 ⟨hS222, hq223⟩
        subst hq223
        refine WX.blockN (WX.next ?_)
        refine WC.region ?_
        refine sg 3 [] [1, 2, 5, 6, 7, 8, 9] [(1, (iv p1)), (2, (pt g9)), (5, (sv A6 l8 c7)), (6, (iv x12)), (7, (pt g175)), (8, (bv x213)), (9, (iv (w64 (x205 + 1))))] (by kernel_rfl) ?_
        refine WL.done rfl ?_
        exact WX.again k208 (Nat.lt_succ_self _) (x213, w64 (x205 + 1)) [1, 2, 5, 6, 7, 8, 9] rfl ⟨(hS222.subR []).sub [0, 1, 2] (by decide), hl211⟩
       refine WC.condF2 (fun fb => by kernel_rfl) h212 ?_
       refine WC.exit ?_
       injection hl211 with hl211
       exact WX.thenX (WX.thenX (WX.blockHere (WX.to Kx206 b204 [1, 2, 5, 6, 7, 8] rfl ⟨(hS210.subR []).sub [0, 1, 2] (by decide), hl211.symm⟩)))
     rintro y228 w225 ⟨hS226, hq227⟩
     subst hq227
     refine WX.next (WC.seq (WC.region ?_))
     refine sg 2 [] [1, 2, 5, 6, 7, 48] [(1, (iv p1)), (2, (pt g9)), (5, (sv A6 l8 c7)), (6, (iv x12)), (7, (pt g175)), (48, (bv (!x206)))] (by kernel_rfl) ?_
     refine WL.done rfl (WX.next ?_)
     obtain ⟨x231, hx232, hl20⟩ := bind_some hl20
     refine WC.cutN (T := (List Tile) × (Option Addr) × Nat) (fun t => [(1, (iv p1)), (2, (pt g9)), (5, (sv t.2.1 t.1 t.2.2)), (6, (iv x12))]) (fun t w1 => St NoS w w1 [] [blk g9 (.cells #[(iv p0.e0.N), (iv p0.e0.E), (iv p0.e0.S), (iv p0.e0.W), (iv p0.e1.N), (iv p0.e1.E), (iv p0.e1.S), (iv p0.e1.W), (iv p0.e2.N), (iv p0.e2.E), (iv p0.e2.S), (iv p0.e2.W)] 24 (0, 0)), rowO 23 enc_Tile t.2.1 t.2.2 t.1] ∧ x231 = t.1) (fun Kx231 => ?_) ?_
     ·
      rcases br_some hx232 with ⟨h233, hx232⟩ | ⟨h233, hx232⟩
      ·refine WC.condT2 (fun fb => by kernel_rfl) h233 ?_
       refine WC.region ?_
       refine seg 2 [.v (iv t182), .v (iv t187), .v (iv t192), .v (iv t197)] [1, 2, 6, 49, 50] [(1, (iv p1)), (2, (pt g9)), (6, (iv x12)), (49, (sv A6 l8 c7)), (50, (.agg #[(iv t182), (iv t187), (iv t192), (iv t197)]))] [.cell ⟨g175, 0, none⟩ (iv t182), .cell ⟨g175, 1, none⟩ (iv t187), .cell ⟨g175, 2, none⟩ (iv t192), .cell ⟨g175, 3, none⟩ (iv t197)] (fun fb => by kernel_rfl) rfl ⟨hS226.cell 2 rfl 0 rfl, hS226.cell 2 rfl 1 rfl, hS226.cell 2 rfl 2 rfl, hS226.cell 2 rfl 3 rfl, trivial⟩ ?_
       refine WL.new hS226 51 [] (fun g => (.slice (some ⟨g, 0, none⟩) 1 1)) (.cells #[(iv t182), (iv t187), (iv t192), (iv t197)] 23 (0, 0)) [] (fun fb g => by kernel_rfl) trivial (fun g234 w235 hS236 => ?_)
       refine ⟨trivial, ?_⟩
       have hS237 := hS.go w235 [rowO 23 enc_Tile (some ⟨g234, 0, none⟩) 1 [(Tile.mk t182 t187 t192 t197)], blk g9 (.cells #[(iv p0.e0.N), (iv p0.e0.E), (iv p0.e0.S), (iv p0.e0.W), (iv p0.e1.N), (iv p0.e1.E), (iv p0.e1.S), (iv p0.e1.W), (iv p0.e2.N), (iv p0.e2.E), (iv p0.e2.S), (iv p0.e2.W)] 24 (0, 0)), rowO 23 enc_Tile A6 c7 l8, blk g175 (.cells #[(iv t182), (iv t187), (iv t192), (iv t197)] 23 (0, 0))] (hS236.map1 0 _ (fun h => rowO.ofBlk h rfl (Nat.le_of_ble_eq_true (by kernel_rfl))) (fun _ h => by obtain ⟨_, h1, h2⟩ := h; injection h1 with h1; subst h1; exact h2) [1, 2, 3] (by decide) (by decide))
       obtain ⟨h238, hx232⟩ := as_some hx232
       refine WL.append hS237 2 (d := 52) (tS := 26) (z := (.agg #[(iv 0), (iv 0), (iv 0), (iv 0)])) (bytes := 32) (c2 := 1) rfl (fun fb => by kernel_rfl) (rowO.rd (hS237.own 0).1) (by kernel_rfl) (by kernel_rfl) rfl (by decide) h238 (by decide) [0, 1, 3] (by decide) (by decide) (fun A239 c240 w241 hS242 => ?_)
       refine ⟨trivial, ?_⟩
       refine sg 5 [] [1, 2, 5, 6] [(1, (iv p1)), (2, (pt g9)), (5, (sv A239 (l8 ++ [(Tile.mk t182 t187 t192 t197)]) c240)), (6, (iv x12))] (by kernel_rfl) ?_
       refine WL.done rfl ?_
       injection hx232 with hx232
       exact WX.to Kx231 (l8 ++ [(Tile.mk t182 t187 t192 t197)], A239, c240) [1, 2, 5, 6] rfl ⟨(hS242.subR []).sub [2, 0] (by decide), hx232.symm⟩
      refine WC.condF2 (fun fb => by kernel_rfl) h233 ?_
      refine WC.skip ?_
      injection hx232 with hx232
      exact WX.to Kx231 (l8, A6, c7) [1, 2, 5, 6] rfl ⟨(hS226.subR []).sub [0, 1] (by decide), hx232.symm⟩
     rintro ⟨y246, A229, c230⟩ w243 ⟨hS244, hq245⟩
     subst hq245
     refine WX.blockN (WX.next ?_)
     refine WC.region ?_
     refine sg 3 [] [1, 2, 5, 6] [(1, (iv p1)), (2, (pt g9)), (5, (sv A229 x231 c230)), (6, (iv (w64 (x12 + 1))))] (by kernel_rfl) ?_
     refine WL.done rfl ?_
     exact WX.again k17 (Nat.lt_succ_self _) ((x231, w64 (x12 + 1)), A229, c230) [1, 2, 5, 6] rfl ⟨(hS244.subR []).sub [0, 1] (by decide), hl20⟩
    cases hl20
   refine WC.condF2 (fun fb => by kernel_rfl) h26 ?_
   refine WC.exit ?_
   injection hl20 with hl20
   exact WX.thenX (WX.thenX (WX.blockHere (WX.to Kx15 (l8, A6, c7) [5] rfl ⟨(hS25.subR []).sub [1] (by decide), hl20.symm⟩)))
 rintro ⟨y250, A13, c14⟩ w247 ⟨hS248, hq249⟩
 subst hq249
 refine WX.next (WC.seq (WC.region ?_))
 refine sg 2 [] [4] [(4, (sv A13 x15 c14))] (by kernel_rfl) ?_
 refine WL.done rfl (WX.next ?_)
 refine WC.ret ?_
 injection hf with hf
 subst hf
 exact WX.ret_ [] (sv A13 x15 c14) [] (fun fb => by kernel_rfl) trivial ⟨_, rfl, A13, c14, rfl, (hS248.sub [0] (by decide)).noR⟩
theorem tile_colour_1_calls (p0 : Int)  (r : Bool) (w : World)  (hf : tile_colour_1 p0 = some r) :
  CallsR Try.prog 27 #[(iv p0)] w (fun v w' => v = (bv r) ∧ Keeps NoS w w') := by
 have hS : St NoS w w [] [] := St.init (ro_nil _ _)
 refine enter 9 Try.func27 rfl Try.ntmps27 rfl ?_
 unfold tile_colour_1 at hf
 refine WC.seq (WC.region ?_)
 refine sg 1 [] [0] [(0, (iv p0))] (by kernel_rfl) ?_
 refine WL.done rfl (WX.next (WC.seq (WC.region ?_)))
 refine sg 3 [] [0, 5] [(0, (iv p0)), (5, (bv (decide (p0 < 0))))] (by kernel_rfl) ?_
 refine WL.cutV (T := Bool) 6 (fun t => [(8, (bv t))]) (fun t => ((decide (p0 < 0)) || (decide (p0 ≥ 1000))) = t) (fun K => ?_) ?_
 ·
  rcases Bool.eq_false_or_eq_true (decide (p0 < 0)) with h2 | h2
  ·
   refine WL.setB 5 h2 rfl ?_
   refine sg 6 [] [8] [(8, (bv true))] (by kernel_rfl) ?_
   exact WL.toV K true [8] rfl (by first | (rw [h2]; done) | (rw [h2]; rfl))
  refine WL.setB 5 h2 rfl ?_
  refine sg 6 [] [8] [(8, (bv (decide (p0 ≥ 1000))))] (by kernel_rfl) ?_
  exact WL.toV K (decide (p0 ≥ 1000)) [8] rfl (by first | (rw [h2]; done) | (rw [h2]; rfl))
 rintro b3 rfl
 refine sg 7 [] [2] [(2, (bv ((decide (p0 < 0)) || (decide (p0 ≥ 1000)))))] (by kernel_rfl) ?_
 refine WL.done rfl (WX.next ?_)
 refine WC.ret ?_
 injection hf with hf
 subst hf
 exact WX.ret_ [] (bv ((decide (p0 < 0)) || (decide (p0 ≥ 1000)))) [] (fun fb => by kernel_rfl) trivial ⟨_, rfl, rfl, hS.keep⟩
theorem slices_IndexFunc_int_int_with_tile_colour_1_calls (k : Nat) (p0 : List Int) (Aa : Option Addr) (ca : Nat) (r : Int) (w : World) (hR0 : RO NoS w (rowR encInt Aa ca p0)) (hf : slices_IndexFunc_int_int_with_tile_colour_1 k p0 = some r) :
  CallsR Try.prog 41 #[(sv Aa p0 ca), (.func (.func 27) #[] #[])] w (fun v w' => v = (iv r) ∧ Keeps NoS w w') := by
 have hS : St NoS w w [rowR encInt Aa ca p0] [] := St.init (ro_cons hR0 (ro_nil _ _))
 refine enter 19 Try.func41 rfl Try.ntmps41 rfl ?_
 unfold slices_IndexFunc_int_int_with_tile_colour_1 at hf
 refine WC.seq (WC.region ?_)
 refine sg 1 [] [0, 1] [(0, (sv Aa p0 ca)), (1, (.func (.func 27) #[] #[]))] (by kernel_rfl) ?_
 refine WL.done rfl (WX.next (WC.seq (WC.seq (WC.region ?_))))
 refine sg 3 [] [0, 1, 7, 8] [(0, (sv Aa p0 ca)), (1, (.func (.func 27) #[] #[])), (7, (iv (p0.length : Int))), (8, (iv 0))] (by kernel_rfl) ?_
 refine WL.done rfl (WX.next ?_)
 obtain ⟨x4, hx5, hf⟩ := bind_some hf
 refine WC.cutN (T := Unit) (fun t => []) (fun t w1 => St NoS w w1 [rowR encInt Aa ca p0] [] ∧ x4 = .inr t) (fun Kx4 => ?_) ?_
 ·
  refine WC.block ?_
  refine WC.loop (T := Int) (fun t => [(0, (sv Aa p0 ca)), (1, (.func (.func 27) #[] #[])), (7, (iv (p0.length : Int))), (8, (iv t))]) (fun n t w1 => St NoS w w1 [rowR encInt Aa ca p0] [] ∧ slices_IndexFunc_int_int_with_tile_colour_1.l0 n t p0 = some x4) k 0 [0, 1, 7, 8] rfl ⟨(hS.subR [0]).sub [] (by decide), hx5⟩ ?_
  rintro k6 x3 w7 ⟨hS8, hl9⟩
  cases k6 with
  | zero => rw [slices_IndexFunc_int_int_with_tile_colour_1.l0] at hl9; cases hl9
  | succ k6 =>
   rw [slices_IndexFunc_int_int_with_tile_colour_1.l0] at hl9
   refine WC.seq (WC.region ?_)
   refine sg 1 [] [0, 1, 7, 8, 9] [(0, (sv Aa p0 ca)), (1, (.func (.func 27) #[] #[])), (7, (iv (p0.length : Int))), (8, (iv x3)), (9, (bv (decide (x3 < (p0.length : Int)))))] (by kernel_rfl) ?_
   refine WL.done rfl (WX.next (WC.seq ?_))
   rcases br_some hl9 with ⟨h10, hl9⟩ | ⟨h10, hl9⟩
   ·refine WC.condT2 (fun fb => by kernel_rfl) h10 ?_
    refine WC.skip (WX.next (WC.seq (WC.block (WC.seq (WC.region ?_)))))
    refine sg 2 [] [0, 1, 5, 7, 8] [(0, (sv Aa p0 ca)), (1, (.func (.func 27) #[] #[])), (5, (iv x3)), (7, (iv (p0.length : Int))), (8, (iv x3))] (by kernel_rfl) ?_
    refine WL.done rfl (WX.next (WC.seq (WC.region ?_)))
    refine sg 3 [] [0, 1, 5, 7, 8, 11, 12, 13] [(0, (sv Aa p0 ca)), (1, (.func (.func 27) #[] #[])), (5, (iv x3)), (7, (iv (p0.length : Int))), (8, (iv x3)), (11, (.func (.func 27) #[] #[])), (12, (sv Aa p0 ca)), (13, (iv x3))] (by kernel_rfl) ?_
    obtain ⟨h11, hl9⟩ := as_some hl9
    refine seg 5 [.v (iv (rdD p0 x3 0))] [0, 1, 5, 7, 8, 11, 15] [(0, (sv Aa p0 ca)), (1, (.func (.func 27) #[] #[])), (5, (iv x3)), (7, (iv (p0.length : Int))), (8, (iv x3)), (11, (.func (.func 27) #[] #[])), (15, (iv (rdD p0 x3 0)))] [.idx Aa x3 p0.length, .cell ((adr Aa).add ((x3).toNat * 1)) (iv (rdD p0 x3 0))] (fun fb => by kernel_rfl) rfl ⟨rowR.adr (hS8.rd 0).1 h11.1 h11.2, rowR.cell (hS8.rd 0).1 0 h11.1 h11.2 0 rfl, trivial⟩ ?_
    obtain ⟨t12, ht13, hl9⟩ := bind_some hl9
    refine WL.call (some 16) 27 #[(iv (rdD p0 x3 0))] (fun fb => by kernel_rfl) (tile_colour_1_calls (rdD p0 x3 0) t12 _ ht13) (fun v w14 hR15 => ?_)
    obtain ⟨rfl, hk_⟩ := hR15
    have hS16 := hS8.keepN hk_
    refine ⟨trivial, ?_⟩
    refine WL.done rfl (WX.next ?_)
    rcases br_some hl9 with ⟨h17, hl9⟩ | ⟨h17, hl9⟩
    ·refine WC.condT2 (fun fb => by kernel_rfl) h17 ?_
     refine WC.seq (WC.region ?_)
     refine sg 2 [] [4] [(4, (iv x3))] (by kernel_rfl) ?_
     refine WL.done rfl (WX.next ?_)
     refine WC.ret ?_
     injection hl9 with hl9
     subst hl9
     injection hf with hf
     subst hf
     exact WX.blockR (WX.thenR (WX.thenR (WX.blockR (WX.thenR (WX.ret_ [] (iv x3) [] (fun fb => by kernel_rfl) trivial ⟨_, rfl, rfl, hS16.keep⟩)))))
    refine WC.condF2 (fun fb => by kernel_rfl) h17 ?_
    refine WC.skip ?_
    refine WX.blockN (WX.next ?_)
    refine WC.region ?_
    refine sg 2 [] [0, 1, 7, 8] [(0, (sv Aa p0 ca)), (1, (.func (.func 27) #[] #[])), (7, (iv (p0.length : Int))), (8, (iv (w64 (x3 + 1))))] (by kernel_rfl) ?_
    refine WL.done rfl ?_
    exact WX.again k6 (Nat.lt_succ_self _) (w64 (x3 + 1)) [0, 1, 7, 8] rfl ⟨(hS16.subR [0]).sub [] (by decide), hl9⟩
   refine WC.condF2 (fun fb => by kernel_rfl) h10 ?_
   refine WC.exit ?_
   injection hl9 with hl9
   exact WX.thenX (WX.thenX (WX.blockHere (WX.to Kx4 () [] rfl ⟨(hS8.subR [0]).sub [] (by decide), hl9.symm⟩)))
 rintro y21 w18 ⟨hS19, hq20⟩
 subst hq20
 have hf := sum_inr hf
 refine WX.next (WC.seq (WC.region ?_))
 refine sg 1 [] [4] [(4, (iv (-1)))] (by kernel_rfl) ?_
 refine WL.done rfl (WX.next ?_)
 refine WC.ret ?_
 injection hf with hf
 subst hf
 exact WX.ret_ [] (iv (-1)) [] (fun fb => by kernel_rfl) trivial ⟨_, rfl, rfl, hS19.keep⟩
theorem slices_ContainsFunc_int_int_with_tile_colour_1_calls (k : Nat) (p0 : List Int) (Aa : Option Addr) (ca : Nat) (r : Bool) (w : World) (hR0 : RO NoS w (rowR encInt Aa ca p0)) (hf : slices_ContainsFunc_int_int_with_tile_colour_1 k p0 = some r) :
  CallsR Try.prog 26 #[(sv Aa p0 ca), (.func (.func 27) #[] #[])] w (fun v w' => v = (bv r) ∧ Keeps NoS w w') := by
 have hS : St NoS w w [rowR encInt Aa ca p0] [] := St.init (ro_cons hR0 (ro_nil _ _))
 refine enter 9 Try.func26 rfl Try.ntmps26 rfl ?_
 unfold slices_ContainsFunc_int_int_with_tile_colour_1 at hf
 refine WC.seq (WC.region ?_)
 refine sg 1 [] [0, 1] [(0, (sv Aa p0 ca)), (1, (.func (.func 27) #[] #[]))] (by kernel_rfl) ?_
 refine WL.done rfl (WX.next (WC.seq (WC.region ?_)))
 refine sg 2 [] [5, 6] [(5, (sv Aa p0 ca)), (6, (.func (.func 27) #[] #[]))] (by kernel_rfl) ?_
 obtain ⟨t2, ht3, hf⟩ := bind_some hf
 refine WL.call (some 7) 41 #[(sv Aa p0 ca), (.func (.func 27) #[] #[])] (fun fb => by kernel_rfl) (slices_IndexFunc_int_int_with_tile_colour_1_calls _ p0 Aa ca t2 _ (hS.rd 0) ht3) (fun v w4 hR5 => ?_)
 obtain ⟨rfl, hk_⟩ := hR5
 have hS6 := hS.keepN hk_
 refine ⟨trivial, ?_⟩
 refine sg 5 [] [4] [(4, (bv (decide (t2 ≥ 0))))] (by kernel_rfl) ?_
 refine WL.done rfl (WX.next ?_)
 refine WC.ret ?_
 injection hf with hf
 subst hf
 exact WX.ret_ [] (bv (decide (t2 ≥ 0))) [] (fun fb => by kernel_rfl) trivial ⟨_, rfl, rfl, hS6.keep⟩
theorem tile_colour_calls (k : Nat) (p0 : List Int) (Aa : Option Addr) (ca : Nat) (r : Bool) (w : World) (hR0 : RO NoS w (rowR encInt Aa ca p0)) (hf : tile_colour k p0 = some r) :
  CallsR Try.prog 15 #[(sv Aa p0 ca)] w (fun v w' => v = (bv r) ∧ Keeps NoS w w') := by
 have hS : St NoS w w [rowR encInt Aa ca p0] [] := St.init (ro_cons hR0 (ro_nil _ _))
 refine enter 6 Try.func15 rfl Try.ntmps15 rfl ?_
 unfold tile_colour at hf
 refine WC.seq (WC.region ?_)
 refine sg 1 [] [0] [(0, (sv Aa p0 ca))] (by kernel_rfl) ?_
 refine WL.done rfl (WX.next (WC.seq (WC.region ?_)))
 refine sg 1 [] [3] [(3, (sv Aa p0 ca))] (by kernel_rfl) ?_
 obtain ⟨t2, ht3, hf⟩ := bind_some hf
 refine WL.call (some 4) 26 #[(sv Aa p0 ca), (.func (.func 27) #[] #[])] (fun fb => by kernel_rfl) (slices_ContainsFunc_int_int_with_tile_colour_1_calls _ p0 Aa ca t2 _ (hS.rd 0) ht3) (fun v w4 hR5 => ?_)
 obtain ⟨rfl, hk_⟩ := hR5
 have hS6 := hS.keepN hk_
 refine ⟨trivial, ?_⟩
 refine sg 4 [] [2] [(2, (bv (!t2)))] (by kernel_rfl) ?_
 refine WL.done rfl (WX.next ?_)
 refine WC.ret ?_
 injection hf with hf
 subst hf
 exact WX.ret_ [] (bv (!t2)) [] (fun fb => by kernel_rfl) trivial ⟨_, rfl, rfl, hS6.keep⟩
theorem tile_Valid_key23 : KeyK Try.prog 23 (aggI ints_Tile) := KeyK.struct (n := 4) (by kernel_rfl) ints_Tile (fun _ => rfl) (fun x y h => by cases x; cases y; simp only [ints_Tile, List.cons.injEq, and_true] at h; obtain ⟨rfl, rfl, rfl, rfl⟩ := h; rfl)
theorem tile_Valid_calls (k : Nat) (p0 : List Tile) (Aa : Option Addr) (ca : Nat) (r : Bool) (w : World) (hR0 : RO NoS w (rowR enc_Tile Aa ca p0)) (hf : tile_Valid k p0 = some r) :
  CallsR Try.prog 10 #[(sv Aa p0 ca)] w (fun v w' => v = (bv r) ∧ Keeps NoS w w') := by
 have hS : St NoS w w [rowR enc_Tile Aa ca p0] [] := St.init (ro_cons hR0 (ro_nil _ _))
 refine enter 35 Try.func10 rfl Try.ntmps10 rfl ?_
 unfold tile_Valid at hf
 refine WC.seq (WC.region ?_)
 refine sg 1 [] [0] [(0, (sv Aa p0 ca))] (by kernel_rfl) ?_
 refine WL.done rfl (WX.next (WC.seq (WC.seq (WC.region ?_))))
 refine sg 3 [] [0, 8] [(0, (sv Aa p0 ca)), (8, (bv (decide ((p0.length : Int) > 1000))))] (by kernel_rfl) ?_
 refine WL.done rfl (WX.next ?_)
 rcases br_some hf with ⟨h3, hf⟩ | ⟨h3, hf⟩
 ·refine WC.condT2 (fun fb => by kernel_rfl) h3 ?_
  refine WC.seq (WC.region ?_)
  refine sg 1 [] [2] [(2, (bv false))] (by kernel_rfl) ?_
  refine WL.done rfl (WX.next ?_)
  refine WC.ret ?_
  injection hf with hf
  subst hf
  exact WX.thenR (WX.ret_ [] (bv false) [] (fun fb => by kernel_rfl) trivial ⟨_, rfl, rfl, hS.keep⟩)
 refine WC.condF2 (fun fb => by kernel_rfl) h3 ?_
 refine WC.skip (WX.next (WC.seq (WC.region ?_)))
 refine WL.new hS 9 [] (fun g => (.map (some g))) (mapObj (aggI ints_Tile) vB ([] : List (Tile × Bool))) [] (fun fb g => by kernel_rfl) trivial (fun g4 w5 hS6 => ?_)
 refine ⟨trivial, ?_⟩
 refine sg 2 [] [0, 3] [(0, (sv Aa p0 ca)), (3, (.map (some g4)))] (by kernel_rfl) ?_
 refine WL.done rfl (WX.next (WC.seq (WC.seq (WC.region ?_))))
 refine sg 3 [] [3, 10, 11, 12] [(3, (.map (some g4))), (10, (sv Aa p0 ca)), (11, (iv (p0.length : Int))), (12, (iv 0))] (by kernel_rfl) ?_
 refine WL.done rfl (WX.next ?_)
 obtain ⟨x9, hx11, hf⟩ := bind_some hf
 refine WC.cutN (T := Unit) (fun t => []) (fun t w1 => St NoS w w1 [rowR enc_Tile Aa ca p0] [] ∧ x9 = .inr t) (fun Kx9 => ?_) ?_
 ·
  refine WC.block ?_
  refine WC.loop (T := (List (Tile × Bool)) × Int) (fun t => [(3, (.map (some g4))), (10, (sv Aa p0 ca)), (11, (iv (p0.length : Int))), (12, (iv t.2))]) (fun n t w1 => St NoS w w1 [rowR enc_Tile Aa ca p0] [blk g4 (mapObj (aggI ints_Tile) vB t.1)] ∧ tile_Valid.l0 n t.1 t.2 p0 = some x9) k (([] : List (Tile × Bool)), 0) [3, 10, 11, 12] rfl ⟨(hS6.subR [0]).sub [0] (by decide), hx11⟩ ?_
  rintro k12 ⟨l7, x8⟩ w13 ⟨hS14, hl15⟩
  cases k12 with
  | zero => rw [tile_Valid.l0] at hl15; cases hl15
  | succ k12 =>
   rw [tile_Valid.l0] at hl15
   refine WC.seq (WC.region ?_)
   refine sg 1 [] [3, 10, 11, 12, 13] [(3, (.map (some g4))), (10, (sv Aa p0 ca)), (11, (iv (p0.length : Int))), (12, (iv x8)), (13, (bv (decide (x8 < (p0.length : Int)))))] (by kernel_rfl) ?_
   refine WL.done rfl (WX.next (WC.seq ?_))
   rcases br_some hl15 with ⟨h16, hl15⟩ | ⟨h16, hl15⟩
   ·refine WC.condT2 (fun fb => by kernel_rfl) h16 ?_
    refine WC.skip (WX.next (WC.seq (WC.block (WC.seq (WC.region ?_)))))
    obtain ⟨h17, hl15⟩ := as_some hl15
    refine seg 2 [.v (iv ((rdD p0 x8 z_Tile).N)), .v (iv ((rdD p0 x8 z_Tile).E)), .v (iv ((rdD p0 x8 z_Tile).S)), .v (iv ((rdD p0 x8 z_Tile).W))] [3, 10, 11, 12, 15] [(3, (.map (some g4))), (10, (sv Aa p0 ca)), (11, (iv (p0.length : Int))), (12, (iv x8)), (15, (.agg #[(iv ((rdD p0 x8 z_Tile).N)), (iv ((rdD p0 x8 z_Tile).E)), (iv ((rdD p0 x8 z_Tile).S)), (iv ((rdD p0 x8 z_Tile).W))]))] [.idx Aa x8 p0.length, .cell ((adr Aa).add ((x8).toNat * 4)) (iv ((rdD p0 x8 z_Tile).N)), .cell (((adr Aa).add ((x8).toNat * 4)).add 1) (iv ((rdD p0 x8 z_Tile).E)), .cell (((adr Aa).add ((x8).toNat * 4)).add 2) (iv ((rdD p0 x8 z_Tile).S)), .cell (((adr Aa).add ((x8).toNat * 4)).add 3) (iv ((rdD p0 x8 z_Tile).W))] (fun fb => by kernel_rfl) rfl ⟨rowR.adr (hS14.rd 0).1 h17.1 h17.2, rowR.cell (hS14.rd 0).1 z_Tile h17.1 h17.2 0 rfl, rowR.cell (hS14.rd 0).1 z_Tile h17.1 h17.2 1 rfl, rowR.cell (hS14.rd 0).1 z_Tile h17.1 h17.2 2 rfl, rowR.cell (hS14.rd 0).1 z_Tile h17.1 h17.2 3 rfl, trivial⟩ ?_
    refine WL.new hS14 5 [] (fun g => (pt g)) (.cells #[(iv 0), (iv 0), (iv 0), (iv 0)] 23 (0, 0)) [] (fun fb g => by kernel_rfl) trivial (fun g18 w19 hS20 => ?_)
    refine ⟨trivial, ?_⟩
    refine WL.store hS20 0 rfl [(0, (iv ((rdD p0 x8 z_Tile).N))), (1, (iv ((rdD p0 x8 z_Tile).E))), (2, (iv ((rdD p0 x8 z_Tile).S))), (3, (iv ((rdD p0 x8 z_Tile).W)))] #[(iv ((rdD p0 x8 z_Tile).N)), (iv ((rdD p0 x8 z_Tile).E)), (iv ((rdD p0 x8 z_Tile).S)), (iv ((rdD p0 x8 z_Tile).W))] (fun fb => by kernel_rfl) (by kernel_rfl) rfl [1] (by decide) (by decide) (fun w21 hS22 => ?_)
    refine ⟨trivial, ?_⟩
    refine WL.done rfl (WX.next (WC.seq (WC.seq (WC.region ?_))))
    refine seg 2 [.v (iv ((rdD p0 x8 z_Tile).N)), .v (iv ((rdD p0 x8 z_Tile).E)), .v (iv ((rdD p0 x8 z_Tile).S)), .v (iv ((rdD p0 x8 z_Tile).W))] [3, 5, 10, 11, 12, 16, 17] [(3, (.map (some g4))), (5, (pt g18)), (10, (sv Aa p0 ca)), (11, (iv (p0.length : Int))), (12, (iv x8)), (16, (.map (some g4))), (17, (.agg #[(iv ((rdD p0 x8 z_Tile).N)), (iv ((rdD p0 x8 z_Tile).E)), (iv ((rdD p0 x8 z_Tile).S)), (iv ((rdD p0 x8 z_Tile).W))]))] [.cell ⟨g18, 0, none⟩ (iv ((rdD p0 x8 z_Tile).N)), .cell ⟨g18, 1, none⟩ (iv ((rdD p0 x8 z_Tile).E)), .cell ⟨g18, 2, none⟩ (iv ((rdD p0 x8 z_Tile).S)), .cell ⟨g18, 3, none⟩ (iv ((rdD p0 x8 z_Tile).W))] (fun fb => by kernel_rfl) rfl ⟨hS22.cell 0 rfl 0 rfl, hS22.cell 0 rfl 1 rfl, hS22.cell 0 rfl 2 rfl, hS22.cell 0 rfl 3 rfl, trivial⟩ ?_
    refine WL.lookup (hS22.own 1).1 (rdD p0 x8 z_Tile) (d := 18) (c := false) (t := 47) (kT := 23) (eT := 4) (z := false) (kE := (aggI ints_Tile)) (vE := vB) (l := l7) (bv (mget (rdD p0 x8 z_Tile) false l7)) (fun fb => by kernel_rfl) tile_Valid_key23 (by kernel_rfl) (fun _ => by kernel_rfl) rfl ?_
    refine ⟨trivial, ?_⟩
    refine sg 4 [] [3, 5, 10, 11, 12, 19] [(3, (.map (some g4))), (5, (pt g18)), (10, (sv Aa p0 ca)), (11, (iv (p0.length : Int))), (12, (iv x8)), (19, (bv (mget (rdD p0 x8 z_Tile) false l7)))] (by kernel_rfl) ?_
    obtain ⟨x24, hx25, hl15⟩ := bind_some hl15
    refine WL.cutW (T := Bool) 16 (fun t => [(3, (.map (some g4))), (5, (pt g18)), (10, (sv Aa p0 ca)), (11, (iv (p0.length : Int))), (12, (iv x8)), (31, (bv t))]) (fun t w1 => (St NoS w w1 [rowR enc_Tile Aa ca p0] [blk g4 (mapObj (aggI ints_Tile) vB l7), blk g18 (.cells #[(iv ((rdD p0 x8 z_Tile).N)), (iv ((rdD p0 x8 z_Tile).E)), (iv ((rdD p0 x8 z_Tile).S)), (iv ((rdD p0 x8 z_Tile).W))] 23 (0, 0))] ∧ x24 = t) ∧ CellsOK [] w1) (fun K => ?_) ?_
    ·
     rcases br_some hx25 with ⟨h26, hx25⟩ | ⟨h26, hx25⟩
     ·
      refine WL.setB 19 h26 rfl ?_
      refine sg 16 [] [3, 5, 10, 11, 12, 31] [(3, (.map (some g4))), (5, (pt g18)), (10, (sv Aa p0 ca)), (11, (iv (p0.length : Int))), (12, (iv x8)), (31, (bv true))] (by kernel_rfl) ?_
      injection hx25 with hx25
      exact WL.to K true [3, 5, 10, 11, 12, 31] rfl ⟨⟨(hS22.subR [0]).sub [1, 0] (by decide), hx25.symm⟩, trivial⟩
     refine WL.setB 19 h26 rfl ?_
     refine seg 12 [.v (iv ((rdD p0 x8 z_Tile).N)), .v (iv ((rdD p0 x8 z_Tile).E)), .v (iv ((rdD p0 x8 z_Tile).S)), .v (iv ((rdD p0 x8 z_Tile).W))] [3, 5, 10, 11, 12, 19, 21, 23, 25, 27] [(3, (.map (some g4))), (5, (pt g18)), (10, (sv Aa p0 ca)), (11, (iv (p0.length : Int))), (12, (iv x8)), (19, (bv false)), (21, (iv ((rdD p0 x8 z_Tile).N))), (23, (iv ((rdD p0 x8 z_Tile).E))), (25, (iv ((rdD p0 x8 z_Tile).S))), (27, (iv ((rdD p0 x8 z_Tile).W)))] [.cell ⟨g18, 0, none⟩ (iv ((rdD p0 x8 z_Tile).N)), .cell ⟨g18, 1, none⟩ (iv ((rdD p0 x8 z_Tile).E)), .cell ⟨g18, 2, none⟩ (iv ((rdD p0 x8 z_Tile).S)), .cell ⟨g18, 3, none⟩ (iv ((rdD p0 x8 z_Tile).W))] (fun fb => by kernel_rfl) rfl ⟨hS22.cell 0 rfl 0 rfl, hS22.cell 0 rfl 1 rfl, hS22.cell 0 rfl 2 rfl, hS22.cell 0 rfl 3 rfl, trivial⟩ ?_
     refine WL.new hS22 28 [] (fun g => (.slice (some ⟨g, 0, none⟩) 4 4)) (.cells #[(iv ((rdD p0 x8 z_Tile).N)), (iv ((rdD p0 x8 z_Tile).E)), (iv ((rdD p0 x8 z_Tile).S)), (iv ((rdD p0 x8 z_Tile).W))] 3 (0, 0)) [] (fun fb g => by kernel_rfl) trivial (fun g27 w28 hS29 => ?_)
     refine ⟨trivial, ?_⟩
     have hS30 := hS.go w28 [rowO 3 encInt (some ⟨g27, 0, none⟩) 4 [(rdD p0 x8 z_Tile).N, (rdD p0 x8 z_Tile).E, (rdD p0 x8 z_Tile).S, (rdD p0 x8 z_Tile).W], blk g18 (.cells #[(iv ((rdD p0 x8 z_Tile).N)), (iv ((rdD p0 x8 z_Tile).E)), (iv ((rdD p0 x8 z_Tile).S)), (iv ((rdD p0 x8 z_Tile).W))] 23 (0, 0)), blk g4 (mapObj (aggI ints_Tile) vB l7)] (hS29.map1 0 _ (fun h => rowO.ofBlk h rfl (Nat.le_of_ble_eq_true (by kernel_rfl))) (fun _ h => by obtain ⟨_, h1, h2⟩ := h; injection h1 with h1; subst h1; exact h2) [1, 2] (by decide) (by decide))
     obtain ⟨t31, ht32, hx25⟩ := bind_some hx25
     refine WL.call (some 29) 15 #[(sv (some ⟨g27, 0, none⟩) [(rdD p0 x8 z_Tile).N, (rdD p0 x8 z_Tile).E, (rdD p0 x8 z_Tile).S, (rdD p0 x8 z_Tile).W] 4)] (fun fb => by kernel_rfl) (tile_colour_calls _ [(rdD p0 x8 z_Tile).N, (rdD p0 x8 z_Tile).E, (rdD p0 x8 z_Tile).S, (rdD p0 x8 z_Tile).W] (some ⟨g27, 0, none⟩) 4 t31 _ (hS30.ow 0).ofO ht32) (fun v w33 hR34 => ?_)
     obtain ⟨rfl, hk_⟩ := hR34
     have hS35 := hS30.keepN hk_
     refine ⟨trivial, ?_⟩
     refine sg 16 [] [3, 5, 10, 11, 12, 31] [(3, (.map (some g4))), (5, (pt g18)), (10, (sv Aa p0 ca)), (11, (iv (p0.length : Int))), (12, (iv x8)), (31, (bv (!t31)))] (by kernel_rfl) ?_
     injection hx25 with hx25
     exact WL.to K (!t31) [3, 5, 10, 11, 12, 31] rfl ⟨⟨(hS35.subR [0]).sub [2, 1] (by decide), hx25.symm⟩, trivial⟩
    rintro y36 w38 ⟨⟨hS39, hq37⟩, hF40⟩
    subst hq37
    refine WL.done rfl (WX.next ?_)
    rcases br_some hl15 with ⟨h41, hl15⟩ | ⟨h41, hl15⟩
    ·refine WC.condT2 (fun fb => by kernel_rfl) h41 ?_
     refine WC.seq (WC.region ?_)
     refine sg 1 [] [2] [(2, (bv false))] (by kernel_rfl) ?_
     refine WL.done rfl (WX.next ?_)
     refine WC.ret ?_
     injection hl15 with hl15
     subst hl15
     injection hf with hf
     subst hf
     exact WX.thenR (WX.blockR (WX.thenR (WX.thenR (WX.blockR (WX.thenR (WX.ret_ [] (bv false) [] (fun fb => by kernel_rfl) trivial ⟨_, rfl, rfl, hS39.keep⟩))))))
    refine WC.condF2 (fun fb => by kernel_rfl) h41 ?_
    refine WC.skip (WX.next (WC.region ?_))
    refine seg 2 [.v (iv ((rdD p0 x8 z_Tile).N)), .v (iv ((rdD p0 x8 z_Tile).E)), .v (iv ((rdD p0 x8 z_Tile).S)), .v (iv ((rdD p0 x8 z_Tile).W))] [3, 10, 11, 12, 32, 33] [(3, (.map (some g4))), (10, (sv Aa p0 ca)), (11, (iv (p0.length : Int))), (12, (iv x8)), (32, (.map (some g4))), (33, (.agg #[(iv ((rdD p0 x8 z_Tile).N)), (iv ((rdD p0 x8 z_Tile).E)), (iv ((rdD p0 x8 z_Tile).S)), (iv ((rdD p0 x8 z_Tile).W))]))] [.cell ⟨g18, 0, none⟩ (iv ((rdD p0 x8 z_Tile).N)), .cell ⟨g18, 1, none⟩ (iv ((rdD p0 x8 z_Tile).E)), .cell ⟨g18, 2, none⟩ (iv ((rdD p0 x8 z_Tile).S)), .cell ⟨g18, 3, none⟩ (iv ((rdD p0 x8 z_Tile).W))] (fun fb => by kernel_rfl) rfl ⟨hS39.cell 1 rfl 0 rfl, hS39.cell 1 rfl 1 rfl, hS39.cell 1 rfl 2 rfl, hS39.cell 1 rfl 3 rfl, trivial⟩ ?_
    refine WL.mapput hS39 0 (t := 47) (kT := 23) (eT := 4) (kE := (aggI ints_Tile)) (vE := vB) (l := l7) rfl (rdD p0 x8 z_Tile) true (fun fb => by kernel_rfl) tile_Valid_key23 (by kernel_rfl) [1] (by decide) (by decide) (fun w42 hS43 => ?_)
    refine ⟨trivial, ?_⟩
    refine WL.done rfl ?_
    refine WX.blockN (WX.next ?_)
    refine WC.region ?_
    refine sg 2 [] [3, 10, 11, 12] [(3, (.map (some g4))), (10, (sv Aa p0 ca)), (11, (iv (p0.length : Int))), (12, (iv (w64 (x8 + 1))))] (by kernel_rfl) ?_
    refine WL.done rfl ?_
    exact WX.again k12 (Nat.lt_succ_self _) (mput (rdD p0 x8 z_Tile) true l7, w64 (x8 + 1)) [3, 10, 11, 12] rfl ⟨(hS43.subR [0]).sub [0] (by decide), hl15⟩
   refine WC.condF2 (fun fb => by kernel_rfl) h16 ?_
   refine WC.exit ?_
   injection hl15 with hl15
   exact WX.thenX (WX.thenX (WX.blockHere (WX.to Kx9 () [] rfl ⟨(hS14.subR [0]).sub [] (by decide), hl15.symm⟩)))
 rintro y47 w44 ⟨hS45, hq46⟩
 subst hq46
 have hf := sum_inr hf
 refine WX.next (WC.seq (WC.region ?_))
 refine sg 1 [] [2] [(2, (bv true))] (by kernel_rfl) ?_
 refine WL.done rfl (WX.next ?_)
 refine WC.ret ?_
 injection hf with hf
 subst hf
 exact WX.ret_ [] (bv true) [] (fun fb => by kernel_rfl) trivial ⟨_, rfl, rfl, hS45.keep⟩
theorem census_orders_calls (p0 : List Tile) (Aa : Option Addr) (ca : Nat) (r : Unit) (w : World) (hR0 : RO NoS w (rowR enc_Tile Aa ca p0)) (hf : census_orders p0 = some r) :
  CallsR Try.prog 16 #[(sv Aa p0 ca)] w (fun v w' => ∃ (g1_ : Nat), v = (.func (.func 28) #[] #[(pt g1_)]) ∧ St NoS w w' [] [blk g1_ (.cells #[(sv Aa p0 ca)] 26 (0, 0))]) := by
 have hS : St NoS w w [rowR enc_Tile Aa ca p0] [] := St.init (ro_cons hR0 (ro_nil _ _))
 refine enter 4 Try.func16 rfl Try.ntmps16 rfl ?_
 unfold census_orders at hf
 refine WC.seq (WC.region ?_)
 refine WL.new hS 1 [] (fun g => (pt g)) (.cells #[(sv Aa p0 ca)] 26 (0, 0)) [] (fun fb g => by kernel_rfl) trivial (fun g2 w3 hS4 => ?_)
 refine ⟨trivial, ?_⟩
 refine sg 2 [] [1] [(1, (pt g2))] (by kernel_rfl) ?_
 refine WL.done rfl (WX.next (WC.seq (WC.region ?_)))
 refine sg 2 [] [2] [(2, (.func (.func 28) #[] #[(pt g2)]))] (by kernel_rfl) ?_
 refine WL.done rfl (WX.next ?_)
 refine WC.ret ?_
 injection hf with hf
 subst hf
 exact WX.ret_ [] (.func (.func 28) #[] #[(pt g2)]) [] (fun fb => by kernel_rfl) trivial ⟨_, rfl, g2, rfl, (hS4.sub [0] (by decide)).noR⟩
theorem census_names_of_key3 : KeyK Try.prog 3 (vI .i64) := KeyK.int (by kernel_rfl)
theorem census_names_of_calls (p0 : List (Int × Int)) (p1 : Int) (gm_p0 : Nat) (r : Int × (List (Int × Int))) (w : World) (hI : IoOK w [blk gm_p0 (mapObj (vI .i64) (vI .i64) p0)]) (hf : census_names_of p0 p1 = some r) :
  CallsR Try.prog 31 #[(.map (some gm_p0)), (iv p1)] w (fun v w' => v = (iv r.1) ∧ St (fpL [blk gm_p0 (mapObj (vI .i64) (vI .i64) p0)]) w w' [] [blk gm_p0 (mapObj (vI .i64) (vI .i64) r.2)]) := by
 have hS : St (fpL [blk gm_p0 (mapObj (vI .i64) (vI .i64) p0)]) w w [] [blk gm_p0 (mapObj (vI .i64) (vI .i64) p0)] := St.initIO (ro_nil _ _) hI
 refine enter 22 Try.func31 rfl Try.ntmps31 rfl ?_
 unfold census_names_of at hf
 refine WC.seq (WC.region ?_)
 refine sg 1 [] [0, 1] [(0, (.map (some gm_p0))), (1, (iv p1))] (by kernel_rfl) ?_
 refine WL.done rfl (WX.next (WC.seq (WC.seq (WC.region ?_))))
 refine sg 2 [] [0, 1, 8, 9] [(0, (.map (some gm_p0))), (1, (iv p1)), (8, (.map (some gm_p0))), (9, (iv p1))] (by kernel_rfl) ?_
 refine WL.lookup (hS.own 0).1 p1 (d := 10) (c := true) (t := 63) (kT := 3) (eT := 3) (z := 0) (kE := (vI .i64)) (vE := (vI .i64)) (l := p0) (.tuple #[(iv (mget p1 0 p0)), (bv (mhas p1 p0))]) (fun fb => by kernel_rfl) census_names_of_key3 (by kernel_rfl) (fun _ => by kernel_rfl) rfl ?_
 refine ⟨trivial, ?_⟩
 refine sg 8 [] [0, 1, 6] [(0, (.map (some gm_p0))), (1, (iv p1)), (6, (bv (mhas p1 p0)))] (by kernel_rfl) ?_
 refine WL.done rfl (WX.next (WC.seq (WC.region ?_)))
 refine sg 2 [] [0, 1, 14] [(0, (.map (some gm_p0))), (1, (iv p1)), (14, (bv (!(mhas p1 p0))))] (by kernel_rfl) ?_
 refine WL.done rfl (WX.next ?_)
 obtain ⟨x4, hx5, hf⟩ := bind_some hf
 refine WC.cutN (T := (List (Int × Int))) (fun t => [(0, (.map (some gm_p0))), (1, (iv p1))]) (fun t w1 => St (fpL [blk gm_p0 (mapObj (vI .i64) (vI .i64) p0)]) w w1 [] [blk gm_p0 (mapObj (vI .i64) (vI .i64) t)] ∧ x4 = t) (fun Kx4 => ?_) ?_
 ·
  rcases br_some hx5 with ⟨h6, hx5⟩ | ⟨h6, hx5⟩
  ·refine WC.condT2 (fun fb => by kernel_rfl) h6 ?_
   refine WC.region ?_
   refine sg 3 [] [0, 1, 15, 16, 17] [(0, (.map (some gm_p0))), (1, (iv p1)), (15, (.map (some gm_p0))), (16, (iv p1)), (17, (.map (some gm_p0)))] (by kernel_rfl) ?_
   refine seg 4 [.o (mapObj (vI .i64) (vI .i64) p0)] [0, 1, 15, 16, 18] [(0, (.map (some gm_p0))), (1, (iv p1)), (15, (.map (some gm_p0))), (16, (iv p1)), (18, (iv (((ents (vI .i64) (vI .i64) 0 p0).toArray.size : Nat) : Int)))] [.obj gm_p0 (mapObj (vI .i64) (vI .i64) p0)] (fun fb => by kernel_rfl) rfl ⟨(mapObj_req (hS.own 0).1), trivial⟩ ?_
   refine WL.reE [0, 1, 15, 16, 18] [(0, (.map (some gm_p0))), (1, (iv p1)), (15, (.map (some gm_p0))), (16, (iv p1)), (18, (iv (((ents (vI .i64) (vI .i64) 0 p0).toArray.size : Nat) : Int)))] [(0, (.map (some gm_p0))), (1, (iv p1)), (15, (.map (some gm_p0))), (16, (iv p1)), (18, (iv (p0.length : Int)))] rfl (by rw [ents_size]) ?_
   refine WL.mapput hS 0 (t := 63) (kT := 3) (eT := 3) (kE := (vI .i64)) (vE := (vI .i64)) (l := p0) rfl p1 (p0.length : Int) (fun fb => by kernel_rfl) census_names_of_key3 (by kernel_rfl) [] (by decide) (by decide) (fun w7 hS8 => ?_)
   refine ⟨trivial, ?_⟩
   refine WL.done rfl ?_
   injection hx5 with hx5
   exact WX.to Kx4 (mput p1 (p0.length : Int) p0) [0, 1] rfl ⟨(hS8.subR []).sub [0] (by decide), hx5.symm⟩
  refine WC.condF2 (fun fb => by kernel_rfl) h6 ?_
  refine WC.skip ?_
  injection hx5 with hx5
  exact WX.to Kx4 p0 [0, 1] rfl ⟨(hS.subR []).sub [0] (by decide), hx5.symm⟩
 rintro y12 w9 ⟨hS10, hq11⟩
 subst hq11
 refine WX.next (WC.seq (WC.region ?_))
 refine sg 2 [] [19, 20] [(19, (.map (some gm_p0))), (20, (iv p1))] (by kernel_rfl) ?_
 refine WL.lookup (hS10.own 0).1 p1 (d := 21) (c := false) (t := 63) (kT := 3) (eT := 3) (z := 0) (kE := (vI .i64)) (vE := (vI .i64)) (l := x4) (iv (mget p1 0 x4)) (fun fb => by kernel_rfl) census_names_of_key3 (by kernel_rfl) (fun _ => by kernel_rfl) rfl ?_
 refine ⟨trivial, ?_⟩
 refine sg 4 [] [4] [(4, (iv (mget p1 0 x4)))] (by kernel_rfl) ?_
 refine WL.done rfl (WX.next ?_)
 refine WC.ret ?_
 injection hf with hf
 subst hf
 exact WX.ret_ [] (iv (mget p1 0 x4)) [] (fun fb => by kernel_rfl) trivial ⟨_, rfl, rfl, (hS10.sub [0] (by decide)).noR⟩
theorem census_renamed_calls (k : Nat) (p0 : List Tile) (Aa : Option Addr) (ca : Nat) (r : (List Tile)) (w : World) (hR0 : RO NoS w (rowR enc_Tile Aa ca p0)) (hf : census_renamed k p0 = some r) :
  CallsR Try.prog 17 #[(sv Aa p0 ca)] w (fun v w' => ∃ (A1_ : Option Addr), ∃ (c1_ : Nat), v = (sv A1_ r c1_) ∧ St NoS w w' [] [rowO 23 enc_Tile A1_ c1_ r]) := by
 have hS : St NoS w w [rowR enc_Tile Aa ca p0] [] := St.init (ro_cons hR0 (ro_nil _ _))
 refine enter 38 Try.func17 rfl Try.ntmps17 rfl ?_
 unfold census_renamed at hf
 refine WC.seq (WC.region ?_)
 refine sg 1 [] [0] [(0, (sv Aa p0 ca))] (by kernel_rfl) ?_
 refine WL.done rfl (WX.next (WC.seq (WC.region ?_)))
 refine WL.new hS 8 [] (fun g => (.map (some g))) (mapObj (vI .i64) (vI .i64) ([] : List (Int × Int))) [] (fun fb g => by kernel_rfl) trivial (fun g3 w4 hS5 => ?_)
 refine ⟨trivial, ?_⟩
 refine WL.new hS5 9 [] (fun g => (.map (some g))) (mapObj (vI .i64) (vI .i64) ([] : List (Int × Int))) [] (fun fb g => by kernel_rfl) trivial (fun g6 w7 hS8 => ?_)
 refine ⟨trivial, ?_⟩
 refine sg 4 [] [0, 3, 4] [(0, (sv Aa p0 ca)), (3, (.map (some g3))), (4, (.map (some g6)))] (by kernel_rfl) ?_
 refine WL.done rfl (WX.next (WC.seq (WC.region ?_)))
 refine sg 1 [] [0, 3, 4, 5] [(0, (sv Aa p0 ca)), (3, (.map (some g3))), (4, (.map (some g6))), (5, (.slice none 0 0))] (by kernel_rfl) ?_
 refine WL.done rfl (WX.next (WC.seq (WC.seq (WC.region ?_))))
 refine sg 3 [] [3, 4, 5, 10, 11, 12] [(3, (.map (some g3))), (4, (.map (some g6))), (5, (.slice none 0 0)), (10, (sv Aa p0 ca)), (11, (iv (p0.length : Int))), (12, (iv 0))] (by kernel_rfl) ?_
 refine WL.done rfl (WX.next ?_)
 have hS9 := hS8.nilrow 23 enc_Tile
 obtain ⟨x19, hx20, hf⟩ := bind_some hf
 refine WC.cutN (T := (List Tile) × (Option Addr) × Nat) (fun t => [(5, (sv t.2.1 t.1 t.2.2))]) (fun t w1 => St NoS w w1 [rowR enc_Tile Aa ca p0] [rowO 23 enc_Tile t.2.1 t.2.2 t.1] ∧ x19 = t.1) (fun Kx19 => ?_) ?_
 ·
  refine WC.block ?_
  refine WC.loop (T := ((List (Int × Int)) × (List (Int × Int)) × (List Tile) × Int) × (Option Addr) × Nat) (fun t => [(3, (.map (some g3))), (4, (.map (some g6))), (5, (sv t.2.1 t.1.2.2.1 t.2.2)), (10, (sv Aa p0 ca)), (11, (iv (p0.length : Int))), (12, (iv t.1.2.2.2))]) (fun n t w1 => St NoS w w1 [rowR enc_Tile Aa ca p0] [blk g3 (mapObj (vI .i64) (vI .i64) t.1.1), blk g6 (mapObj (vI .i64) (vI .i64) t.1.2.1), rowO 23 enc_Tile t.2.1 t.2.2 t.1.2.2.1] ∧ census_renamed.l0 n t.1.1 t.1.2.1 t.1.2.2.1 t.1.2.2.2 p0 = some x19) k ((([] : List (Int × Int)), ([] : List (Int × Int)), ([] : List Tile), 0), none, 0) [3, 4, 5, 10, 11, 12] rfl ⟨(hS9.subR [0]).sub [2, 1, 0] (by decide), hx20⟩ ?_
  rintro k21 ⟨⟨l10, l11, l14, x15⟩, A12, c13⟩ w22 ⟨hS23, hl24⟩
  cases k21 with
  | zero => rw [census_renamed.l0] at hl24; cases hl24
  | succ k21 =>
   rw [census_renamed.l0] at hl24
   refine WC.seq (WC.region ?_)
   refine sg 1 [] [3, 4, 5, 10, 11, 12, 13] [(3, (.map (some g3))), (4, (.map (some g6))), (5, (sv A12 l14 c13)), (10, (sv Aa p0 ca)), (11, (iv (p0.length : Int))), (12, (iv x15)), (13, (bv (decide (x15 < (p0.length : Int)))))] (by kernel_rfl) ?_
   refine WL.done rfl (WX.next (WC.seq ?_))
   rcases br_some hl24 with ⟨h25, hl24⟩ | ⟨h25, hl24⟩
   ·refine WC.condT2 (fun fb => by kernel_rfl) h25 ?_
    refine WC.skip (WX.next (WC.seq (WC.block (WC.seq (WC.region ?_)))))
    obtain ⟨h26, hl24⟩ := as_some hl24
    refine seg 2 [.v (iv ((rdD p0 x15 z_Tile).N)), .v (iv ((rdD p0 x15 z_Tile).E)), .v (iv ((rdD p0 x15 z_Tile).S)), .v (iv ((rdD p0 x15 z_Tile).W))] [3, 4, 5, 10, 11, 12, 15] [(3, (.map (some g3))), (4, (.map (some g6))), (5, (sv A12 l14 c13)), (10, (sv Aa p0 ca)), (11, (iv (p0.length : Int))), (12, (iv x15)), (15, (.agg #[(iv ((rdD p0 x15 z_Tile).N)), (iv ((rdD p0 x15 z_Tile).E)), (iv ((rdD p0 x15 z_Tile).S)), (iv ((rdD p0 x15 z_Tile).W))]))] [.idx Aa x15 p0.length, .cell ((adr Aa).add ((x15).toNat * 4)) (iv ((rdD p0 x15 z_Tile).N)), .cell (((adr Aa).add ((x15).toNat * 4)).add 1) (iv ((rdD p0 x15 z_Tile).E)), .cell (((adr Aa).add ((x15).toNat * 4)).add 2) (iv ((rdD p0 x15 z_Tile).S)), .cell (((adr Aa).add ((x15).toNat * 4)).add 3) (iv ((rdD p0 x15 z_Tile).W))] (fun fb => by kernel_rfl) rfl ⟨rowR.adr (hS23.rd 0).1 h26.1 h26.2, rowR.cell (hS23.rd 0).1 z_Tile h26.1 h26.2 0 rfl, rowR.cell (hS23.rd 0).1 z_Tile h26.1 h26.2 1 rfl, rowR.cell (hS23.rd 0).1 z_Tile h26.1 h26.2 2 rfl, rowR.cell (hS23.rd 0).1 z_Tile h26.1 h26.2 3 rfl, trivial⟩ ?_
    refine WL.new hS23 7 [] (fun g => (pt g)) (.cells #[(iv 0), (iv 0), (iv 0), (iv 0)] 23 (0, 0)) [] (fun fb g => by kernel_rfl) trivial (fun g27 w28 hS29 => ?_)
    refine ⟨trivial, ?_⟩
    refine WL.store hS29 0 rfl [(0, (iv ((rdD p0 x15 z_Tile).N))), (1, (iv ((rdD p0 x15 z_Tile).E))), (2, (iv ((rdD p0 x15 z_Tile).S))), (3, (iv ((rdD p0 x15 z_Tile).W)))] #[(iv ((rdD p0 x15 z_Tile).N)), (iv ((rdD p0 x15 z_Tile).E)), (iv ((rdD p0 x15 z_Tile).S)), (iv ((rdD p0 x15 z_Tile).W))] (fun fb => by kernel_rfl) (by kernel_rfl) rfl [1, 2, 3] (by decide) (by decide) (fun w30 hS31 => ?_)
    refine ⟨trivial, ?_⟩
    refine WL.done rfl (WX.next ?_)
    refine WC.regionD ([(3, ⟨g27, 0, none⟩, (iv ((rdD p0 x15 z_Tile).N))), (7, ⟨g27, 1, none⟩, (iv ((rdD p0 x15 z_Tile).E))), (11, ⟨g27, 2, none⟩, (iv ((rdD p0 x15 z_Tile).S))), (15, ⟨g27, 3, none⟩, (iv ((rdD p0 x15 z_Tile).W)))], [0, 1, 2, 3, 5, 6, 7, 9, 10, 11, 13, 14, 15, 17, 20], [[], [], [], [2], [1, 2, 3], [], [], [6], [1, 2, 3, 4, 5, 6, 7], [], [], [10], [1, 2, 3, 4, 5, 6, 7, 8, 9, 10, 11], [], [], [14], [1, 2, 3, 4, 5, 6, 7, 8, 9, 10, 11, 12, 13, 14, 15], [1, 2, 3, 4, 5, 6, 7, 8, 9, 10, 11, 12, 13, 14, 15, 16], [1, 2, 3, 4, 5, 6, 7, 8, 9, 10, 11, 12, 13, 14, 15, 16, 17], [0, 1, 2, 3, 4, 5, 6, 7, 8, 9, 10, 11, 12, 13, 14, 15, 16, 17, 18], [0, 1, 2, 3, 4, 5, 6, 7, 8, 9, 10, 11, 12, 13, 14, 15, 16, 17, 18, 19]]) [[0, 1, 2, 3, 5, 6, 7, 9, 10, 11, 13, 14, 15, 4, 8, 12, 16, 17, 18, 19, 20]] (by kernel_rfl) (by kernel_rfl) (NoPanic.block (NoPanic.seq (NoPanic.seq (NoPanic.block (NoPanic.seq (NoPanic.body)))))) ?_
    have hS33 := hS31.drew
    revert hS33
    generalize World.drew w30 = w32
    intro hS33
    refine ⟨⟨hS33.cell 0 rfl 0 rfl, hS33.cell 0 rfl 1 rfl, hS33.cell 0 rfl 2 rfl, hS33.cell 0 rfl 3 rfl, trivial⟩, forallC ?_ (forallN)⟩
    refine segF 13 [.v (iv ((rdD p0 x15 z_Tile).N)), .v (iv ((rdD p0 x15 z_Tile).E)), .v (iv ((rdD p0 x15 z_Tile).S)), .v (iv ((rdD p0 x15 z_Tile).W))] [3, 4, 10, 11, 12, 16, 17, 19, 21, 23, 25, 27, 29, 31] [(3, (.map (some g3))), (4, (.map (some g6))), (10, (sv Aa p0 ca)), (11, (iv (p0.length : Int))), (12, (iv x15)), (16, (sv A12 l14 c13)), (17, (.map (some g3))), (19, (iv ((rdD p0 x15 z_Tile).N))), (21, (.map (some g6))), (23, (iv ((rdD p0 x15 z_Tile).E))), (25, (.map (some g3))), (27, (iv ((rdD p0 x15 z_Tile).S))), (29, (.map (some g6))), (31, (iv ((rdD p0 x15 z_Tile).W)))] [] [0, 1, 2, 3] [(3, ⟨g27, 0, none⟩, (iv ((rdD p0 x15 z_Tile).N))), (7, ⟨g27, 1, none⟩, (iv ((rdD p0 x15 z_Tile).E))), (11, ⟨g27, 2, none⟩, (iv ((rdD p0 x15 z_Tile).S))), (15, ⟨g27, 3, none⟩, (iv ((rdD p0 x15 z_Tile).W)))] (fun fb => by kernel_rfl) rfl trivial rfl ?_
    obtain ⟨t34, ht35, hl24⟩ := bind_some hl24
    refine WL.call (some 20) 31 #[(.map (some g3)), (iv ((rdD p0 x15 z_Tile).N))] (fun fb => by kernel_rfl) (census_names_of_calls l10 ((rdD p0 x15 z_Tile).N) g3 t34 _ (hS33.io [1] (by decide)) ht35) (fun v w36 hR37 => ?_)
    obtain ⟨rfl, hk_⟩ := hR37
    have hS38 := hS.go w36 [blk g3 (mapObj (vI .i64) (vI .i64) t34.2), blk g27 (.cells #[(iv ((rdD p0 x15 z_Tile).N)), (iv ((rdD p0 x15 z_Tile).E)), (iv ((rdD p0 x15 z_Tile).S)), (iv ((rdD p0 x15 z_Tile).W))] 23 (0, 0)), blk g6 (mapObj (vI .i64) (vI .i64) l11), rowO 23 enc_Tile A12 c13 l14] (hS33.call hk_ [1] [0, 2, 3] (fun g hg => fpL_sel g hg) (by decide) (by decide))
    refine ⟨⟨hS38.cell 1 rfl 1 rfl, hS38.cell 1 rfl 2 rfl, hS38.cell 1 rfl 3 rfl, trivial⟩, ?_⟩
    obtain ⟨t39, ht40, hl24⟩ := bind_some hl24
    refine WL.call (some 24) 31 #[(.map (some g6)), (iv ((rdD p0 x15 z_Tile).E))] (fun fb => by kernel_rfl) (census_names_of_calls l11 ((rdD p0 x15 z_Tile).E) g6 t39 _ (hS38.io [2] (by decide)) ht40) (fun v w41 hR42 => ?_)
    obtain ⟨rfl, hk_⟩ := hR42
    have hS43 := hS38.go w41 [blk g6 (mapObj (vI .i64) (vI .i64) t39.2), blk g3 (mapObj (vI .i64) (vI .i64) t34.2), blk g27 (.cells #[(iv ((rdD p0 x15 z_Tile).N)), (iv ((rdD p0 x15 z_Tile).E)), (iv ((rdD p0 x15 z_Tile).S)), (iv ((rdD p0 x15 z_Tile).W))] 23 (0, 0)), rowO 23 enc_Tile A12 c13 l14] (hS38.call hk_ [2] [0, 1, 3] (fun g hg => fpL_sel g hg) (by decide) (by decide))
    refine ⟨⟨hS43.cell 2 rfl 2 rfl, hS43.cell 2 rfl 3 rfl, trivial⟩, ?_⟩
    obtain ⟨t44, ht45, hl24⟩ := bind_some hl24
    refine WL.call (some 28) 31 #[(.map (some g3)), (iv ((rdD p0 x15 z_Tile).S))] (fun fb => by kernel_rfl) (census_names_of_calls t34.2 ((rdD p0 x15 z_Tile).S) g3 t44 _ (hS43.io [1] (by decide)) ht45) (fun v w46 hR47 => ?_)
    obtain ⟨rfl, hk_⟩ := hR47
    have hS48 := hS43.go w46 [blk g3 (mapObj (vI .i64) (vI .i64) t44.2), blk g6 (mapObj (vI .i64) (vI .i64) t39.2), blk g27 (.cells #[(iv ((rdD p0 x15 z_Tile).N)), (iv ((rdD p0 x15 z_Tile).E)), (iv ((rdD p0 x15 z_Tile).S)), (iv ((rdD p0 x15 z_Tile).W))] 23 (0, 0)), rowO 23 enc_Tile A12 c13 l14] (hS43.call hk_ [1] [0, 2, 3] (fun g hg => fpL_sel g hg) (by decide) (by decide))
    refine ⟨⟨hS48.cell 2 rfl 3 rfl, trivial⟩, ?_⟩
    obtain ⟨t49, ht50, hl24⟩ := bind_some hl24
    refine WL.call (some 32) 31 #[(.map (some g6)), (iv ((rdD p0 x15 z_Tile).W))] (fun fb => by kernel_rfl) (census_names_of_calls t39.2 ((rdD p0 x15 z_Tile).W) g6 t49 _ (hS48.io [1] (by decide)) ht50) (fun v w51 hR52 => ?_)
    obtain ⟨rfl, hk_⟩ := hR52
    have hS53 := hS48.go w51 [blk g6 (mapObj (vI .i64) (vI .i64) t49.2), blk g3 (mapObj (vI .i64) (vI .i64) t44.2), blk g27 (.cells #[(iv ((rdD p0 x15 z_Tile).N)), (iv ((rdD p0 x15 z_Tile).E)), (iv ((rdD p0 x15 z_Tile).S)), (iv ((rdD p0 x15 z_Tile).W))] 23 (0, 0)), rowO 23 enc_Tile A12 c13 l14] (hS48.call hk_ [1] [0, 2, 3] (fun g hg => fpL_sel g hg) (by decide) (by decide))
    refine ⟨trivial, ?_⟩
    refine sg 18 [] [3, 4, 10, 11, 12, 16, 33] [(3, (.map (some g3))), (4, (.map (some g6))), (10, (sv Aa p0 ca)), (11, (iv (p0.length : Int))), (12, (iv x15)), (16, (sv A12 l14 c13)), (33, (.agg #[(iv t34.1), (iv t39.1), (iv t44.1), (iv t49.1)]))] (by kernel_rfl) ?_
    refine WL.new hS53 34 [] (fun g => (.slice (some ⟨g, 0, none⟩) 1 1)) (.cells #[(iv t34.1), (iv t39.1), (iv t44.1), (iv t49.1)] 23 (0, 0)) [] (fun fb g => by kernel_rfl) trivial (fun g54 w55 hS56 => ?_)
    refine ⟨trivial, ?_⟩
    have hS57 := hS53.go w55 [rowO 23 enc_Tile (some ⟨g54, 0, none⟩) 1 [(Tile.mk t34.1 t39.1 t44.1 t49.1)], blk g6 (mapObj (vI .i64) (vI .i64) t49.2), blk g3 (mapObj (vI .i64) (vI .i64) t44.2), blk g27 (.cells #[(iv ((rdD p0 x15 z_Tile).N)), (iv ((rdD p0 x15 z_Tile).E)), (iv ((rdD p0 x15 z_Tile).S)), (iv ((rdD p0 x15 z_Tile).W))] 23 (0, 0)), rowO 23 enc_Tile A12 c13 l14] (hS56.map1 0 _ (fun h => rowO.ofBlk h rfl (Nat.le_of_ble_eq_true (by kernel_rfl))) (fun _ h => by obtain ⟨_, h1, h2⟩ := h; injection h1 with h1; subst h1; exact h2) [1, 2, 3, 4] (by decide) (by decide))
    obtain ⟨h58, hl24⟩ := as_some hl24
    refine WL.append hS57 4 (d := 35) (tS := 26) (z := (.agg #[(iv 0), (iv 0), (iv 0), (iv 0)])) (bytes := 32) (c2 := 1) rfl (fun fb => by kernel_rfl) (rowO.rd (hS57.own 0).1) (by kernel_rfl) (by kernel_rfl) rfl (by decide) h58 (by decide) [0, 1, 2, 3] (by decide) (by decide) (fun A59 c60 w61 hS62 => ?_)
    refine ⟨trivial, ?_⟩
    refine sg 21 [] [3, 4, 5, 10, 11, 12] [(3, (.map (some g3))), (4, (.map (some g6))), (5, (sv A59 (l14 ++ [(Tile.mk t34.1 t39.1 t44.1 t49.1)]) c60)), (10, (sv Aa p0 ca)), (11, (iv (p0.length : Int))), (12, (iv x15))] (by kernel_rfl) ?_
    refine WL.done rfl ?_
    refine WX.blockN (WX.next ?_)
    refine WC.region ?_
    refine sg 2 [] [3, 4, 5, 10, 11, 12] [(3, (.map (some g3))), (4, (.map (some g6))), (5, (sv A59 (l14 ++ [(Tile.mk t34.1 t39.1 t44.1 t49.1)]) c60)), (10, (sv Aa p0 ca)), (11, (iv (p0.length : Int))), (12, (iv (w64 (x15 + 1))))] (by kernel_rfl) ?_
    refine WL.done rfl ?_
    exact WX.again k21 (Nat.lt_succ_self _) ((t44.2, t49.2, l14 ++ [(Tile.mk t34.1 t39.1 t44.1 t49.1)], w64 (x15 + 1)), A59, c60) [3, 4, 5, 10, 11, 12] rfl ⟨(hS62.subR [0]).sub [3, 2, 0] (by decide), hl24⟩
   refine WC.condF2 (fun fb => by kernel_rfl) h25 ?_
   refine WC.exit ?_
   injection hl24 with hl24
   exact WX.thenX (WX.thenX (WX.blockHere (WX.to Kx19 (l14, A12, c13) [5] rfl ⟨(hS23.subR [0]).sub [2] (by decide), hl24.symm⟩)))
 rintro ⟨y67, A16, c18⟩ w63 ⟨hS65, hq66⟩
 subst hq66
 refine WX.next (WC.seq (WC.region ?_))
 refine sg 2 [] [2] [(2, (sv A16 x19 c18))] (by kernel_rfl) ?_
 refine WL.done rfl (WX.next ?_)
 refine WC.ret ?_
 injection hf with hf
 subst hf
 exact WX.ret_ [] (sv A16 x19 c18) [] (fun fb => by kernel_rfl) trivial ⟨_, rfl, A16, c18, rfl, (hS65.sub [0] (by decide)).noR⟩
theorem census_numbers_calls (k : Nat) (p0 : List Tile) (Aa : Option Addr) (ca : Nat) (r : (List Int)) (w : World) (hR0 : RO NoS w (rowR enc_Tile Aa ca p0)) (hf : census_numbers k p0 = some r) :
  CallsR Try.prog 33 #[(sv Aa p0 ca)] w (fun v w' => ∃ (A1_ : Option Addr), ∃ (c1_ : Nat), v = (sv A1_ r c1_) ∧ St NoS w w' [] [rowO 3 encInt A1_ c1_ r]) := by
 have hS : St NoS w w [rowR enc_Tile Aa ca p0] [] := St.init (ro_cons hR0 (ro_nil _ _))
 refine enter 25 Try.func33 rfl Try.ntmps33 rfl ?_
 unfold census_numbers at hf
 refine WC.seq (WC.region ?_)
 refine sg 1 [] [0] [(0, (sv Aa p0 ca))] (by kernel_rfl) ?_
 refine WL.done rfl (WX.next (WC.seq (WC.region ?_)))
 refine sg 1 [] [0, 3] [(0, (sv Aa p0 ca)), (3, (.slice none 0 0))] (by kernel_rfl) ?_
 refine WL.done rfl (WX.next (WC.seq (WC.seq (WC.region ?_))))
 refine sg 3 [] [3, 6, 7, 8] [(3, (.slice none 0 0)), (6, (sv Aa p0 ca)), (7, (iv (p0.length : Int))), (8, (iv 0))] (by kernel_rfl) ?_
 refine WL.done rfl (WX.next ?_)
 have hS3 := hS.nilrow 3 encInt
 obtain ⟨x10, hx11, hf⟩ := bind_some hf
 refine WC.cutN (T := (List Int) × (Option Addr) × Nat) (fun t => [(3, (sv t.2.1 t.1 t.2.2))]) (fun t w1 => St NoS w w1 [rowR enc_Tile Aa ca p0] [rowO 3 encInt t.2.1 t.2.2 t.1] ∧ x10 = t.1) (fun Kx10 => ?_) ?_
 ·
  refine WC.block ?_
  refine WC.loop (T := ((List Int) × Int) × (Option Addr) × Nat) (fun t => [(3, (sv t.2.1 t.1.1 t.2.2)), (6, (sv Aa p0 ca)), (7, (iv (p0.length : Int))), (8, (iv t.1.2))]) (fun n t w1 => St NoS w w1 [rowR enc_Tile Aa ca p0] [rowO 3 encInt t.2.1 t.2.2 t.1.1] ∧ census_numbers.l0 n t.1.1 t.1.2 p0 = some x10) k ((([] : List Int), 0), none, 0) [3, 6, 7, 8] rfl ⟨(hS3.subR [0]).sub [0] (by decide), hx11⟩ ?_
  rintro k12 ⟨⟨l6, x7⟩, A4, c5⟩ w13 ⟨hS14, hl15⟩
  cases k12 with
  | zero => rw [census_numbers.l0] at hl15; cases hl15
  | succ k12 =>
   rw [census_numbers.l0] at hl15
   refine WC.seq (WC.region ?_)
   refine sg 1 [] [3, 6, 7, 8, 9] [(3, (sv A4 l6 c5)), (6, (sv Aa p0 ca)), (7, (iv (p0.length : Int))), (8, (iv x7)), (9, (bv (decide (x7 < (p0.length : Int)))))] (by kernel_rfl) ?_
   refine WL.done rfl (WX.next (WC.seq ?_))
   rcases br_some hl15 with ⟨h16, hl15⟩ | ⟨h16, hl15⟩
   ·refine WC.condT2 (fun fb => by kernel_rfl) h16 ?_
    refine WC.skip (WX.next (WC.seq (WC.block (WC.seq (WC.region ?_)))))
    obtain ⟨h17, hl15⟩ := as_some hl15
    refine seg 2 [.v (iv ((rdD p0 x7 z_Tile).N)), .v (iv ((rdD p0 x7 z_Tile).E)), .v (iv ((rdD p0 x7 z_Tile).S)), .v (iv ((rdD p0 x7 z_Tile).W))] [3, 6, 7, 8, 11] [(3, (sv A4 l6 c5)), (6, (sv Aa p0 ca)), (7, (iv (p0.length : Int))), (8, (iv x7)), (11, (.agg #[(iv ((rdD p0 x7 z_Tile).N)), (iv ((rdD p0 x7 z_Tile).E)), (iv ((rdD p0 x7 z_Tile).S)), (iv ((rdD p0 x7 z_Tile).W))]))] [.idx Aa x7 p0.length, .cell ((adr Aa).add ((x7).toNat * 4)) (iv ((rdD p0 x7 z_Tile).N)), .cell (((adr Aa).add ((x7).toNat * 4)).add 1) (iv ((rdD p0 x7 z_Tile).E)), .cell (((adr Aa).add ((x7).toNat * 4)).add 2) (iv ((rdD p0 x7 z_Tile).S)), .cell (((adr Aa).add ((x7).toNat * 4)).add 3) (iv ((rdD p0 x7 z_Tile).W))] (fun fb => by kernel_rfl) rfl ⟨rowR.adr (hS14.rd 0).1 h17.1 h17.2, rowR.cell (hS14.rd 0).1 z_Tile h17.1 h17.2 0 rfl, rowR.cell (hS14.rd 0).1 z_Tile h17.1 h17.2 1 rfl, rowR.cell (hS14.rd 0).1 z_Tile h17.1 h17.2 2 rfl, rowR.cell (hS14.rd 0).1 z_Tile h17.1 h17.2 3 rfl, trivial⟩ ?_
    refine WL.new hS14 5 [] (fun g => (pt g)) (.cells #[(iv 0), (iv 0), (iv 0), (iv 0)] 23 (0, 0)) [] (fun fb g => by kernel_rfl) trivial (fun g18 w19 hS20 => ?_)
    refine ⟨trivial, ?_⟩
    refine WL.store hS20 0 rfl [(0, (iv ((rdD p0 x7 z_Tile).N))), (1, (iv ((rdD p0 x7 z_Tile).E))), (2, (iv ((rdD p0 x7 z_Tile).S))), (3, (iv ((rdD p0 x7 z_Tile).W)))] #[(iv ((rdD p0 x7 z_Tile).N)), (iv ((rdD p0 x7 z_Tile).E)), (iv ((rdD p0 x7 z_Tile).S)), (iv ((rdD p0 x7 z_Tile).W))] (fun fb => by kernel_rfl) (by kernel_rfl) rfl [1] (by decide) (by decide) (fun w21 hS22 => ?_)
    refine ⟨trivial, ?_⟩
    refine WL.done rfl (WX.next (WC.region ?_))
    refine seg 9 [.v (iv ((rdD p0 x7 z_Tile).N)), .v (iv ((rdD p0 x7 z_Tile).E)), .v (iv ((rdD p0 x7 z_Tile).S)), .v (iv ((rdD p0 x7 z_Tile).W))] [6, 7, 8, 12, 14, 16, 18, 20] [(6, (sv Aa p0 ca)), (7, (iv (p0.length : Int))), (8, (iv x7)), (12, (sv A4 l6 c5)), (14, (iv ((rdD p0 x7 z_Tile).N))), (16, (iv ((rdD p0 x7 z_Tile).E))), (18, (iv ((rdD p0 x7 z_Tile).S))), (20, (iv ((rdD p0 x7 z_Tile).W)))] [.cell ⟨g18, 0, none⟩ (iv ((rdD p0 x7 z_Tile).N)), .cell ⟨g18, 1, none⟩ (iv ((rdD p0 x7 z_Tile).E)), .cell ⟨g18, 2, none⟩ (iv ((rdD p0 x7 z_Tile).S)), .cell ⟨g18, 3, none⟩ (iv ((rdD p0 x7 z_Tile).W))] (fun fb => by kernel_rfl) rfl ⟨hS22.cell 0 rfl 0 rfl, hS22.cell 0 rfl 1 rfl, hS22.cell 0 rfl 2 rfl, hS22.cell 0 rfl 3 rfl, trivial⟩ ?_
    refine WL.new hS22 21 [] (fun g => (.slice (some ⟨g, 0, none⟩) 4 4)) (.cells #[(iv ((rdD p0 x7 z_Tile).N)), (iv ((rdD p0 x7 z_Tile).E)), (iv ((rdD p0 x7 z_Tile).S)), (iv ((rdD p0 x7 z_Tile).W))] 3 (0, 0)) [] (fun fb g => by kernel_rfl) trivial (fun g23 w24 hS25 => ?_)
    refine ⟨trivial, ?_⟩
    have hS26 := hS.go w24 [rowO 3 encInt (some ⟨g23, 0, none⟩) 4 [(rdD p0 x7 z_Tile).N, (rdD p0 x7 z_Tile).E, (rdD p0 x7 z_Tile).S, (rdD p0 x7 z_Tile).W], blk g18 (.cells #[(iv ((rdD p0 x7 z_Tile).N)), (iv ((rdD p0 x7 z_Tile).E)), (iv ((rdD p0 x7 z_Tile).S)), (iv ((rdD p0 x7 z_Tile).W))] 23 (0, 0)), rowO 3 encInt A4 c5 l6] (hS25.map1 0 _ (fun h => rowO.ofBlk h rfl (Nat.le_of_ble_eq_true (by kernel_rfl))) (fun _ h => by obtain ⟨_, h1, h2⟩ := h; injection h1 with h1; subst h1; exact h2) [1, 2] (by decide) (by decide))
    obtain ⟨h27, hl15⟩ := as_some hl15
    refine WL.append hS26 2 (d := 22) (tS := 39) (z := (iv 0)) (bytes := 8) (c2 := 4) rfl (fun fb => by kernel_rfl) (rowO.rd (hS26.own 0).1) (by kernel_rfl) (by kernel_rfl) rfl (by decide) h27 (by decide) [0, 1] (by decide) (by decide) (fun A28 c29 w30 hS31 => ?_)
    refine ⟨trivial, ?_⟩
    refine sg 12 [] [3, 6, 7, 8] [(3, (sv A28 (l6 ++ [(rdD p0 x7 z_Tile).N, (rdD p0 x7 z_Tile).E, (rdD p0 x7 z_Tile).S, (rdD p0 x7 z_Tile).W]) c29)), (6, (sv Aa p0 ca)), (7, (iv (p0.length : Int))), (8, (iv x7))] (by kernel_rfl) ?_
    refine WL.done rfl ?_
    refine WX.blockN (WX.next ?_)
    refine WC.region ?_
    refine sg 2 [] [3, 6, 7, 8] [(3, (sv A28 (l6 ++ [(rdD p0 x7 z_Tile).N, (rdD p0 x7 z_Tile).E, (rdD p0 x7 z_Tile).S, (rdD p0 x7 z_Tile).W]) c29)), (6, (sv Aa p0 ca)), (7, (iv (p0.length : Int))), (8, (iv (w64 (x7 + 1))))] (by kernel_rfl) ?_
    refine WL.done rfl ?_
    exact WX.again k12 (Nat.lt_succ_self _) ((l6 ++ [(rdD p0 x7 z_Tile).N, (rdD p0 x7 z_Tile).E, (rdD p0 x7 z_Tile).S, (rdD p0 x7 z_Tile).W], w64 (x7 + 1)), A28, c29) [3, 6, 7, 8] rfl ⟨(hS31.subR [0]).sub [0] (by decide), hl15⟩
   refine WC.condF2 (fun fb => by kernel_rfl) h16 ?_
   refine WC.exit ?_
   injection hl15 with hl15
   exact WX.thenX (WX.thenX (WX.blockHere (WX.to Kx10 (l6, A4, c5) [3] rfl ⟨(hS14.subR [0]).sub [0] (by decide), hl15.symm⟩)))
 rintro ⟨y36, A8, c9⟩ w32 ⟨hS34, hq35⟩
 subst hq35
 refine WX.next (WC.seq (WC.region ?_))
 refine sg 2 [] [2] [(2, (sv A8 x10 c9))] (by kernel_rfl) ?_
 refine WL.done rfl (WX.next ?_)
 refine WC.ret ?_
 injection hf with hf
 subst hf
 exact WX.ret_ [] (sv A8 x10 c9) [] (fun fb => by kernel_rfl) trivial ⟨_, rfl, A8, c9, rfl, (hS34.sub [0] (by decide)).noR⟩
theorem cmp_isNaN_int_calls (p0 : Int)  (r : Bool) (w : World)  (hf : cmp_isNaN_int p0 = some r) :
  CallsR Try.prog 48 #[(iv p0)] w (fun v w' => v = (bv r) ∧ Keeps NoS w w') := by
 have hS : St NoS w w [] [] := St.init (ro_nil _ _)
 refine enter 6 Try.func48 rfl Try.ntmps48 rfl ?_
 unfold cmp_isNaN_int at hf
 refine WC.seq (WC.region ?_)
 refine sg 1 [] [0] [(0, (iv p0))] (by kernel_rfl) ?_
 refine WL.done rfl (WX.next (WC.seq (WC.region ?_)))
 refine sg 4 [] [2] [(2, (bv (p0 != p0)))] (by kernel_rfl) ?_
 refine WL.done rfl (WX.next ?_)
 refine WC.ret ?_
 injection hf with hf
 subst hf
 exact WX.ret_ [] (bv (p0 != p0)) [] (fun fb => by kernel_rfl) trivial ⟨_, rfl, rfl, hS.keep⟩
theorem cmp_Compare_int_calls (p0 : Int) (p1 : Int)  (r : Int) (w : World)  (hf : cmp_Compare_int p0 p1 = some r) :
  CallsR Try.prog 42 #[(iv p0), (iv p1)] w (fun v w' => v = (iv r) ∧ Keeps NoS w w') := by
 have hS : St NoS w w [] [] := St.init (ro_nil _ _)
 refine enter 20 Try.func42 rfl Try.ntmps42 rfl ?_
 unfold cmp_Compare_int at hf
 refine WC.seq (WC.region ?_)
 refine sg 1 [] [0, 1] [(0, (iv p0)), (1, (iv p1))] (by kernel_rfl) ?_
 refine WL.done rfl (WX.next (WC.seq (WC.region ?_)))
 refine sg 1 [] [0, 1, 7] [(0, (iv p0)), (1, (iv p1)), (7, (iv p0))] (by kernel_rfl) ?_
 obtain ⟨t3, ht4, hf⟩ := bind_some hf
 refine WL.call (some 8) 48 #[(iv p0)] (fun fb => by kernel_rfl) (cmp_isNaN_int_calls p0 t3 _ ht4) (fun v w5 hR6 => ?_)
 obtain ⟨rfl, hk_⟩ := hR6
 have hS7 := hS.keepN hk_
 refine ⟨trivial, ?_⟩
 refine sg 3 [] [0, 1, 5] [(0, (iv p0)), (1, (iv p1)), (5, (bv t3))] (by kernel_rfl) ?_
 refine WL.done rfl (WX.next (WC.seq (WC.region ?_)))
 refine sg 1 [] [0, 1, 5, 9] [(0, (iv p0)), (1, (iv p1)), (5, (bv t3)), (9, (iv p1))] (by kernel_rfl) ?_
 obtain ⟨t8, ht9, hf⟩ := bind_some hf
 refine WL.call (some 10) 48 #[(iv p1)] (fun fb => by kernel_rfl) (cmp_isNaN_int_calls p1 t8 _ ht9) (fun v w10 hR11 => ?_)
 obtain ⟨rfl, hk_⟩ := hR11
 have hS12 := hS7.keepN hk_
 refine ⟨trivial, ?_⟩
 refine sg 3 [] [0, 1, 5, 6] [(0, (iv p0)), (1, (iv p1)), (5, (bv t3)), (6, (bv t8))] (by kernel_rfl) ?_
 refine WL.done rfl (WX.next (WC.seq (WC.seq (WC.region ?_))))
 refine sg 1 [] [0, 1, 6, 11] [(0, (iv p0)), (1, (iv p1)), (6, (bv t8)), (11, (bv t3))] (by kernel_rfl) ?_
 refine WL.done rfl (WX.next ?_)
 rcases br_some hf with ⟨h13, hf⟩ | ⟨h13, hf⟩
 ·refine WC.condT2 (fun fb => by kernel_rfl) h13 ?_
  refine WC.seq (WC.seq (WC.region ?_))
  refine sg 1 [] [12] [(12, (bv t8))] (by kernel_rfl) ?_
  refine WL.done rfl (WX.next ?_)
  rcases br_some hf with ⟨h14, hf⟩ | ⟨h14, hf⟩
  ·refine WC.condT2 (fun fb => by kernel_rfl) h14 ?_
   refine WC.seq (WC.region ?_)
   refine sg 1 [] [4] [(4, (iv 0))] (by kernel_rfl) ?_
   refine WL.done rfl (WX.next ?_)
   refine WC.ret ?_
   injection hf with hf
   subst hf
   exact WX.thenR (WX.thenR (WX.ret_ [] (iv 0) [] (fun fb => by kernel_rfl) trivial ⟨_, rfl, rfl, hS12.keep⟩))
  refine WC.condF2 (fun fb => by kernel_rfl) h14 ?_
  refine WC.skip (WX.next (WC.seq (WC.region ?_)))
  refine sg 1 [] [4] [(4, (iv (-1)))] (by kernel_rfl) ?_
  refine WL.done rfl (WX.next ?_)
  refine WC.ret ?_
  injection hf with hf
  subst hf
  exact WX.thenR (WX.ret_ [] (iv (-1)) [] (fun fb => by kernel_rfl) trivial ⟨_, rfl, rfl, hS12.keep⟩)
 refine WC.condF2 (fun fb => by kernel_rfl) h13 ?_
 refine WC.skip (WX.next (WC.seq (WC.seq (WC.region ?_))))
 refine sg 1 [] [0, 1, 13] [(0, (iv p0)), (1, (iv p1)), (13, (bv t8))] (by kernel_rfl) ?_
 refine WL.done rfl (WX.next ?_)
 rcases br_some hf with ⟨h15, hf⟩ | ⟨h15, hf⟩
 ·refine WC.condT2 (fun fb => by kernel_rfl) h15 ?_
  refine WC.seq (WC.region ?_)
  refine sg 1 [] [4] [(4, (iv 1))] (by kernel_rfl) ?_
  refine WL.done rfl (WX.next ?_)
  refine WC.ret ?_
  injection hf with hf
  subst hf
  exact WX.thenR (WX.ret_ [] (iv 1) [] (fun fb => by kernel_rfl) trivial ⟨_, rfl, rfl, hS12.keep⟩)
 refine WC.condF2 (fun fb => by kernel_rfl) h15 ?_
 refine WC.skip (WX.next (WC.seq (WC.seq (WC.region ?_))))
 refine sg 3 [] [0, 1, 16] [(0, (iv p0)), (1, (iv p1)), (16, (bv (decide (p0 < p1))))] (by kernel_rfl) ?_
 refine WL.done rfl (WX.next ?_)
 rcases br_some hf with ⟨h16, hf⟩ | ⟨h16, hf⟩
 ·refine WC.condT2 (fun fb => by kernel_rfl) h16 ?_
  refine WC.seq (WC.region ?_)
  refine sg 1 [] [4] [(4, (iv (-1)))] (by kernel_rfl) ?_
  refine WL.done rfl (WX.next ?_)
  refine WC.ret ?_
  injection hf with hf
  subst hf
  exact WX.thenR (WX.ret_ [] (iv (-1)) [] (fun fb => by kernel_rfl) trivial ⟨_, rfl, rfl, hS12.keep⟩)
 refine WC.condF2 (fun fb => by kernel_rfl) h16 ?_
 refine WC.skip (WX.next (WC.seq (WC.seq (WC.region ?_))))
 refine sg 3 [] [19] [(19, (bv (decide (p0 > p1))))] (by kernel_rfl) ?_
 refine WL.done rfl (WX.next ?_)
 rcases br_some hf with ⟨h17, hf⟩ | ⟨h17, hf⟩
 ·refine WC.condT2 (fun fb => by kernel_rfl) h17 ?_
  refine WC.seq (WC.region ?_)
  refine sg 1 [] [4] [(4, (iv 1))] (by kernel_rfl) ?_
  refine WL.done rfl (WX.next ?_)
  refine WC.ret ?_
  injection hf with hf
  subst hf
  exact WX.thenR (WX.ret_ [] (iv 1) [] (fun fb => by kernel_rfl) trivial ⟨_, rfl, rfl, hS12.keep⟩)
 refine WC.condF2 (fun fb => by kernel_rfl) h17 ?_
 refine WC.skip (WX.next (WC.seq (WC.region ?_)))
 refine sg 1 [] [4] [(4, (iv 0))] (by kernel_rfl) ?_
 refine WL.done rfl (WX.next ?_)
 refine WC.ret ?_
 injection hf with hf
 subst hf
 exact WX.ret_ [] (iv 0) [] (fun fb => by kernel_rfl) trivial ⟨_, rfl, rfl, hS12.keep⟩
theorem slices_Compare_int_int_calls (k : Nat) (p0 : List Int) (p1 : List Int) (Aa : Option Addr) (ca : Nat) (Ab : Option Addr) (cb : Nat) (r : Int) (w : World) (hR0 : RO NoS w (rowR encInt Aa ca p0)) (hR1 : RO NoS w (rowR encInt Ab cb p1)) (hf : slices_Compare_int_int k p0 p1 = some r) :
  CallsR Try.prog 32 #[(sv Aa p0 ca), (sv Ab p1 cb)] w (fun v w' => v = (iv r) ∧ Keeps NoS w w') := by
 have hS : St NoS w w [rowR encInt Aa ca p0, rowR encInt Ab cb p1] [] := St.init (ro_cons hR0 (ro_cons hR1 (ro_nil _ _)))
 refine enter 36 Try.func32 rfl Try.ntmps32 rfl ?_
 unfold slices_Compare_int_int at hf
 refine WC.seq (WC.region ?_)
 refine sg 1 [] [0, 1] [(0, (sv Aa p0 ca)), (1, (sv Ab p1 cb))] (by kernel_rfl) ?_
 refine WL.done rfl (WX.next (WC.seq (WC.seq (WC.region ?_))))
 refine sg 3 [] [0, 1, 9, 10, 11] [(0, (sv Aa p0 ca)), (1, (sv Ab p1 cb)), (9, (sv Aa p0 ca)), (10, (iv (p0.length : Int))), (11, (iv 0))] (by kernel_rfl) ?_
 refine WL.done rfl (WX.next ?_)
 obtain ⟨x4, hx5, hf⟩ := bind_some hf
 refine WC.cutN (T := Unit) (fun t => [(0, (sv Aa p0 ca)), (1, (sv Ab p1 cb))]) (fun t w1 => St NoS w w1 [rowR encInt Aa ca p0, rowR encInt Ab cb p1] [] ∧ x4 = .inr t) (fun Kx4 => ?_) ?_
 ·
  refine WC.block ?_
  refine WC.loop (T := Int) (fun t => [(0, (sv Aa p0 ca)), (1, (sv Ab p1 cb)), (9, (sv Aa p0 ca)), (10, (iv (p0.length : Int))), (11, (iv t))]) (fun n t w1 => St NoS w w1 [rowR encInt Aa ca p0, rowR encInt Ab cb p1] [] ∧ slices_Compare_int_int.l0 n t p0 p1 = some x4) k 0 [0, 1, 9, 10, 11] rfl ⟨(hS.subR [0, 1]).sub [] (by decide), hx5⟩ ?_
  rintro k6 x3 w7 ⟨hS8, hl9⟩
  cases k6 with
  | zero => rw [slices_Compare_int_int.l0] at hl9; cases hl9
  | succ k6 =>
   rw [slices_Compare_int_int.l0] at hl9
   refine WC.seq (WC.region ?_)
   refine sg 1 [] [0, 1, 9, 10, 11, 12] [(0, (sv Aa p0 ca)), (1, (sv Ab p1 cb)), (9, (sv Aa p0 ca)), (10, (iv (p0.length : Int))), (11, (iv x3)), (12, (bv (decide (x3 < (p0.length : Int)))))] (by kernel_rfl) ?_
   refine WL.done rfl (WX.next (WC.seq ?_))
   rcases br_some hl9 with ⟨h10, hl9⟩ | ⟨h10, hl9⟩
   ·refine WC.condT2 (fun fb => by kernel_rfl) h10 ?_
    refine WC.skip (WX.next (WC.seq (WC.block (WC.seq (WC.region ?_)))))
    refine sg 1 [] [0, 1, 9, 10, 11, 13] [(0, (sv Aa p0 ca)), (1, (sv Ab p1 cb)), (9, (sv Aa p0 ca)), (10, (iv (p0.length : Int))), (11, (iv x3)), (13, (iv x3))] (by kernel_rfl) ?_
    obtain ⟨h11, hl9⟩ := as_some hl9
    refine seg 5 [.v (iv (rdD p0 x3 0))] [0, 1, 5, 6, 9, 10, 11] [(0, (sv Aa p0 ca)), (1, (sv Ab p1 cb)), (5, (iv x3)), (6, (iv (rdD p0 x3 0))), (9, (sv Aa p0 ca)), (10, (iv (p0.length : Int))), (11, (iv x3))] [.idx Aa x3 p0.length, .cell ((adr Aa).add ((x3).toNat * 1)) (iv (rdD p0 x3 0))] (fun fb => by kernel_rfl) rfl ⟨rowR.adr (hS8.rd 0).1 h11.1 h11.2, rowR.cell (hS8.rd 0).1 0 h11.1 h11.2 0 rfl, trivial⟩ ?_
    refine WL.done rfl (WX.next (WC.seq (WC.seq (WC.region ?_))))
    refine sg 4 [] [0, 1, 5, 6, 9, 10, 11, 19] [(0, (sv Aa p0 ca)), (1, (sv Ab p1 cb)), (5, (iv x3)), (6, (iv (rdD p0 x3 0))), (9, (sv Aa p0 ca)), (10, (iv (p0.length : Int))), (11, (iv x3)), (19, (bv (decide (x3 ≥ (p1.length : Int)))))] (by kernel_rfl) ?_
    refine WL.done rfl (WX.next ?_)
    rcases br_some hl9 with ⟨h12, hl9⟩ | ⟨h12, hl9⟩
    ·refine WC.condT2 (fun fb => by kernel_rfl) h12 ?_
     refine WC.seq (WC.region ?_)
     refine sg 1 [] [4] [(4, (iv 1))] (by kernel_rfl) ?_
     refine WL.done rfl (WX.next ?_)
     refine WC.ret ?_
     injection hl9 with hl9
     subst hl9
     injection hf with hf
     subst hf
     exact WX.thenR (WX.blockR (WX.thenR (WX.thenR (WX.blockR (WX.thenR (WX.ret_ [] (iv 1) [] (fun fb => by kernel_rfl) trivial ⟨_, rfl, rfl, hS8.keep⟩))))))
    refine WC.condF2 (fun fb => by kernel_rfl) h12 ?_
    refine WC.skip (WX.next (WC.seq (WC.region ?_)))
    refine sg 2 [] [0, 1, 6, 9, 10, 11, 20, 21] [(0, (sv Aa p0 ca)), (1, (sv Ab p1 cb)), (6, (iv (rdD p0 x3 0))), (9, (sv Aa p0 ca)), (10, (iv (p0.length : Int))), (11, (iv x3)), (20, (sv Ab p1 cb)), (21, (iv x3))] (by kernel_rfl) ?_
    obtain ⟨h13, hl9⟩ := as_some hl9
    refine seg 5 [.v (iv (rdD p1 x3 0))] [0, 1, 6, 7, 9, 10, 11] [(0, (sv Aa p0 ca)), (1, (sv Ab p1 cb)), (6, (iv (rdD p0 x3 0))), (7, (iv (rdD p1 x3 0))), (9, (sv Aa p0 ca)), (10, (iv (p0.length : Int))), (11, (iv x3))] [.idx Ab x3 p1.length, .cell ((adr Ab).add ((x3).toNat * 1)) (iv (rdD p1 x3 0))] (fun fb => by kernel_rfl) rfl ⟨rowR.adr (hS8.rd 1).1 h13.1 h13.2, rowR.cell (hS8.rd 1).1 0 h13.1 h13.2 0 rfl, trivial⟩ ?_
    refine WL.done rfl (WX.next (WC.seq (WC.region ?_)))
    refine sg 2 [] [0, 1, 9, 10, 11, 24, 25] [(0, (sv Aa p0 ca)), (1, (sv Ab p1 cb)), (9, (sv Aa p0 ca)), (10, (iv (p0.length : Int))), (11, (iv x3)), (24, (iv (rdD p0 x3 0))), (25, (iv (rdD p1 x3 0)))] (by kernel_rfl) ?_
    obtain ⟨t14, ht15, hl9⟩ := bind_some hl9
    refine WL.call (some 26) 42 #[(iv (rdD p0 x3 0)), (iv (rdD p1 x3 0))] (fun fb => by kernel_rfl) (cmp_Compare_int_calls (rdD p0 x3 0) (rdD p1 x3 0) t14 _ ht15) (fun v w16 hR17 => ?_)
    obtain ⟨rfl, hk_⟩ := hR17
    have hS18 := hS8.keepN hk_
    refine ⟨trivial, ?_⟩
    refine sg 4 [] [0, 1, 8, 9, 10, 11] [(0, (sv Aa p0 ca)), (1, (sv Ab p1 cb)), (8, (iv t14)), (9, (sv Aa p0 ca)), (10, (iv (p0.length : Int))), (11, (iv x3))] (by kernel_rfl) ?_
    refine WL.done rfl (WX.next (WC.seq (WC.region ?_)))
    refine sg 2 [] [0, 1, 8, 9, 10, 11, 28] [(0, (sv Aa p0 ca)), (1, (sv Ab p1 cb)), (8, (iv t14)), (9, (sv Aa p0 ca)), (10, (iv (p0.length : Int))), (11, (iv x3)), (28, (bv (t14 != 0)))] (by kernel_rfl) ?_
    refine WL.done rfl (WX.next ?_)
    rcases br_some hl9 with ⟨h19, hl9⟩ | ⟨h19, hl9⟩
    ·refine WC.condT2 (fun fb => by kernel_rfl) h19 ?_
     refine WC.seq (WC.region ?_)
     refine sg 2 [] [4] [(4, (iv t14))] (by kernel_rfl) ?_
     refine WL.done rfl (WX.next ?_)
     refine WC.ret ?_
     injection hl9 with hl9
     subst hl9
     injection hf with hf
     subst hf
     exact WX.blockR (WX.thenR (WX.thenR (WX.blockR (WX.thenR (WX.ret_ [] (iv t14) [] (fun fb => by kernel_rfl) trivial ⟨_, rfl, rfl, hS18.keep⟩)))))
    refine WC.condF2 (fun fb => by kernel_rfl) h19 ?_
    refine WC.skip ?_
    refine WX.blockN (WX.next ?_)
    refine WC.region ?_
    refine sg 2 [] [0, 1, 9, 10, 11] [(0, (sv Aa p0 ca)), (1, (sv Ab p1 cb)), (9, (sv Aa p0 ca)), (10, (iv (p0.length : Int))), (11, (iv (w64 (x3 + 1))))] (by kernel_rfl) ?_
    refine WL.done rfl ?_
    exact WX.again k6 (Nat.lt_succ_self _) (w64 (x3 + 1)) [0, 1, 9, 10, 11] rfl ⟨(hS18.subR [0, 1]).sub [] (by decide), hl9⟩
   refine WC.condF2 (fun fb => by kernel_rfl) h10 ?_
   refine WC.exit ?_
   injection hl9 with hl9
   exact WX.thenX (WX.thenX (WX.blockHere (WX.to Kx4 () [0, 1] rfl ⟨(hS8.subR [0, 1]).sub [] (by decide), hl9.symm⟩)))
 rintro y23 w20 ⟨hS21, hq22⟩
 subst hq22
 have hf := sum_inr hf
 refine WX.next (WC.seq (WC.seq (WC.region ?_)))
 refine sg 5 [] [35] [(35, (bv (decide ((p0.length : Int) < (p1.length : Int)))))] (by kernel_rfl) ?_
 refine WL.done rfl (WX.next ?_)
 rcases br_some hf with ⟨h24, hf⟩ | ⟨h24, hf⟩
 ·refine WC.condT2 (fun fb => by kernel_rfl) h24 ?_
  refine WC.seq (WC.region ?_)
  refine sg 1 [] [4] [(4, (iv (-1)))] (by kernel_rfl) ?_
  refine WL.done rfl (WX.next ?_)
  refine WC.ret ?_
  injection hf with hf
  subst hf
  exact WX.thenR (WX.ret_ [] (iv (-1)) [] (fun fb => by kernel_rfl) trivial ⟨_, rfl, rfl, hS21.keep⟩)
 refine WC.condF2 (fun fb => by kernel_rfl) h24 ?_
 refine WC.skip (WX.next (WC.seq (WC.region ?_)))
 refine sg 1 [] [4] [(4, (iv 0))] (by kernel_rfl) ?_
 refine WL.done rfl (WX.next ?_)
 refine WC.ret ?_
 injection hf with hf
 subst hf
 exact WX.ret_ [] (iv 0) [] (fun fb => by kernel_rfl) trivial ⟨_, rfl, rfl, hS21.keep⟩
theorem census_before_calls (k : Nat) (p0 : List Tile) (p1 : List Tile) (Aa : Option Addr) (ca : Nat) (Ab : Option Addr) (cb : Nat) (r : Int) (w : World) (hR0 : RO NoS w (rowR enc_Tile Aa ca p0)) (hR1 : RO NoS w (rowR enc_Tile Ab cb p1)) (hf : census_before k p0 p1 = some r) :
  CallsR Try.prog 18 #[(sv Aa p0 ca), (sv Ab p1 cb)] w (fun v w' => v = (iv r) ∧ Keeps NoS w w') := by
 have hS : St NoS w w [rowR enc_Tile Aa ca p0, rowR enc_Tile Ab cb p1] [] := St.init (ro_cons hR0 (ro_cons hR1 (ro_nil _ _)))
 refine enter 10 Try.func18 rfl Try.ntmps18 rfl ?_
 unfold census_before at hf
 refine WC.seq (WC.region ?_)
 refine sg 1 [] [0, 1] [(0, (sv Aa p0 ca)), (1, (sv Ab p1 cb))] (by kernel_rfl) ?_
 refine WL.done rfl (WX.next (WC.seq (WC.region ?_)))
 refine sg 1 [] [1, 5] [(1, (sv Ab p1 cb)), (5, (sv Aa p0 ca))] (by kernel_rfl) ?_
 obtain ⟨t2, ht3, hf⟩ := bind_some hf
 refine WL.call (some 6) 33 #[(sv Aa p0 ca)] (fun fb => by kernel_rfl) (census_numbers_calls _ p0 Aa ca t2 _ (hS.rd 0) ht3) (fun v w4 hR5 => ?_)
 obtain ⟨A7, c8, rfl, hk_⟩ := hR5
 have hS6 := hS.go w4 [rowO 3 encInt A7 c8 t2] (hS.call hk_ [] [] (fun g hg => hg.elim) (by simp) (by decide))
 refine ⟨trivial, ?_⟩
 refine sg 3 [] [6, 7] [(6, (sv A7 t2 c8)), (7, (sv Ab p1 cb))] (by kernel_rfl) ?_
 obtain ⟨t9, ht10, hf⟩ := bind_some hf
 refine WL.call (some 8) 33 #[(sv Ab p1 cb)] (fun fb => by kernel_rfl) (census_numbers_calls _ p1 Ab cb t9 _ (hS6.rd 1) ht10) (fun v w11 hR12 => ?_)
 obtain ⟨A14, c15, rfl, hk_⟩ := hR12
 have hS13 := hS6.go w11 [rowO 3 encInt A14 c15 t9, rowO 3 encInt A7 c8 t2] (hS6.call hk_ [] [0] (fun g hg => hg.elim) (by simp) (by decide))
 refine ⟨trivial, ?_⟩
 obtain ⟨t16, ht17, hf⟩ := bind_some hf
 refine WL.call (some 9) 32 #[(sv A7 t2 c8), (sv A14 t9 c15)] (fun fb => by kernel_rfl) (slices_Compare_int_int_calls _ t2 t9 A7 c8 A14 c15 t16 _ (hS13.ow 1).ofO (hS13.ow 0).ofO ht17) (fun v w19 hR20 => ?_)
 obtain ⟨rfl, hk_⟩ := hR20
 have hS21 := hS13.keepN hk_
 refine ⟨trivial, ?_⟩
 refine sg 6 [] [4] [(4, (iv t16))] (by kernel_rfl) ?_
 refine WL.done rfl (WX.next ?_)
 refine WC.ret ?_
 injection hf with hf
 subst hf
 exact WX.ret_ [] (iv t16) [] (fun fb => by kernel_rfl) trivial ⟨_, rfl, rfl, hS21.keep⟩
theorem slices_Clone_api_Tile_api_Tile_nil_calls (p0 : List Tile) (ca : Nat) (r : (List Tile)) (w : World) (hR0 : RO NoS w (rowR enc_Tile none ca ([] : List Tile))) (hf : slices_Clone_api_Tile_api_Tile_nil p0 = some r) :
  CallsR Try.prog 29 #[(sv none ([] : List Tile) ca)] w (fun v w' => ∃ (A1_ : Option Addr), ∃ (c1_ : Nat), v = (sv A1_ r c1_) ∧ St NoS w w' [] [rowO 23 enc_Tile A1_ c1_ r]) := by
 have hS : St NoS w w [rowR enc_Tile none ca ([] : List Tile)] [] := St.init (ro_cons hR0 (ro_nil _ _))
 refine enter 8 Try.func29 rfl Try.ntmps29 rfl ?_
 unfold slices_Clone_api_Tile_api_Tile_nil at hf
 refine WC.seq (WC.region ?_)
 refine sg 1 [] [0] [(0, (sv none ([] : List Tile) ca))] (by kernel_rfl) ?_
 refine WL.done rfl (WX.next (WC.seq (WC.seq (WC.region ?_))))
 refine sg 2 [] [0, 4] [(0, (sv none ([] : List Tile) ca)), (4, (bv true))] (by kernel_rfl) ?_
 refine WL.done rfl (WX.next ?_)
 refine WC.condT (fun fb => by kernel_rfl) ?_
 refine WC.seq (WC.region ?_)
 refine sg 1 [] [2] [(2, (.slice none 0 0))] (by kernel_rfl) ?_
 refine WL.done rfl (WX.next ?_)
 refine WC.ret ?_
 have hS2 := hS.nilrow 23 enc_Tile
 injection hf with hf
 subst hf
 exact WX.thenR (WX.ret_ [] (sv none ([] : List Tile) 0) [] (fun fb => by kernel_rfl) trivial ⟨_, rfl, none, 0, rfl, (hS2.sub [0] (by decide)).noR⟩)
theorem slices_Clone_api_Tile_api_Tile_some_calls (p0 : List Tile) (aa : Addr) (ca : Nat) (r : (List Tile)) (w : World) (hR0 : RO NoS w (rowR enc_Tile (some aa) ca p0)) (hf : slices_Clone_api_Tile_api_Tile_some p0 = some r) :
  CallsR Try.prog 29 #[(sv (some aa) p0 ca)] w (fun v w' => ∃ (A1_ : Option Addr), ∃ (c1_ : Nat), v = (sv A1_ r c1_) ∧ St NoS w w' [] [rowO 23 enc_Tile A1_ c1_ r]) := by
 have hS : St NoS w w [rowR enc_Tile (some aa) ca p0] [] := St.init (ro_cons hR0 (ro_nil _ _))
 refine enter 8 Try.func29 rfl Try.ntmps29 rfl ?_
 unfold slices_Clone_api_Tile_api_Tile_some at hf
 refine WC.seq (WC.region ?_)
 refine sg 1 [] [0] [(0, (sv (some aa) p0 ca))] (by kernel_rfl) ?_
 refine WL.done rfl (WX.next (WC.seq (WC.seq (WC.region ?_))))
 refine sg 2 [] [0, 4] [(0, (sv (some aa) p0 ca)), (4, (bv false))] (by kernel_rfl) ?_
 refine WL.done rfl (WX.next ?_)
 refine WC.condF (fun fb => by kernel_rfl) ?_
 refine WC.skip (WX.next (WC.seq (WC.region ?_)))
 refine WL.new hS 5 [] (fun g => (.slice (some ⟨g, 0, none⟩) 0 0)) (.cells #[] 23 (0, 0)) [] (fun fb g => by kernel_rfl) trivial (fun g3 w4 hS5 => ?_)
 refine ⟨trivial, ?_⟩
 have hS6 := hS.go w4 [rowO 23 enc_Tile (some ⟨g3, 0, none⟩) 0 ([] : List Tile)] (hS5.map1 0 _ (fun h => rowO.ofBlk h rfl (Nat.le_of_ble_eq_true (by kernel_rfl))) (fun _ h => by obtain ⟨_, h1, h2⟩ := h; injection h1 with h1; subst h1; exact h2) [] (by decide) (by decide))
 refine sg 2 [] [5, 6] [(5, (sv (some ⟨g3, 0, none⟩) ([] : List Tile) 0)), (6, (sv (some aa) p0 ca))] (by kernel_rfl) ?_
 obtain ⟨h7, hf⟩ := as_some hf
 refine WL.append hS6 0 (d := 7) (tS := 26) (z := (.agg #[(iv 0), (iv 0), (iv 0), (iv 0)])) (bytes := 32) (c2 := ca) rfl (fun fb => by kernel_rfl) (hS6.rd 0).1 (by kernel_rfl) (by kernel_rfl) rfl (by decide) h7 (by decide) [] (by decide) (by decide) (fun A8 c9 w10 hS11 => ?_)
 refine ⟨trivial, ?_⟩
 refine sg 4 [] [2] [(2, (sv A8 (([] : List Tile) ++ p0) c9))] (by kernel_rfl) ?_
 refine WL.done rfl (WX.next ?_)
 refine WC.ret ?_
 injection hf with hf
 subst hf
 exact WX.ret_ [] (sv A8 (([] : List Tile) ++ p0) c9) [] (fun fb => by kernel_rfl) trivial ⟨_, rfl, A8, c9, rfl, (hS11.sub [0] (by decide)).noR⟩
theorem slices_Clone_api_Tile_api_Tile_calls (p0 : List Tile) (Aa : Option Addr) (ca : Nat) (r : List Tile) (w : World) (hR0 : RO NoS w (rowR enc_Tile Aa ca p0)) (hf : slices_Clone_api_Tile_api_Tile p0 = some r) :
  CallsR Try.prog 29 #[(sv Aa p0 ca)] w (fun v w' => ∃ (A1_ : Option Addr), ∃ (c1_ : Nat), v = (sv A1_ r c1_) ∧ St NoS w w' [] [rowO 23 enc_Tile A1_ c1_ r]) := by
 unfold slices_Clone_api_Tile_api_Tile at hf
 cases Aa with
 | none =>
  have h3 : p0 = [] := by
   cases p0 with
   | nil => rfl
   | cons x xs => exact absurd (hR0.1.1 0 x rfl).1 (by simp)
  subst h3
  rw [slices_Clone_api_Tile_api_Tile_some] at hf
  obtain ⟨h4, hf⟩ := as_some hf
  injection hf with hf; subst hf
  exact slices_Clone_api_Tile_api_Tile_nil_calls [] ca [] w hR0 rfl
 | some a => exact slices_Clone_api_Tile_api_Tile_some_calls p0 a ca r w hR0 hf
theorem census_orders_1_1_y_calls {σ τ : Type} : ∀ (k : Nat) (p0 : Int) (f0 : List Tile) (yf : (List Tile) → σ → Option (σ × Bool)) (sY : σ) (ga : Nat) (Aa : Option Addr) (ca : Nat) (gb : Nat) (gc : Nat) (yl : Nat) (Y : σ → τ → Own) (tY : τ) (Rd : Own) (r : Bool × (List Tile) × σ) (w : World) (hR0 : RO (fpL [blk ga (.cells #[(sv Aa f0 ca)] 26 (0, 0)), rowO 23 enc_Tile Aa ca f0, Y sY tY]) w (Rd)) (hR1 : RO (fpL [blk ga (.cells #[(sv Aa f0 ca)] 26 (0, 0)), rowO 23 enc_Tile Aa ca f0, Y sY tY]) w (blk gb (.cells #[(.func (.yield yl) #[] #[])] 37 (0, 0)))) (hR2 : RO (fpL [blk ga (.cells #[(sv Aa f0 ca)] 26 (0, 0)), rowO 23 enc_Tile Aa ca f0, Y sY tY]) w (blk gc (.cells #[(.func (.func 30) #[] #[(pt ga), (pt gb), (pt gc)])] 61 (0, 0)))) (hI : IoOK w [blk ga (.cells #[(sv Aa f0 ca)] 26 (0, 0)), rowO 23 enc_Tile Aa ca f0, Y sY tY]) (hY : ∀ (x0_ : List Tile) (A0_ : Option Addr) (c0_ : Nat) (s_ : σ) (t_ : τ) (r_ : σ × Bool) (w_ : World), RO (fpL [Y s_ t_]) w_ (rowR enc_Tile A0_ c0_ x0_) → RO (fpL [Y s_ t_]) w_ Rd → IoOK w_ [Y s_ t_] → yf x0_ s_ = some r_ → YieldR Try.prog (.func (.yield yl) #[] #[]) #[(sv A0_ x0_ c0_)] w_ (fun v_ w' => ∃ t1_, v_ = .bool r_.2 ∧ St (fpL [Y s_ t_]) w_ w' [] [Y r_.1 t1_])) (hf : census_orders_1_1_y k p0 f0 yf sY = some r),
  CallsR Try.prog 30 #[(iv p0), (pt ga), (pt gb), (pt gc)] w (fun v w' => ∃ (A1_ : Option Addr), ∃ (c1_ : Nat), ∃ (t1_ : τ), v = (bv r.1) ∧ St (fpL [blk ga (.cells #[(sv Aa f0 ca)] 26 (0, 0)), rowO 23 enc_Tile Aa ca f0, Y sY tY]) w w' [] [blk ga (.cells #[(sv A1_ r.2.1 c1_)] 26 (0, 0)), rowO 23 enc_Tile A1_ c1_ r.2.1, Y r.2.2 t1_]) := by
 intro k
 induction k with
 | zero => intro p0 f0 yf sY ga Aa ca gb gc yl Y tY Rd r w hR0 hR1 hR2 hI hY hf; rw [census_orders_1_1_y] at hf; cases hf
 | succ k ih_ =>
 intro p0 f0 yf sY ga Aa ca gb gc yl Y tY Rd r w hR0 hR1 hR2 hI hY hf
 have hS : St (fpL [blk ga (.cells #[(sv Aa f0 ca)] 26 (0, 0)), rowO 23 enc_Tile Aa ca f0, Y sY tY]) w w [Rd, blk gb (.cells #[(.func (.yield yl) #[] #[])] 37 (0, 0)), blk gc (.cells #[(.func (.func 30) #[] #[(pt ga), (pt gb), (pt gc)])] 61 (0, 0))] [blk ga (.cells #[(sv Aa f0 ca)] 26 (0, 0)), rowO 23 enc_Tile Aa ca f0, Y sY tY] := St.initIO (ro_cons hR0 (ro_cons hR1 (ro_cons hR2 (ro_nil _ _)))) hI
 rw [census_orders_1_1_y] at hf
 generalize census_orders_1_1_y k = rc_ at hf ih_
 refine enter 56 Try.func30 rfl Try.ntmps30 rfl ?_
 refine WC.seq (WC.region ?_)
 refine sg 1 [] [0, 1, 2, 3] [(0, (iv p0)), (1, (pt ga)), (2, (pt gb)), (3, (pt gc))] (by kernel_rfl) ?_
 refine WL.done rfl (WX.next (WC.seq (WC.seq (WC.region ?_))))
 refine seg 4 [.v (sv Aa f0 ca)] [0, 1, 2, 3, 11] [(0, (iv p0)), (1, (pt ga)), (2, (pt gb)), (3, (pt gc)), (11, (bv (p0 == (f0.length : Int))))] [.cell ⟨ga, 0, none⟩ (sv Aa f0 ca)] (fun fb => by kernel_rfl) rfl ⟨hS.cell 0 rfl 0 rfl, trivial⟩ ?_
 refine WL.done rfl (WX.next ?_)
 rcases br_some hf with ⟨h3, hf⟩ | ⟨h3, hf⟩
 ·refine WC.condT2 (fun fb => by kernel_rfl) h3 ?_
  refine WC.seq (WC.region ?_)
  refine seg 2 [.v (.func (.yield yl) #[] #[]), .v (sv Aa f0 ca)] [1, 12, 13] [(1, (pt ga)), (12, (.func (.yield yl) #[] #[])), (13, (sv Aa f0 ca))] [.cell ⟨gb, 0, none⟩ (.func (.yield yl) #[] #[]), .cell ⟨ga, 0, none⟩ (sv Aa f0 ca)] (fun fb => by kernel_rfl) rfl ⟨blk_cell (hS.rd 1).1 0 rfl, hS.cell 0 rfl 0 rfl, trivial⟩ ?_
  obtain ⟨t4, ht5, hf⟩ := bind_some hf
  refine WL.yield (some 14) (.func (.yield yl) #[] #[]) #[(sv Aa f0 ca)] (fun fb => by kernel_rfl) (hY f0 Aa ca sY tY t4 _ (hS.owT [2] 1 (by decide)).ofO (hS.rdT [2] 0) (hS.io [2] (by decide)) ht5) (fun v w6 hR7 => ?_)
  obtain ⟨tt9, rfl, hk_⟩ := hR7
  have hS8 := hS.go w6 [Y t4.1 tt9, blk ga (.cells #[(sv Aa f0 ca)] 26 (0, 0)), rowO 23 enc_Tile Aa ca f0] (hS.call hk_ [2] [0, 1] (fun g hg => fpL_sel g hg) (by decide) (by decide))
  refine ⟨trivial, ?_⟩
  refine sg 4 [] [1, 5] [(1, (pt ga)), (5, (bv t4.2))] (by kernel_rfl) ?_
  refine WL.done rfl (WX.next ?_)
  refine WC.ret ?_
  injection hf with hf
  subst hf
  exact WX.thenR (WX.ret_ [] (bv t4.2) [] (fun fb => by kernel_rfl) trivial ⟨_, rfl, Aa, ca, tt9, rfl, (hS8.sub [1, 2, 0] (by decide)).noR⟩)
 refine WC.condF2 (fun fb => by kernel_rfl) h3 ?_
 refine WC.skip (WX.next (WC.seq (WC.seq (WC.region ?_))))
 refine sg 2 [] [0, 1, 3, 6] [(0, (iv p0)), (1, (pt ga)), (3, (pt gc)), (6, (iv p0))] (by kernel_rfl) ?_
 refine WL.done rfl (WX.next ?_)
 obtain ⟨x19, hx20, hf⟩ := bind_some hf
 refine WC.cutN (T := ((List Tile) × σ) × (Option Addr) × Nat × τ) (fun t => [(1, (pt ga))]) (fun t w1 => St (fpL [blk ga (.cells #[(sv Aa f0 ca)] 26 (0, 0)), rowO 23 enc_Tile Aa ca f0, Y sY tY]) w w1 [Rd, blk gb (.cells #[(.func (.yield yl) #[] #[])] 37 (0, 0)), blk gc (.cells #[(.func (.func 30) #[] #[(pt ga), (pt gb), (pt gc)])] 61 (0, 0))] [blk ga (.cells #[(sv t.2.1 t.1.1 t.2.2.1)] 26 (0, 0)), rowO 23 enc_Tile t.2.1 t.2.2.1 t.1.1, Y t.1.2 t.2.2.2] ∧ x19 = .inr t.1) (fun Kx19 => ?_) ?_
 ·
  refine WC.block ?_
  refine WC.loop (T := ((List Tile) × Int × σ) × (Option Addr) × Nat × τ) (fun t => [(0, (iv p0)), (1, (pt ga)), (3, (pt gc)), (6, (iv t.1.2.1))]) (fun n t w1 => St (fpL [blk ga (.cells #[(sv Aa f0 ca)] 26 (0, 0)), rowO 23 enc_Tile Aa ca f0, Y sY tY]) w w1 [Rd, blk gb (.cells #[(.func (.yield yl) #[] #[])] 37 (0, 0)), blk gc (.cells #[(.func (.func 30) #[] #[(pt ga), (pt gb), (pt gc)])] 61 (0, 0))] [blk ga (.cells #[(sv t.2.1 t.1.1 t.2.2.1)] 26 (0, 0)), rowO 23 enc_Tile t.2.1 t.2.2.1 t.1.1, Y t.1.2.2 t.2.2.2] ∧ census_orders_1_1_y.l0 n t.1.1 t.1.2.1 t.1.2.2 p0 yf rc_ = some x19) k ((f0, p0, sY), Aa, ca, tY) [0, 1, 3, 6] rfl ⟨(hS.subR [0, 1, 2]).sub [0, 1, 2] (by decide), hx20⟩ ?_
  rintro k21 ⟨⟨l12, x13, s14⟩, A10, c11, tt15⟩ w22 ⟨hS23, hl24⟩
  cases k21 with
  | zero => rw [census_orders_1_1_y.l0] at hl24; cases hl24
  | succ k21 =>
   rw [census_orders_1_1_y.l0] at hl24
   refine WC.seq (WC.seq (WC.region ?_))
   refine seg 4 [.v (sv A10 l12 c11)] [0, 1, 3, 6, 19] [(0, (iv p0)), (1, (pt ga)), (3, (pt gc)), (6, (iv x13)), (19, (bv (decide (x13 < (l12.length : Int)))))] [.cell ⟨ga, 0, none⟩ (sv A10 l12 c11)] (fun fb => by kernel_rfl) rfl ⟨hS23.cell 0 rfl 0 rfl, trivial⟩ ?_
   refine WL.done rfl (WX.next ?_)
   rcases br_some hl24 with ⟨h25, hl24⟩ | ⟨h25, hl24⟩
   ·refine WC.condT2 (fun fb => by kernel_rfl) h25 ?_
    refine WC.skip (WX.next (WC.seq (WC.block (WC.seq ?_))))
    obtain ⟨h28, hl24⟩ := as_some hl24
    obtain ⟨h29, hl24⟩ := as_some hl24
    refine WC.regionD ([(0, ⟨ga, 0, none⟩, (sv A10 l12 c11)), (2, ⟨ga, 0, none⟩, (sv A10 l12 c11)), (4, ⟨ga, 0, none⟩, (sv A10 l12 c11)), (7, ((adr A10).add ((x13).toNat * 4)), (iv ((rdD l12 x13 z_Tile).N))), (7, (((adr A10).add ((x13).toNat * 4)).add 1), (iv ((rdD l12 x13 z_Tile).E))), (7, (((adr A10).add ((x13).toNat * 4)).add 2), (iv ((rdD l12 x13 z_Tile).S))), (7, (((adr A10).add ((x13).toNat * 4)).add 3), (iv ((rdD l12 x13 z_Tile).W))), (8, ⟨ga, 0, none⟩, (sv A10 l12 c11)), (11, ((adr A10).add ((p0).toNat * 4)), (iv ((rdD l12 p0 z_Tile).N))), (11, (((adr A10).add ((p0).toNat * 4)).add 1), (iv ((rdD l12 p0 z_Tile).E))), (11, (((adr A10).add ((p0).toNat * 4)).add 2), (iv ((rdD l12 p0 z_Tile).S))), (11, (((adr A10).add ((p0).toNat * 4)).add 3), (iv ((rdD l12 p0 z_Tile).W)))], [0, 1, 2, 3, 4, 5, 6, 7, 8, 9, 10, 11, 12, 14], [[], [], [], [], [], [], [4, 5], [4, 5, 6], [], [], [8, 9], [8, 9, 10], [0, 1, 4, 5, 6, 7, 8, 9, 10, 11], [0, 1, 4, 5, 6, 7, 8, 9, 10, 11, 12], [0, 1, 2, 3, 4, 5, 6, 7, 8, 9, 10, 11, 12, 13], [0, 1, 2, 3, 4, 5, 6, 7, 8, 9, 10, 11, 12, 13, 14]]) [[0, 1, 2, 3, 4, 5, 6, 7, 8, 9, 10, 11, 12, 13, 14, 15]] (by kernel_rfl) (by kernel_rfl) (NoPanic.seq (NoPanic.block (NoPanic.seq (NoPanic.seq (NoPanic.block (NoPanic.seq (NoPanic.body))))))) ?_
    have hS27 := hS23.drew
    revert hS27
    generalize World.drew w22 = w26
    intro hS27
    refine ⟨⟨hS27.cell 0 rfl 0 rfl, hS27.cell 0 rfl 0 rfl, hS27.cell 0 rfl 0 rfl, rowR.cell (rowO.rd (hS27.own 1).1) z_Tile h28.1 h28.2 0 rfl, rowR.cell (rowO.rd (hS27.own 1).1) z_Tile h28.1 h28.2 1 rfl, rowR.cell (rowO.rd (hS27.own 1).1) z_Tile h28.1 h28.2 2 rfl, rowR.cell (rowO.rd (hS27.own 1).1) z_Tile h28.1 h28.2 3 rfl, hS27.cell 0 rfl 0 rfl, rowR.cell (rowO.rd (hS27.own 1).1) z_Tile h29.1 h29.2 0 rfl, rowR.cell (rowO.rd (hS27.own 1).1) z_Tile h29.1 h29.2 1 rfl, rowR.cell (rowO.rd (hS27.own 1).1) z_Tile h29.1 h29.2 2 rfl, rowR.cell (rowO.rd (hS27.own 1).1) z_Tile h29.1 h29.2 3 rfl, trivial⟩, forallC ?_ (forallN)⟩
    refine segF 13 [.v (sv A10 l12 c11), .v (sv A10 l12 c11), .v (sv A10 l12 c11), .v (iv ((rdD l12 x13 z_Tile).N)), .v (iv ((rdD l12 x13 z_Tile).E)), .v (iv ((rdD l12 x13 z_Tile).S)), .v (iv ((rdD l12 x13 z_Tile).W)), .v (sv A10 l12 c11), .v (iv ((rdD l12 p0 z_Tile).N)), .v (iv ((rdD l12 p0 z_Tile).E)), .v (iv ((rdD l12 p0 z_Tile).S)), .v (iv ((rdD l12 p0 z_Tile).W))] [0, 1, 3, 6, 24, 25, 29, 33, 34] [(0, (iv p0)), (1, (pt ga)), (3, (pt gc)), (6, (iv x13)), (24, (sv A10 l12 c11)), (25, (iv x13)), (29, (.agg #[(iv ((rdD l12 x13 z_Tile).N)), (iv ((rdD l12 x13 z_Tile).E)), (iv ((rdD l12 x13 z_Tile).S)), (iv ((rdD l12 x13 z_Tile).W))])), (33, (.agg #[(iv ((rdD l12 p0 z_Tile).N)), (iv ((rdD l12 p0 z_Tile).E)), (iv ((rdD l12 p0 z_Tile).S)), (iv ((rdD l12 p0 z_Tile).W))])), (34, (.pointer (some ((adr A10).add ((p0).toNat * 4)))))] [.idx A10 x13 l12.length, .idx A10 p0 l12.length, .idx A10 p0 l12.length] [0, 1, 2, 3, 4, 5, 6, 7, 8, 9, 10, 11] [(0, ⟨ga, 0, none⟩, (sv A10 l12 c11)), (2, ⟨ga, 0, none⟩, (sv A10 l12 c11)), (4, ⟨ga, 0, none⟩, (sv A10 l12 c11)), (7, ((adr A10).add ((x13).toNat * 4)), (iv ((rdD l12 x13 z_Tile).N))), (7, (((adr A10).add ((x13).toNat * 4)).add 1), (iv ((rdD l12 x13 z_Tile).E))), (7, (((adr A10).add ((x13).toNat * 4)).add 2), (iv ((rdD l12 x13 z_Tile).S))), (7, (((adr A10).add ((x13).toNat * 4)).add 3), (iv ((rdD l12 x13 z_Tile).W))), (8, ⟨ga, 0, none⟩, (sv A10 l12 c11)), (11, ((adr A10).add ((p0).toNat * 4)), (iv ((rdD l12 p0 z_Tile).N))), (11, (((adr A10).add ((p0).toNat * 4)).add 1), (iv ((rdD l12 p0 z_Tile).E))), (11, (((adr A10).add ((p0).toNat * 4)).add 2), (iv ((rdD l12 p0 z_Tile).S))), (11, (((adr A10).add ((p0).toNat * 4)).add 3), (iv ((rdD l12 p0 z_Tile).W)))] (fun fb => by kernel_rfl) rfl ⟨rowR.adr (rowO.rd (hS27.own 1).1) h28.1 h28.2, rowR.adr (rowO.rd (hS27.own 1).1) h29.1 h29.2, rowR.adr (rowO.rd (hS27.own 1).1) h29.1 h29.2, trivial⟩ rfl ?_
    refine WL.storeRow hS27 1 rfl (p0) ((rdD l12 x13 z_Tile)) (z_Tile) [(0, (iv ((rdD l12 x13 z_Tile).N))), (1, (iv ((rdD l12 x13 z_Tile).E))), (2, (iv ((rdD l12 x13 z_Tile).S))), (3, (iv ((rdD l12 x13 z_Tile).W)))] (fun fb => by kernel_rfl) h29.1 h29.2 (by kernel_rfl) rfl [0, 2] (by decide) (by decide) (fun w31 hS32 => ?_)
    refine ⟨⟨hS32.cell 1 rfl 0 rfl, trivial⟩, ?_⟩
    refine WL.reE [0, 1, 3, 6, 24, 25, 33] [(0, (iv p0)), (1, (pt ga)), (3, (pt gc)), (6, (iv x13)), (24, (.slice A10 l12.length c11)), (25, (iv x13)), (33, (.agg #[(iv ((rdD l12 p0 z_Tile).N)), (iv ((rdD l12 p0 z_Tile).E)), (iv ((rdD l12 p0 z_Tile).S)), (iv ((rdD l12 p0 z_Tile).W))]))] [(0, (iv p0)), (1, (pt ga)), (3, (pt gc)), (6, (iv x13)), (24, (.slice A10 (l12.set (p0).toNat (rdD l12 x13 z_Tile)).length c11)), (25, (iv x13)), (33, (.agg #[(iv ((rdD l12 p0 z_Tile).N)), (iv ((rdD l12 p0 z_Tile).E)), (iv ((rdD l12 p0 z_Tile).S)), (iv ((rdD l12 p0 z_Tile).W))]))] rfl (by simp only [List.length_set]) ?_
    have hS33 : St (fpL [blk ga (.cells #[(.slice Aa f0.length ca)] 26 (0, 0)), rowO 23 enc_Tile Aa ca f0, Y sY tY]) w w31 [Rd, blk gb (.cells #[(.func (.yield yl) #[] #[])] 37 (0, 0)), blk gc (.cells #[(.func (.func 30) #[] #[(pt ga), (pt gb), (pt gc)])] 61 (0, 0))] [rowO 23 enc_Tile A10 c11 (l12.set (p0).toNat (rdD l12 x13 z_Tile)), blk ga (.cells #[(.slice A10 (l12.set (p0).toNat (rdD l12 x13 z_Tile)).length c11)] 26 (0, 0)), Y s14 tt15] := by simpa only [List.length_set] using (show St (fpL [blk ga (.cells #[(.slice Aa f0.length ca)] 26 (0, 0)), rowO 23 enc_Tile Aa ca f0, Y sY tY]) w w31 [Rd, blk gb (.cells #[(.func (.yield yl) #[] #[])] 37 (0, 0)), blk gc (.cells #[(.func (.func 30) #[] #[(pt ga), (pt gb), (pt gc)])] 61 (0, 0))] [rowO 23 enc_Tile A10 c11 (l12.set (p0).toNat (rdD l12 x13 z_Tile)), blk ga (.cells #[(.slice A10 l12.length c11)] 26 (0, 0)), Y s14 tt15] from hS32)
    obtain ⟨h34, hl24⟩ := as_some hl24
    refine seg 15 [] [0, 1, 3, 6, 33, 35] [(0, (iv p0)), (1, (pt ga)), (3, (pt gc)), (6, (iv x13)), (33, (.agg #[(iv ((rdD l12 p0 z_Tile).N)), (iv ((rdD l12 p0 z_Tile).E)), (iv ((rdD l12 p0 z_Tile).S)), (iv ((rdD l12 p0 z_Tile).W))])), (35, (.pointer (some ((adr A10).add ((x13).toNat * 4)))))] [.idx A10 x13 (l12.set (p0).toNat (rdD l12 x13 z_Tile)).length] (fun fb => by kernel_rfl) rfl ⟨rowR.adr (rowO.rd (hS33.own 0).1) h34.1 h34.2, trivial⟩ ?_
    refine WL.storeRow hS33 0 rfl (x13) ((rdD l12 p0 z_Tile)) (z_Tile) [(0, (iv ((rdD l12 p0 z_Tile).N))), (1, (iv ((rdD l12 p0 z_Tile).E))), (2, (iv ((rdD l12 p0 z_Tile).S))), (3, (iv ((rdD l12 p0 z_Tile).W)))] (fun fb => by kernel_rfl) h34.1 h34.2 (by kernel_rfl) rfl [1, 2] (by decide) (by decide) (fun w35 hS36 => ?_)
    refine ⟨trivial, ?_⟩
    have hS37 := hS33.go w35 [rowO 23 enc_Tile A10 c11 ((l12.set (p0).toNat (rdD l12 x13 z_Tile)).set (x13).toNat (rdD l12 p0 z_Tile)), blk ga (.cells #[(.slice A10 ((l12.set (p0).toNat (rdD l12 x13 z_Tile)).set (x13).toNat (rdD l12 p0 z_Tile)).length c11)] 26 (0, 0)), Y s14 tt15] (by simpa only [List.length_set] using (show St (fpL [blk ga (.cells #[(.slice Aa f0.length ca)] 26 (0, 0)), rowO 23 enc_Tile Aa ca f0, Y sY tY]) w w35 [Rd, blk gb (.cells #[(.func (.yield yl) #[] #[])] 37 (0, 0)), blk gc (.cells #[(.func (.func 30) #[] #[(pt ga), (pt gb), (pt gc)])] 61 (0, 0))] [rowO 23 enc_Tile A10 c11 ((l12.set (p0).toNat (rdD l12 x13 z_Tile)).set (x13).toNat (rdD l12 p0 z_Tile)), blk ga (.cells #[(.slice A10 (l12.set (p0).toNat (rdD l12 x13 z_Tile)).length c11)] 26 (0, 0)), Y s14 tt15] from hS36))
    refine WL.done rfl (WX.next (WC.seq (WC.region ?_)))
    refine seg 3 [.v (.func (.func 30) #[] #[(pt ga), (pt gb), (pt gc)])] [0, 1, 3, 6, 36, 38] [(0, (iv p0)), (1, (pt ga)), (3, (pt gc)), (6, (iv x13)), (36, (.func (.func 30) #[] #[(pt ga), (pt gb), (pt gc)])), (38, (iv (w64 (p0 + 1))))] [.cell ⟨gc, 0, none⟩ (.func (.func 30) #[] #[(pt ga), (pt gb), (pt gc)])] (fun fb => by kernel_rfl) rfl ⟨blk_cell (hS37.rd 2).1 0 rfl, trivial⟩ ?_
    obtain ⟨t38, ht39, hl24⟩ := bind_some hl24
    refine WL.call (some 39) 30 #[(iv (w64 (p0 + 1))), (pt ga), (pt gb), (pt gc)] (fun fb => by kernel_rfl) (ih_ (w64 (p0 + 1)) ((l12.set (p0).toNat (rdD l12 x13 z_Tile)).set (x13).toNat (rdD l12 p0 z_Tile)) yf s14 ga A10 c11 gb gc yl Y tt15 Rd t38 _ (hS37.rdT [1, 0, 2] 0) (hS37.rdT [1, 0, 2] 1) (hS37.rdT [1, 0, 2] 2) (hS37.io [1, 0, 2] (by decide)) hY ht39) (fun v w40 hR41 => ?_)
    obtain ⟨A43, c44, tt45, rfl, hk_⟩ := hR41
    have hS42 := hS.go w40 [blk ga (.cells #[(sv A43 t38.2.1 c44)] 26 (0, 0)), rowO 23 enc_Tile A43 c44 t38.2.1, Y t38.2.2 tt45] (hS37.call hk_ [1, 0, 2] [] (fun g hg => fpL_sel g hg) (by decide) (by decide))
    refine ⟨trivial, ?_⟩
    refine sg 5 [] [0, 1, 3, 6, 7] [(0, (iv p0)), (1, (pt ga)), (3, (pt gc)), (6, (iv x13)), (7, (bv t38.1))] (by kernel_rfl) ?_
    refine WL.done rfl (WX.next (WC.seq ?_))
    obtain ⟨h48, hl24⟩ := as_some hl24
    obtain ⟨h49, hl24⟩ := as_some hl24
    refine WC.regionD ([(0, ⟨ga, 0, none⟩, (sv A43 t38.2.1 c44)), (2, ⟨ga, 0, none⟩, (sv A43 t38.2.1 c44)), (4, ⟨ga, 0, none⟩, (sv A43 t38.2.1 c44)), (7, ((adr A43).add ((x13).toNat * 4)), (iv ((rdD t38.2.1 x13 z_Tile).N))), (7, (((adr A43).add ((x13).toNat * 4)).add 1), (iv ((rdD t38.2.1 x13 z_Tile).E))), (7, (((adr A43).add ((x13).toNat * 4)).add 2), (iv ((rdD t38.2.1 x13 z_Tile).S))), (7, (((adr A43).add ((x13).toNat * 4)).add 3), (iv ((rdD t38.2.1 x13 z_Tile).W))), (8, ⟨ga, 0, none⟩, (sv A43 t38.2.1 c44)), (11, ((adr A43).add ((p0).toNat * 4)), (iv ((rdD t38.2.1 p0 z_Tile).N))), (11, (((adr A43).add ((p0).toNat * 4)).add 1), (iv ((rdD t38.2.1 p0 z_Tile).E))), (11, (((adr A43).add ((p0).toNat * 4)).add 2), (iv ((rdD t38.2.1 p0 z_Tile).S))), (11, (((adr A43).add ((p0).toNat * 4)).add 3), (iv ((rdD t38.2.1 p0 z_Tile).W)))], [0, 1, 2, 3, 4, 5, 6, 7, 8, 9, 10, 11, 12, 14], [[], [], [], [], [], [], [4, 5], [4, 5, 6], [], [], [8, 9], [8, 9, 10], [0, 1, 4, 5, 6, 7, 8, 9, 10, 11], [0, 1, 4, 5, 6, 7, 8, 9, 10, 11, 12], [0, 1, 2, 3, 4, 5, 6, 7, 8, 9, 10, 11, 12, 13], [0, 1, 2, 3, 4, 5, 6, 7, 8, 9, 10, 11, 12, 13, 14]]) [[0, 1, 2, 3, 4, 5, 6, 7, 8, 9, 10, 11, 12, 13, 14, 15]] (by kernel_rfl) (by kernel_rfl) (NoPanic.seq (NoPanic.block (NoPanic.seq (NoPanic.seq (NoPanic.block (NoPanic.seq (NoPanic.body))))))) ?_
    have hS47 := hS42.drew
    revert hS47
    generalize World.drew w40 = w46
    intro hS47
    refine ⟨⟨hS47.cell 0 rfl 0 rfl, hS47.cell 0 rfl 0 rfl, hS47.cell 0 rfl 0 rfl, rowR.cell (rowO.rd (hS47.own 1).1) z_Tile h48.1 h48.2 0 rfl, rowR.cell (rowO.rd (hS47.own 1).1) z_Tile h48.1 h48.2 1 rfl, rowR.cell (rowO.rd (hS47.own 1).1) z_Tile h48.1 h48.2 2 rfl, rowR.cell (rowO.rd (hS47.own 1).1) z_Tile h48.1 h48.2 3 rfl, hS47.cell 0 rfl 0 rfl, rowR.cell (rowO.rd (hS47.own 1).1) z_Tile h49.1 h49.2 0 rfl, rowR.cell (rowO.rd (hS47.own 1).1) z_Tile h49.1 h49.2 1 rfl, rowR.cell (rowO.rd (hS47.own 1).1) z_Tile h49.1 h49.2 2 rfl, rowR.cell (rowO.rd (hS47.own 1).1) z_Tile h49.1 h49.2 3 rfl, trivial⟩, forallC ?_ (forallN)⟩
    refine segF 13 [.v (sv A43 t38.2.1 c44), .v (sv A43 t38.2.1 c44), .v (sv A43 t38.2.1 c44), .v (iv ((rdD t38.2.1 x13 z_Tile).N)), .v (iv ((rdD t38.2.1 x13 z_Tile).E)), .v (iv ((rdD t38.2.1 x13 z_Tile).S)), .v (iv ((rdD t38.2.1 x13 z_Tile).W)), .v (sv A43 t38.2.1 c44), .v (iv ((rdD t38.2.1 p0 z_Tile).N)), .v (iv ((rdD t38.2.1 p0 z_Tile).E)), .v (iv ((rdD t38.2.1 p0 z_Tile).S)), .v (iv ((rdD t38.2.1 p0 z_Tile).W))] [0, 1, 3, 6, 7, 42, 43, 47, 51, 52] [(0, (iv p0)), (1, (pt ga)), (3, (pt gc)), (6, (iv x13)), (7, (bv t38.1)), (42, (sv A43 t38.2.1 c44)), (43, (iv x13)), (47, (.agg #[(iv ((rdD t38.2.1 x13 z_Tile).N)), (iv ((rdD t38.2.1 x13 z_Tile).E)), (iv ((rdD t38.2.1 x13 z_Tile).S)), (iv ((rdD t38.2.1 x13 z_Tile).W))])), (51, (.agg #[(iv ((rdD t38.2.1 p0 z_Tile).N)), (iv ((rdD t38.2.1 p0 z_Tile).E)), (iv ((rdD t38.2.1 p0 z_Tile).S)), (iv ((rdD t38.2.1 p0 z_Tile).W))])), (52, (.pointer (some ((adr A43).add ((p0).toNat * 4)))))] [.idx A43 x13 t38.2.1.length, .idx A43 p0 t38.2.1.length, .idx A43 p0 t38.2.1.length] [0, 1, 2, 3, 4, 5, 6, 7, 8, 9, 10, 11] [(0, ⟨ga, 0, none⟩, (sv A43 t38.2.1 c44)), (2, ⟨ga, 0, none⟩, (sv A43 t38.2.1 c44)), (4, ⟨ga, 0, none⟩, (sv A43 t38.2.1 c44)), (7, ((adr A43).add ((x13).toNat * 4)), (iv ((rdD t38.2.1 x13 z_Tile).N))), (7, (((adr A43).add ((x13).toNat * 4)).add 1), (iv ((rdD t38.2.1 x13 z_Tile).E))), (7, (((adr A43).add ((x13).toNat * 4)).add 2), (iv ((rdD t38.2.1 x13 z_Tile).S))), (7, (((adr A43).add ((x13).toNat * 4)).add 3), (iv ((rdD t38.2.1 x13 z_Tile).W))), (8, ⟨ga, 0, none⟩, (sv A43 t38.2.1 c44)), (11, ((adr A43).add ((p0).toNat * 4)), (iv ((rdD t38.2.1 p0 z_Tile).N))), (11, (((adr A43).add ((p0).toNat * 4)).add 1), (iv ((rdD t38.2.1 p0 z_Tile).E))), (11, (((adr A43).add ((p0).toNat * 4)).add 2), (iv ((rdD t38.2.1 p0 z_Tile).S))), (11, (((adr A43).add ((p0).toNat * 4)).add 3), (iv ((rdD t38.2.1 p0 z_Tile).W)))] (fun fb => by kernel_rfl) rfl ⟨rowR.adr (rowO.rd (hS47.own 1).1) h48.1 h48.2, rowR.adr (rowO.rd (hS47.own 1).1) h49.1 h49.2, rowR.adr (rowO.rd (hS47.own 1).1) h49.1 h49.2, trivial⟩ rfl ?_
    refine WL.storeRow hS47 1 rfl (p0) ((rdD t38.2.1 x13 z_Tile)) (z_Tile) [(0, (iv ((rdD t38.2.1 x13 z_Tile).N))), (1, (iv ((rdD t38.2.1 x13 z_Tile).E))), (2, (iv ((rdD t38.2.1 x13 z_Tile).S))), (3, (iv ((rdD t38.2.1 x13 z_Tile).W)))] (fun fb => by kernel_rfl) h49.1 h49.2 (by kernel_rfl) rfl [0, 2] (by decide) (by decide) (fun w50 hS51 => ?_)
    refine ⟨⟨hS51.cell 1 rfl 0 rfl, trivial⟩, ?_⟩
    refine WL.reE [0, 1, 3, 6, 7, 42, 43, 51] [(0, (iv p0)), (1, (pt ga)), (3, (pt gc)), (6, (iv x13)), (7, (.bool t38.1)), (42, (.slice A43 t38.2.1.length c44)), (43, (iv x13)), (51, (.agg #[(iv ((rdD t38.2.1 p0 z_Tile).N)), (iv ((rdD t38.2.1 p0 z_Tile).E)), (iv ((rdD t38.2.1 p0 z_Tile).S)), (iv ((rdD t38.2.1 p0 z_Tile).W))]))] [(0, (iv p0)), (1, (pt ga)), (3, (pt gc)), (6, (iv x13)), (7, (.bool t38.1)), (42, (.slice A43 (t38.2.1.set (p0).toNat (rdD t38.2.1 x13 z_Tile)).length c44)), (43, (iv x13)), (51, (.agg #[(iv ((rdD t38.2.1 p0 z_Tile).N)), (iv ((rdD t38.2.1 p0 z_Tile).E)), (iv ((rdD t38.2.1 p0 z_Tile).S)), (iv ((rdD t38.2.1 p0 z_Tile).W))]))] rfl (by simp only [List.length_set]) ?_
    have hS52 := hS37.go w50 [rowO 23 enc_Tile A43 c44 (t38.2.1.set (p0).toNat (rdD t38.2.1 x13 z_Tile)), blk ga (.cells #[(.slice A43 (t38.2.1.set (p0).toNat (rdD t38.2.1 x13 z_Tile)).length c44)] 26 (0, 0)), Y t38.2.2 tt45] (by simpa only [List.length_set] using (show St (fpL [blk ga (.cells #[(.slice Aa f0.length ca)] 26 (0, 0)), rowO 23 enc_Tile Aa ca f0, Y sY tY]) w w50 [Rd, blk gb (.cells #[(.func (.yield yl) #[] #[])] 37 (0, 0)), blk gc (.cells #[(.func (.func 30) #[] #[(pt ga), (pt gb), (pt gc)])] 61 (0, 0))] [rowO 23 enc_Tile A43 c44 (t38.2.1.set (p0).toNat (rdD t38.2.1 x13 z_Tile)), blk ga (.cells #[(.slice A43 t38.2.1.length c44)] 26 (0, 0)), Y t38.2.2 tt45] from hS51))
    obtain ⟨h53, hl24⟩ := as_some hl24
    refine seg 15 [] [0, 1, 3, 6, 7, 51, 53] [(0, (iv p0)), (1, (pt ga)), (3, (pt gc)), (6, (iv x13)), (7, (bv t38.1)), (51, (.agg #[(iv ((rdD t38.2.1 p0 z_Tile).N)), (iv ((rdD t38.2.1 p0 z_Tile).E)), (iv ((rdD t38.2.1 p0 z_Tile).S)), (iv ((rdD t38.2.1 p0 z_Tile).W))])), (53, (.pointer (some ((adr A43).add ((x13).toNat * 4)))))] [.idx A43 x13 (t38.2.1.set (p0).toNat (rdD t38.2.1 x13 z_Tile)).length] (fun fb => by kernel_rfl) rfl ⟨rowR.adr (rowO.rd (hS52.own 0).1) h53.1 h53.2, trivial⟩ ?_
    refine WL.storeRow hS52 0 rfl (x13) ((rdD t38.2.1 p0 z_Tile)) (z_Tile) [(0, (iv ((rdD t38.2.1 p0 z_Tile).N))), (1, (iv ((rdD t38.2.1 p0 z_Tile).E))), (2, (iv ((rdD t38.2.1 p0 z_Tile).S))), (3, (iv ((rdD t38.2.1 p0 z_Tile).W)))] (fun fb => by kernel_rfl) h53.1 h53.2 (by kernel_rfl) rfl [1, 2] (by decide) (by decide) (fun w54 hS55 => ?_)
    refine ⟨trivial, ?_⟩
    have hS56 := hS52.go w54 [rowO 23 enc_Tile A43 c44 ((t38.2.1.set (p0).toNat (rdD t38.2.1 x13 z_Tile)).set (x13).toNat (rdD t38.2.1 p0 z_Tile)), blk ga (.cells #[(.slice A43 ((t38.2.1.set (p0).toNat (rdD t38.2.1 x13 z_Tile)).set (x13).toNat (rdD t38.2.1 p0 z_Tile)).length c44)] 26 (0, 0)), Y t38.2.2 tt45] (by simpa only [List.length_set] using (show St (fpL [blk ga (.cells #[(.slice Aa f0.length ca)] 26 (0, 0)), rowO 23 enc_Tile Aa ca f0, Y sY tY]) w w54 [Rd, blk gb (.cells #[(.func (.yield yl) #[] #[])] 37 (0, 0)), blk gc (.cells #[(.func (.func 30) #[] #[(pt ga), (pt gb), (pt gc)])] 61 (0, 0))] [rowO 23 enc_Tile A43 c44 ((t38.2.1.set (p0).toNat (rdD t38.2.1 x13 z_Tile)).set (x13).toNat (rdD t38.2.1 p0 z_Tile)), blk ga (.cells #[(.slice A43 (t38.2.1.set (p0).toNat (rdD t38.2.1 x13 z_Tile)).length c44)] 26 (0, 0)), Y t38.2.2 tt45] from hS55))
    refine WL.done rfl (WX.next (WC.seq (WC.region ?_)))
    refine sg 2 [] [0, 1, 3, 6, 55] [(0, (iv p0)), (1, (pt ga)), (3, (pt gc)), (6, (iv x13)), (55, (bv (!t38.1)))] (by kernel_rfl) ?_
    refine WL.done rfl (WX.next ?_)
    rcases br_some hl24 with ⟨h57, hl24⟩ | ⟨h57, hl24⟩
    ·refine WC.condT2 (fun fb => by kernel_rfl) h57 ?_
     refine WC.seq (WC.region ?_)
     refine sg 1 [] [1, 5] [(1, (pt ga)), (5, (bv false))] (by kernel_rfl) ?_
     refine WL.done rfl (WX.next ?_)
     refine WC.ret ?_
     injection hl24 with hl24
     subst hl24
     injection hf with hf
     subst hf
     exact WX.blockR (WX.thenR (WX.thenR (WX.blockR (WX.thenR (WX.ret_ [] (bv false) [] (fun fb => by kernel_rfl) trivial ⟨_, rfl, A43, c44, tt45, rfl, (hS56.sub [1, 0, 2] (by decide)).noR⟩)))))
    refine WC.condF2 (fun fb => by kernel_rfl) h57 ?_
    refine WC.skip ?_
    refine WX.blockN (WX.next ?_)
    refine WC.region ?_
    refine sg 3 [] [0, 1, 3, 6] [(0, (iv p0)), (1, (pt ga)), (3, (pt gc)), (6, (iv (w64 (x13 + 1))))] (by kernel_rfl) ?_
    refine WL.done rfl ?_
    exact WX.again k21 (Nat.lt_succ_self _) (((t38.2.1.set (p0).toNat (rdD t38.2.1 x13 z_Tile)).set (x13).toNat (rdD t38.2.1 p0 z_Tile), w64 (x13 + 1), t38.2.2), A43, c44, tt45) [0, 1, 3, 6] rfl ⟨(hS56.subR [0, 1, 2]).sub [1, 0, 2] (by decide), hl24⟩
   refine WC.condF2 (fun fb => by kernel_rfl) h25 ?_
   refine WC.exit ?_
   injection hl24 with hl24
   exact WX.thenX (WX.thenX (WX.blockHere (WX.to Kx19 ((l12, s14), A10, c11, tt15) [1] rfl ⟨(hS23.subR [0, 1, 2]).sub [0, 1, 2] (by decide), hl24.symm⟩)))
 rintro ⟨y61, A16, c17, tt18⟩ w58 ⟨hS59, hq60⟩
 subst hq60
 have hf := sum_inr hf
 refine WX.next (WC.seq (WC.region ?_))
 refine sg 1 [] [1, 5] [(1, (pt ga)), (5, (bv true))] (by kernel_rfl) ?_
 refine WL.done rfl (WX.next ?_)
 refine WC.ret ?_
 injection hf with hf
 subst hf
 exact WX.ret_ [] (bv true) [] (fun fb => by kernel_rfl) trivial ⟨_, rfl, A16, c17, tt18, rfl, (hS59.sub [0, 1, 2] (by decide)).noR⟩
theorem census_orders_1_y_calls {σ τ : Type} (k : Nat) (f0 : List Tile) (yf : (List Tile) → σ → Option (σ × Bool)) (sY : σ) (ga : Nat) (Aa : Option Addr) (ca : Nat) (yl : Nat) (Y : σ → τ → Own) (tY : τ) (Rd : Own) (r : σ) (w : World) (hR0 : RO (fpL [Y sY tY]) w (Rd)) (hR1 : RO (fpL [Y sY tY]) w (blk ga (.cells #[(sv Aa f0 ca)] 26 (0, 0)))) (hR2 : RO (fpL [Y sY tY]) w (rowR enc_Tile Aa ca f0)) (hI : IoOK w [Y sY tY]) (hY : ∀ (x0_ : List Tile) (A0_ : Option Addr) (c0_ : Nat) (s_ : σ) (t_ : τ) (r_ : σ × Bool) (w_ : World), RO (fpL [Y s_ t_]) w_ (rowR enc_Tile A0_ c0_ x0_) → RO (fpL [Y s_ t_]) w_ Rd → IoOK w_ [Y s_ t_] → yf x0_ s_ = some r_ → YieldR Try.prog (.func (.yield yl) #[] #[]) #[(sv A0_ x0_ c0_)] w_ (fun v_ w' => ∃ t1_, v_ = .bool r_.2 ∧ St (fpL [Y s_ t_]) w_ w' [] [Y r_.1 t1_])) (hf : census_orders_1_y k f0 yf sY = some r) :
  CallsR Try.prog 28 #[(.func (.yield yl) #[] #[]), (pt ga)] w (fun v w' => ∃ (t1_ : τ), v = (.tuple #[]) ∧ St (fpL [Y sY tY]) w w' [] [Y r t1_]) := by
 have hS : St (fpL [Y sY tY]) w w [Rd, blk ga (.cells #[(sv Aa f0 ca)] 26 (0, 0)), rowR enc_Tile Aa ca f0] [Y sY tY] := St.initIO (ro_cons hR0 (ro_cons hR1 (ro_cons hR2 (ro_nil _ _)))) hI
 refine enter 10 Try.func28 rfl Try.ntmps28 rfl ?_
 unfold census_orders_1_y at hf
 refine WC.seq (WC.region ?_)
 refine WL.new hS 2 [] (fun g => (pt g)) (.cells #[(.func (.yield yl) #[] #[])] 37 (0, 0)) [] (fun fb g => by kernel_rfl) trivial (fun g3 w4 hS5 => ?_)
 refine ⟨trivial, ?_⟩
 refine WL.done rfl (WX.next (WC.seq (WC.region ?_)))
 refine seg 1 [.v (sv Aa f0 ca)] [2, 5] [(2, (pt g3)), (5, (sv Aa f0 ca))] [.cell ⟨ga, 0, none⟩ (sv Aa f0 ca)] (fun fb => by kernel_rfl) rfl ⟨blk_cell (hS5.rd 1).1 0 rfl, trivial⟩ ?_
 obtain ⟨t6, ht7, hf⟩ := bind_some hf
 refine WL.call (some 6) 29 #[(sv Aa f0 ca)] (fun fb => by kernel_rfl) (slices_Clone_api_Tile_api_Tile_calls f0 Aa ca t6 _ (hS5.rd 2) ht7) (fun v w8 hR9 => ?_)
 obtain ⟨A11, c12, rfl, hk_⟩ := hR9
 have hS10 : St (fpL [Y sY tY]) w w8 [Rd, blk ga (.cells #[(.slice Aa f0.length ca)] 26 (0, 0)), rowR enc_Tile Aa ca f0] [rowO 23 enc_Tile A11 c12 t6, blk g3 (.cells #[(.func (.yield yl) #[] #[])] 37 (0, 0)), Y sY tY] := hS5.call hk_ [] [0, 1] (fun g hg => hg.elim) (by simp) (by decide)
 refine ⟨trivial, ?_⟩
 refine WL.new hS10 3 [] (fun g => (pt g)) (.cells #[(.slice none 0 0)] 26 (0, 0)) [] (fun fb g => by kernel_rfl) trivial (fun g13 w14 hS15 => ?_)
 refine ⟨trivial, ?_⟩
 refine WL.store hS15 0 rfl [(0, (sv A11 t6 c12))] #[(sv A11 t6 c12)] (fun fb => by kernel_rfl) (by kernel_rfl) rfl [1, 2, 3] (by decide) (by decide) (fun w16 hS17 => ?_)
 refine ⟨trivial, ?_⟩
 refine WL.done rfl (WX.next (WC.seq (WC.region ?_)))
 refine WL.new hS17 4 [] (fun g => (pt g)) (.cells #[.nilFunc] 61 (0, 0)) [] (fun fb g => by kernel_rfl) trivial (fun g18 w19 hS20 => ?_)
 refine ⟨trivial, ?_⟩
 refine WL.done rfl (WX.next (WC.seq (WC.region ?_)))
 refine sg 1 [] [4, 7] [(4, (pt g18)), (7, (.func (.func 30) #[] #[(pt g13), (pt g3), (pt g18)]))] (by kernel_rfl) ?_
 refine WL.store hS20 0 rfl [(0, (.func (.func 30) #[] #[(pt g13), (pt g3), (pt g18)]))] #[(.func (.func 30) #[] #[(pt g13), (pt g3), (pt g18)])] (fun fb => by kernel_rfl) (by kernel_rfl) rfl [1, 2, 3, 4] (by decide) (by decide) (fun w21 hS22 => ?_)
 refine ⟨trivial, ?_⟩
 refine WL.done rfl (WX.next (WC.region ?_))
 refine seg 1 [.v (.func (.func 30) #[] #[(pt g13), (pt g3), (pt g18)])] [8] [(8, (.func (.func 30) #[] #[(pt g13), (pt g3), (pt g18)]))] [.cell ⟨g18, 0, none⟩ (.func (.func 30) #[] #[(pt g13), (pt g3), (pt g18)])] (fun fb => by kernel_rfl) rfl ⟨hS22.cell 0 rfl 0 rfl, trivial⟩ ?_
 obtain ⟨t23, ht24, hf⟩ := bind_some hf
 refine WL.call (some 9) 30 #[(iv 0), (pt g13), (pt g3), (pt g18)] (fun fb => by kernel_rfl) (census_orders_1_1_y_calls _ 0 t6 yf sY g13 A11 c12 g3 g18 yl Y tY Rd t23 _ (hS22.rdT [1, 2, 4] 0) (hS22.owT [1, 2, 4] 3 (by decide)) (hS22.owT [1, 2, 4] 0 (by decide)) (hS22.io [1, 2, 4] (by decide)) hY ht24) (fun v w25 hR26 => ?_)
 obtain ⟨A29, c30, tt31, rfl, hk_⟩ := hR26
 have hS27 := hS.go w25 [blk g13 (.cells #[(sv A29 t23.2.1 c30)] 26 (0, 0)), rowO 23 enc_Tile A29 c30 t23.2.1, Y t23.2.2 tt31, blk g18 (.cells #[(.func (.func 30) #[] #[(pt g13), (pt g3), (pt g18)])] 61 (0, 0)), blk g3 (.cells #[(.func (.yield yl) #[] #[])] 37 (0, 0))] (hS22.call hk_ [1, 2, 4] [0, 3] (fun g hg => fpL_sel g hg) (by decide) (by decide))
 refine ⟨trivial, ?_⟩
 refine WL.done rfl ?_
 injection hf with hf
 subst hf
 exact WX.end_ [] (.tuple #[]) [] (fun fb => by kernel_rfl) trivial ⟨_, rfl, tt31, rfl, (hS27.sub [2] (by decide)).noR⟩
theorem census_least_calls (k : Nat) (p0 : List Tile) (Aa : Option Addr) (ca : Nat) (r : (List Tile)) (w : World) (hR0 : RO NoS w (rowR enc_Tile Aa ca p0)) (hf : census_least k p0 = some r) :
  CallsR Try.prog 11 #[(sv Aa p0 ca)] w (fun v w' => ∃ (A1_ : Option Addr), ∃ (c1_ : Nat), v = (sv A1_ r c1_) ∧ St NoS w w' [] [rowO 23 enc_Tile A1_ c1_ r]) := by
 have hS : St NoS w w [rowR enc_Tile Aa ca p0] [] := St.init (ro_cons hR0 (ro_nil _ _))
 refine enter 21 Try.func11 rfl Try.ntmps11 rfl ?_
 unfold census_least at hf
 refine WC.seq (WC.region ?_)
 refine sg 1 [] [0] [(0, (sv Aa p0 ca))] (by kernel_rfl) ?_
 refine WL.done rfl (WX.next (WC.seq (WC.region ?_)))
 refine WL.new hS 3 [] (fun g => (pt g)) (.cells #[(.slice none 0 0)] 26 (0, 0)) [] (fun fb g => by kernel_rfl) trivial (fun g3 w4 hS5 => ?_)
 refine ⟨trivial, ?_⟩
 refine WL.done rfl (WX.next (WC.seq (WC.seq (WC.region ?_))))
 refine sg 1 [] [3, 6] [(3, (pt g3)), (6, (sv Aa p0 ca))] (by kernel_rfl) ?_
 obtain ⟨t6, ht7, hf⟩ := bind_some hf
 refine WL.call (some 7) 16 #[(sv Aa p0 ca)] (fun fb => by kernel_rfl) (census_orders_calls p0 Aa ca t6 _ (hS5.rd 0) ht7) (fun v w8 hR9 => ?_)
 obtain ⟨g12, rfl, hk_⟩ := hR9
 have hS10 := hS.go w8 [blk g12 (.cells #[(.slice Aa p0.length ca)] 26 (0, 0)), blk g3 (.cells #[(.slice none 0 0)] 26 (0, 0))] (hS5.call hk_ [] [0] (fun g hg => hg.elim) (by simp) (by decide))
 refine ⟨trivial, ?_⟩
 refine WL.done rfl (WX.next (WC.block ?_))
 have hS13 := hS10.nilrow 23 enc_Tile
 have hS14 := hS10.go w8 [flgO true 23 enc_Tile none 0 ([] : List Tile), blk g12 (.cells #[(sv Aa p0 ca)] 26 (0, 0)), blk g3 (.cells #[(sv none ([] : List Tile) 0)] 26 (0, 0))] (hS13.toFlg 0 rfl true (fun _ => rfl) [1, 2] (by decide) (by decide))
 refine WC.rangeO hS14 (fun _ _ h => h) rfl (gf := 28) (lb := [(pt g12)]) (fun fb => by kernel_rfl) (fun _ => by kernel_rfl) (fun LO19 LB20 LX21 l22 D23 w24 hK25 hS26 => ?_)
 have hS27 := hS14.go w24 [(fun (s_ : (Bool × (List Tile)) × Int) (t_ : (Option Addr) × Nat) => sepO (blk l22 (LO19 (pendN [] s_.2)) :: [blk g3 (.cells #[(sv t_.1 s_.1.2 t_.2)] 26 (0, 0)), flgO s_.1.1 23 enc_Tile t_.1 t_.2 s_.1.2])) ((true, ([] : List Tile)), (0 : Int)) (none, 0), blk D23 (.deferred (some [])), blk g12 (.cells #[(sv Aa p0 ca)] 26 (0, 0))] (hS26.pack [0, 4, 2] [1, 3] (by decide) (by decide) (by decide))
 have hY31 : ∀ (x0_ : List Tile) (A0_ : Option Addr) (c0_ : Nat) (s_ : (Bool × (List Tile)) × Int) (t_ : (Option Addr) × Nat) (r_ : ((Bool × (List Tile)) × Int) × Bool) (w_ : World), RO (fpL [(fun (s_ : (Bool × (List Tile)) × Int) (t_ : (Option Addr) × Nat) => sepO (blk l22 (LO19 (pendN [] s_.2)) :: [blk g3 (.cells #[(sv t_.1 s_.1.2 t_.2)] 26 (0, 0)), flgO s_.1.1 23 enc_Tile t_.1 t_.2 s_.1.2])) s_ t_]) w_ (rowR enc_Tile A0_ c0_ x0_) → RO (fpL [(fun (s_ : (Bool × (List Tile)) × Int) (t_ : (Option Addr) × Nat) => sepO (blk l22 (LO19 (pendN [] s_.2)) :: [blk g3 (.cells #[(sv t_.1 s_.1.2 t_.2)] 26 (0, 0)), flgO s_.1.1 23 enc_Tile t_.1 t_.2 s_.1.2])) s_ t_]) w_ (poolO [rowR enc_Tile Aa ca p0]) → IoOK w_ [(fun (s_ : (Bool × (List Tile)) × Int) (t_ : (Option Addr) × Nat) => sepO (blk l22 (LO19 (pendN [] s_.2)) :: [blk g3 (.cells #[(sv t_.1 s_.1.2 t_.2)] 26 (0, 0)), flgO s_.1.1 23 enc_Tile t_.1 t_.2 s_.1.2])) s_ t_] → census_least.b1 k  x0_ s_ = some r_ → YieldR Try.prog (.func (.yield l22) #[] #[]) #[(sv A0_ x0_ c0_)] w_ (fun v_ w' => ∃ t1_, v_ = .bool r_.2 ∧ St (fpL [(fun (s_ : (Bool × (List Tile)) × Int) (t_ : (Option Addr) × Nat) => sepO (blk l22 (LO19 (pendN [] s_.2)) :: [blk g3 (.cells #[(sv t_.1 s_.1.2 t_.2)] 26 (0, 0)), flgO s_.1.1 23 enc_Tile t_.1 t_.2 s_.1.2])) s_ t_]) w_ w' [] [(fun (s_ : (Bool × (List Tile)) × Int) (t_ : (Option Addr) × Nat) => sepO (blk l22 (LO19 (pendN [] s_.2)) :: [blk g3 (.cells #[(sv t_.1 s_.1.2 t_.2)] 26 (0, 0)), flgO s_.1.1 23 enc_Tile t_.1 t_.2 s_.1.2])) r_.1 t1_]) := by
  rintro x28 A29 c30 ⟨⟨b18, l17⟩, j32⟩ ⟨A15, c16⟩ r33 w34 hro39 hRd35 hI36 hf37
  rw [census_least.b1] at hf37
  obtain ⟨hj40, hf37⟩ := as_some hf37
  subst hj40
  have hRo41 := hRd35.openSep
  have hS38 : St (fpL [blk l22 (LO19 none), blk g3 (.cells #[(sv A15 l17 c16)] 26 (0, 0)), flgO b18 23 enc_Tile A15 c16 l17]) w34 w34 [rowR enc_Tile A29 c30 x28, rowR enc_Tile Aa ca p0] [blk l22 (LO19 none), blk g3 (.cells #[(sv A15 l17 c16)] 26 (0, 0)), flgO b18 23 enc_Tile A15 c16 l17] := St.initIO (ro_cons hro39.openSep (ro_cons (poolO.ro hRo41 0) (ro_nil _ _))) hI36.openSep
  refine YieldR.of_loop hK25 (hS38.blkAt 0 rfl) [(sv A29 x28 c30)] [3] [(3, (pt g3))] [(8, (sv A29 x28 c30)), (3, (pt g3))] rfl rfl rfl rfl rfl ?_
  refine WC.region ?_
  refine sg 1 [] [3, 4] [(3, (pt g3)), (4, (sv A29 x28 c30))] (by kernel_rfl) ?_
  refine WL.done rfl ?_
  refine WX.begin' hK25 (hS38.blkAt 0 rfl) ?_
  have hS42 := hS38.putO 0 rfl LB20 [1, 2] (by decide) (by decide)
  revert hS42
  generalize World.putObj _ _ _ = w43
  intro hS42
  have hS44 := hS38.go w43 [blk l22 LB20, blk g3 (.cells #[(sv A15 l17 c16)] 26 (0, 0)), flgO b18 23 enc_Tile A15 c16 l17] (hS42)
  refine WC.block (WC.seq (WC.region ?_))
  refine sg 1 [] [3, 9] [(3, (pt g3)), (9, (sv A29 x28 c30))] (by kernel_rfl) ?_
  obtain ⟨t45, ht46, hf37⟩ := bind_some hf37
  refine WL.call (some 10) 17 #[(sv A29 x28 c30)] (fun fb => by kernel_rfl) (census_renamed_calls _ x28 A29 c30 t45 _ (hS44.rd 0) ht46) (fun v w47 hR48 => ?_)
  obtain ⟨A50, c51, rfl, hk_⟩ := hR48
  have hS49 : St (fpL [blk l22 (LO19 none), blk g3 (.cells #[(.slice A15 l17.length c16)] 26 (0, 0)), flgO b18 23 enc_Tile A15 c16 l17]) w34 w47 [rowR enc_Tile A29 c30 x28, rowR enc_Tile Aa ca p0] [rowO 23 enc_Tile A50 c51 t45, blk l22 LB20, blk g3 (.cells #[(.slice A15 l17.length c16)] 26 (0, 0)), flgO b18 23 enc_Tile A15 c16 l17] := hS44.call hk_ [] [0, 1, 2] (fun g hg => hg.elim) (by simp) (by decide)
  refine ⟨trivial, ?_⟩
  refine sg 3 [] [3, 5] [(3, (pt g3)), (5, (sv A50 t45 c51))] (by kernel_rfl) ?_
  refine WL.done rfl (WX.next (WC.seq (WC.region ?_)))
  refine seg 1 [.v (sv A15 l17 c16)] [3, 5, 11] [(3, (pt g3)), (5, (sv A50 t45 c51)), (11, (sv A15 l17 c16))] [.cell ⟨g3, 0, none⟩ (sv A15 l17 c16)] (fun fb => by kernel_rfl) rfl ⟨hS49.cell 2 rfl 0 rfl, trivial⟩ ?_
  rcases nilM_some hf37 with ⟨hb52, hf37⟩ | ⟨hb52, hf37⟩
  ·
   obtain rfl := hS49.flg 3 rfl hb52
   have hS53 : St (fpL [blk l22 (LO19 none), blk g3 (.cells #[(sv none l17 c16)] 26 (0, 0)), flgO b18 23 enc_Tile none c16 l17]) w34 w47 [rowR enc_Tile A29 c30 x28, rowR enc_Tile Aa ca p0] [rowO 23 enc_Tile none c16 l17, rowO 23 enc_Tile A50 c51 t45, blk l22 LB20, blk g3 (.cells #[(sv none l17 c16)] 26 (0, 0))] := hS49.unFlg 3 rfl [0, 1, 2] (by decide) (by decide)
   refine sg 8 [] [3, 5, 18] [(3, (pt g3)), (5, (sv A50 t45 c51)), (18, (bv true))] (by kernel_rfl) ?_
   refine WL.done rfl (WX.next ?_)
   refine WC.condT (fun fb => by kernel_rfl) ?_
   refine WC.region ?_
   refine sg 1 [] [3, 19] [(3, (pt g3)), (19, (sv A50 t45 c51))] (by kernel_rfl) ?_
   refine WL.store hS53 3 rfl [(0, (sv A50 t45 c51))] #[(sv A50 t45 c51)] (fun fb => by kernel_rfl) (by kernel_rfl) rfl [0, 1, 2] (by decide) (by decide) (fun w54 hS55 => ?_)
   refine ⟨trivial, ?_⟩
   refine WL.done rfl ?_
   have hS56 := hS53.go w54 [flgO false 23 enc_Tile A50 c51 t45, blk g3 (.cells #[(sv A50 t45 c51)] 26 (0, 0)), rowO 23 enc_Tile none c16 l17, blk l22 LB20] (hS55.toFlg 2 rfl false (fun h => by cases h) [0, 1, 3] (by decide) (by decide))
   injection hf37 with hf37
   subst hf37
   exact WX.blockN (WX.roundN' hK25 (hS56.blkAt 3 rfl) ⟨(A50, c51), rfl, ((hS56.putO 3 rfl (LO19 none) [0, 1, 2] (by decide) (by decide)).sub [0, 2, 1] (by decide)).noR.closeSep⟩)
  obtain ⟨a57, rfl⟩ := hS49.flgSome 3 rfl hb52
  have hS58 : St (fpL [blk l22 (LO19 none), blk g3 (.cells #[(sv (some a57) l17 c16)] 26 (0, 0)), flgO b18 23 enc_Tile (some a57) c16 l17]) w34 w47 [rowR enc_Tile A29 c30 x28, rowR enc_Tile Aa ca p0] [rowO 23 enc_Tile (some a57) c16 l17, rowO 23 enc_Tile A50 c51 t45, blk l22 LB20, blk g3 (.cells #[(sv (some a57) l17 c16)] 26 (0, 0))] := hS49.unFlg 3 rfl [0, 1, 2] (by decide) (by decide)
  refine seg 5 [.v (sv (some a57) l17 c16)] [3, 5, 13, 14, 15] [(3, (pt g3)), (5, (sv A50 t45 c51)), (13, (bv false)), (14, (sv A50 t45 c51)), (15, (sv (some a57) l17 c16))] [.cell ⟨g3, 0, none⟩ (sv (some a57) l17 c16)] (fun fb => by kernel_rfl) rfl ⟨hS58.cell 3 rfl 0 rfl, trivial⟩ ?_
  obtain ⟨t59, ht60, hf37⟩ := bind_some hf37
  refine WL.call (some 16) 18 #[(sv A50 t45 c51), (sv (some a57) l17 c16)] (fun fb => by kernel_rfl) (census_before_calls _ t45 l17 A50 c51 (some a57) c16 t59 _ (hS58.ow 1).ofO (hS58.ow 0).ofO ht60) (fun v w61 hR62 => ?_)
  obtain ⟨rfl, hk_⟩ := hR62
  have hS63 := hS58.keepN hk_
  refine ⟨trivial, ?_⟩
  refine sg 8 [] [3, 5, 18] [(3, (pt g3)), (5, (sv A50 t45 c51)), (18, (bv (decide (t59 < 0))))] (by kernel_rfl) ?_
  refine WL.done rfl (WX.next ?_)
  obtain ⟨x66, hx67, hf37⟩ := bind_some hf37
  refine WC.cutN (T := (List Tile) × (Option Addr) × Nat) (fun t => [(3, (pt g3))]) (fun t w1 => St (fpL [blk l22 (LO19 none), blk g3 (.cells #[(sv (some a57) l17 c16)] 26 (0, 0)), flgO b18 23 enc_Tile (some a57) c16 l17]) w34 w1 [rowR enc_Tile A29 c30 x28, rowR enc_Tile Aa ca p0] [blk g3 (.cells #[(sv t.2.1 t.1 t.2.2)] 26 (0, 0)), rowO 23 enc_Tile t.2.1 t.2.2 t.1, blk l22 LB20] ∧ x66 = t.1) (fun Kx66 => ?_) ?_
  ·
   rcases br_some hx67 with ⟨h68, hx67⟩ | ⟨h68, hx67⟩
   ·refine WC.condT2 (fun fb => by kernel_rfl) h68 ?_
    refine WC.region ?_
    refine sg 1 [] [3, 19] [(3, (pt g3)), (19, (sv A50 t45 c51))] (by kernel_rfl) ?_
    refine WL.store hS63 3 rfl [(0, (sv A50 t45 c51))] #[(sv A50 t45 c51)] (fun fb => by kernel_rfl) (by kernel_rfl) rfl [0, 1, 2] (by decide) (by decide) (fun w69 hS70 => ?_)
    refine ⟨trivial, ?_⟩
    refine WL.done rfl ?_
    injection hx67 with hx67
    exact WX.to Kx66 (t45, A50, c51) [3] rfl ⟨(hS70.subR [0, 1]).sub [0, 2, 3] (by decide), hx67.symm⟩
   refine WC.condF2 (fun fb => by kernel_rfl) h68 ?_
   refine WC.skip ?_
   injection hx67 with hx67
   exact WX.to Kx66 (l17, (some a57), c16) [3] rfl ⟨(hS63.subR [0, 1]).sub [3, 0, 2] (by decide), hx67.symm⟩
  rintro ⟨y74, A64, c65⟩ w71 ⟨hS72, hq73⟩
  subst hq73
  have hS75 := hS58.go w71 [flgO false 23 enc_Tile A64 c65 x66, blk g3 (.cells #[(sv A64 x66 c65)] 26 (0, 0)), blk l22 LB20] (hS72.toFlg 1 rfl false (fun h => by cases h) [0, 2] (by decide) (by decide))
  injection hf37 with hf37
  subst hf37
  exact WX.blockN (WX.roundN' hK25 (hS75.blkAt 2 rfl) ⟨(A64, c65), rfl, ((hS75.putO 2 rfl (LO19 none) [0, 1] (by decide) (by decide)).sub [0, 2, 1] (by decide)).noR.closeSep⟩)
 obtain ⟨t76, ht77, hf⟩ := bind_some hf
 refine (census_orders_1_y_calls _ p0 (census_least.b1 k ) ((true, ([] : List Tile)), (0 : Int)) g12 Aa ca l22 (fun (s_ : (Bool × (List Tile)) × Int) (t_ : (Option Addr) × Nat) => sepO (blk l22 (LO19 (pendN [] s_.2)) :: [blk g3 (.cells #[(sv t_.1 s_.1.2 t_.2)] 26 (0, 0)), flgO s_.1.1 23 enc_Tile t_.1 t_.2 s_.1.2])) (none, 0) (poolO [rowR enc_Tile Aa ca p0]) t76 _ (hS27.rdP [0]) (hS27.owT [0] 2 (by decide)) (hS27.rdT [0] 0) (hS27.io [0] (by decide)) hY31 ht77).post (fun v w78 hR79 => ?_)
 obtain ⟨tt81, rfl, hk_⟩ := hR79
 have hS80 := hS27.go w78 [(fun (s_ : (Bool × (List Tile)) × Int) (t_ : (Option Addr) × Nat) => sepO (blk l22 (LO19 (pendN [] s_.2)) :: [blk g3 (.cells #[(sv t_.1 s_.1.2 t_.2)] 26 (0, 0)), flgO s_.1.1 23 enc_Tile t_.1 t_.2 s_.1.2])) t76 tt81, blk D23 (.deferred (some [])), blk g12 (.cells #[(sv Aa p0 ca)] 26 (0, 0))] (hS27.call hk_ [0] [1, 2] (fun g hg => fpL_sel g hg) (by decide) (by decide))
 have hS82 := hS80.go w78 [blk l22 (LO19 (pendN [] t76.2)), blk g3 (.cells #[(sv tt81.1 t76.1.2 tt81.2)] 26 (0, 0)), flgO t76.1.1 23 enc_Tile tt81.1 tt81.2 t76.1.2, blk D23 (.deferred (some [])), blk g12 (.cells #[(sv Aa p0 ca)] 26 (0, 0))] (hS80.unpack 0 rfl [1, 2] (by decide) (by decide))
 refine ⟨_, hS82.blkAt 0 rfl, ?_⟩
 have hS83 := (hS82.putO 0 rfl (LX21 (pendN [] t76.2)) [1, 2, 3, 4] (by decide) (by decide)).tail
 revert hS83
 generalize World.putObj _ _ _ = w84
 intro hS83
 have hS85 := hS82.go w84 [blk g3 (.cells #[(sv tt81.1 t76.1.2 tt81.2)] 26 (0, 0)), flgO t76.1.1 23 enc_Tile tt81.1 tt81.2 t76.1.2, blk D23 (.deferred (some [])), blk g12 (.cells #[(sv Aa p0 ca)] 26 (0, 0))] (hS83)
 obtain ⟨h86, hf⟩ := as_some hf
 rw [h86]
 refine WX.keep [3, 4294967295] [(3, (pt g3)), (4294967295, (.func (.yield D23) #[] #[]))] rfl ?_
 refine WX.blockN (WX.next ?_)
 refine WC.seq (WC.region ?_)
 refine seg 2 [.v (sv tt81.1 t76.1.2 tt81.2)] [2, 4294967295] [(2, (sv tt81.1 t76.1.2 tt81.2)), (4294967295, (.func (.yield D23) #[] #[]))] [.cell ⟨g3, 0, none⟩ (sv tt81.1 t76.1.2 tt81.2)] (fun fb => by kernel_rfl) rfl ⟨hS85.cell 0 rfl 0 rfl, trivial⟩ ?_
 refine WL.done rfl (WX.next ?_)
 refine WC.ret ?_
 have hS87 := hS85.go w84 [rowO 23 enc_Tile tt81.1 tt81.2 t76.1.2, blk g3 (.cells #[(sv tt81.1 t76.1.2 tt81.2)] 26 (0, 0)), blk D23 (.deferred (some [])), blk g12 (.cells #[(sv Aa p0 ca)] 26 (0, 0))] (hS85.unFlg 1 rfl [0, 2, 3] (by decide) (by decide))
 injection hf with hf
 subst hf
 exact WX.retM hS87 2 rfl rfl [0, 1, 3] (by decide) (by decide) [] (sv tt81.1 t76.1.2 tt81.2) [] (fun fb => by kernel_rfl) (fun w89 hS88 => ⟨trivial, ⟨tt81.1, tt81.2, rfl, (hS88.sub [0] (by decide)).noR⟩⟩)
theorem census_Canon_calls (k : Nat) (p0 : List Tile) (Aa : Option Addr) (ca : Nat) (r : (List Tile) × Int) (w : World) (hR0 : RO NoS w (rowR enc_Tile Aa ca p0)) (hf : census_Canon k p0 = some r) :
  CallsR Try.prog 5 #[(sv Aa p0 ca)] w (fun v w' => ∃ (A1_ : Option Addr), ∃ (c1_ : Nat), v = (.tuple #[(sv A1_ r.1 c1_), (iv r.2)]) ∧ St NoS w w' [] [rowO 23 enc_Tile A1_ c1_ r.1]) := by
 have hS : St NoS w w [rowR enc_Tile Aa ca p0] [] := St.init (ro_cons hR0 (ro_nil _ _))
 refine enter 14 Try.func5 rfl Try.ntmps5 rfl ?_
 unfold census_Canon at hf
 refine WC.seq (WC.region ?_)
 refine sg 2 [] [0] [(0, (sv Aa p0 ca))] (by kernel_rfl) ?_
 refine WL.done rfl (WX.next (WC.seq (WC.block (WC.seq (WC.region ?_)))))
 refine sg 1 [] [0, 5] [(0, (sv Aa p0 ca)), (5, (sv Aa p0 ca))] (by kernel_rfl) ?_
 obtain ⟨t3, ht4, hf⟩ := bind_some hf
 refine WL.call (some 6) 10 #[(sv Aa p0 ca)] (fun fb => by kernel_rfl) (tile_Valid_calls _ p0 Aa ca t3 _ (hS.rd 0) ht4) (fun v w6 hR7 => ?_)
 obtain ⟨rfl, hk_⟩ := hR7
 have hS8 := hS.keepN hk_
 refine ⟨trivial, ?_⟩
 refine sg 4 [] [0, 4] [(0, (sv Aa p0 ca)), (4, (bv (!t3)))] (by kernel_rfl) ?_
 refine WL.done rfl (WX.next ?_)
 rcases br_some hf with ⟨h9, hf⟩ | ⟨h9, hf⟩
 ·refine WC.condT2 (fun fb => by kernel_rfl) h9 ?_
  refine WC.seq (WC.region ?_)
  refine sg 2 [] [2, 3] [(2, (.slice none 0 0)), (3, (iv 1))] (by kernel_rfl) ?_
  refine WL.done rfl (WX.next ?_)
  refine WC.ret ?_
  have hS10 := hS8.nilrow 23 enc_Tile
  injection hf with hf
  subst hf
  exact WX.blockR (WX.thenR (WX.ret_ [] (.tuple #[(sv none ([] : List Tile) 0), (iv 1)]) [] (fun fb => by kernel_rfl) trivial ⟨_, rfl, none, 0, rfl, (hS10.sub [0] (by decide)).noR⟩))
 refine WC.condF2 (fun fb => by kernel_rfl) h9 ?_
 refine WC.seq (WC.region ?_)
 refine sg 4 [] [0, 8] [(0, (sv Aa p0 ca)), (8, (bv (decide ((p0.length : Int) > 3))))] (by kernel_rfl) ?_
 refine WL.done rfl (WX.next ?_)
 rcases br_some hf with ⟨h11, hf⟩ | ⟨h11, hf⟩
 ·refine WC.condT2 (fun fb => by kernel_rfl) h11 ?_
  refine WC.seq (WC.region ?_)
  refine sg 2 [] [2, 3] [(2, (.slice none 0 0)), (3, (iv 2))] (by kernel_rfl) ?_
  refine WL.done rfl (WX.next ?_)
  refine WC.ret ?_
  have hS12 := hS8.nilrow 23 enc_Tile
  injection hf with hf
  subst hf
  exact WX.blockR (WX.thenR (WX.ret_ [] (.tuple #[(sv none ([] : List Tile) 0), (iv 2)]) [] (fun fb => by kernel_rfl) trivial ⟨_, rfl, none, 0, rfl, (hS12.sub [0] (by decide)).noR⟩))
 refine WC.condF2 (fun fb => by kernel_rfl) h11 ?_
 refine WC.skip ?_
 refine WX.blockN (WX.next ?_)
 refine WC.seq (WC.region ?_)
 refine sg 1 [] [12] [(12, (sv Aa p0 ca))] (by kernel_rfl) ?_
 obtain ⟨t13, ht14, hf⟩ := bind_some hf
 refine WL.call (some 13) 11 #[(sv Aa p0 ca)] (fun fb => by kernel_rfl) (census_least_calls _ p0 Aa ca t13 _ (hS8.rd 0) ht14) (fun v w15 hR16 => ?_)
 obtain ⟨A18, c19, rfl, hk_⟩ := hR16
 have hS17 := hS.go w15 [rowO 23 enc_Tile A18 c19 t13] (hS8.call hk_ [] [] (fun g hg => hg.elim) (by simp) (by decide))
 refine ⟨trivial, ?_⟩
 refine sg 4 [] [2, 3] [(2, (sv A18 t13 c19)), (3, (iv 0))] (by kernel_rfl) ?_
 refine WL.done rfl (WX.next ?_)
 refine WC.ret ?_
 injection hf with hf
 subst hf
 exact WX.ret_ [] (.tuple #[(sv A18 t13 c19), (iv 0)]) [] (fun fb => by kernel_rfl) trivial ⟨_, rfl, A18, c19, rfl, (hS17.sub [0] (by decide)).noR⟩
theorem decide_asks_calls (k : Nat) (p0 : List Tile) (Aa : Option Addr) (ca : Nat) (r : Int) (w : World) (hR0 : RO NoS w (rowR enc_Tile Aa ca p0)) (hf : decide_asks k p0 = some r) :
  CallsR Try.prog 19 #[(sv Aa p0 ca)] w (fun v w' => v = (iv r) ∧ Keeps NoS w w') := by
 have hS : St NoS w w [rowR enc_Tile Aa ca p0] [] := St.init (ro_cons hR0 (ro_nil _ _))
 refine enter 11 Try.func19 rfl Try.ntmps19 rfl ?_
 unfold decide_asks at hf
 refine WC.seq (WC.region ?_)
 refine sg 1 [] [0] [(0, (sv Aa p0 ca))] (by kernel_rfl) ?_
 refine WL.done rfl (WX.next (WC.seq (WC.block (WC.seq (WC.region ?_)))))
 refine sg 1 [] [0, 4] [(0, (sv Aa p0 ca)), (4, (sv Aa p0 ca))] (by kernel_rfl) ?_
 obtain ⟨t1, ht3, hf⟩ := bind_some hf
 refine WL.call (some 5) 10 #[(sv Aa p0 ca)] (fun fb => by kernel_rfl) (tile_Valid_calls _ p0 Aa ca t1 _ (hS.rd 0) ht3) (fun v w4 hR5 => ?_)
 obtain ⟨rfl, hk_⟩ := hR5
 have hS6 := hS.keepN hk_
 refine ⟨trivial, ?_⟩
 refine sg 4 [] [0, 3] [(0, (sv Aa p0 ca)), (3, (bv (!t1)))] (by kernel_rfl) ?_
 refine WL.done rfl (WX.next ?_)
 rcases br_some hf with ⟨h7, hf⟩ | ⟨h7, hf⟩
 ·refine WC.condT2 (fun fb => by kernel_rfl) h7 ?_
  refine WC.seq (WC.region ?_)
  refine sg 1 [] [2] [(2, (iv 1))] (by kernel_rfl) ?_
  refine WL.done rfl (WX.next ?_)
  refine WC.ret ?_
  injection hf with hf
  subst hf
  exact WX.blockR (WX.thenR (WX.ret_ [] (iv 1) [] (fun fb => by kernel_rfl) trivial ⟨_, rfl, rfl, hS6.keep⟩))
 refine WC.condF2 (fun fb => by kernel_rfl) h7 ?_
 refine WC.seq (WC.region ?_)
 refine sg 4 [] [7] [(7, (bv (decide ((p0.length : Int) > 3))))] (by kernel_rfl) ?_
 refine WL.done rfl (WX.next ?_)
 rcases br_some hf with ⟨h8, hf⟩ | ⟨h8, hf⟩
 ·refine WC.condT2 (fun fb => by kernel_rfl) h8 ?_
  refine WC.seq (WC.region ?_)
  refine sg 1 [] [2] [(2, (iv 2))] (by kernel_rfl) ?_
  refine WL.done rfl (WX.next ?_)
  refine WC.ret ?_
  injection hf with hf
  subst hf
  exact WX.blockR (WX.thenR (WX.ret_ [] (iv 2) [] (fun fb => by kernel_rfl) trivial ⟨_, rfl, rfl, hS6.keep⟩))
 refine WC.condF2 (fun fb => by kernel_rfl) h8 ?_
 refine WC.skip ?_
 refine WX.blockN (WX.next ?_)
 refine WC.seq (WC.region ?_)
 refine sg 1 [] [2] [(2, (iv 0))] (by kernel_rfl) ?_
 refine WL.done rfl (WX.next ?_)
 refine WC.ret ?_
 injection hf with hf
 subst hf
 exact WX.ret_ [] (iv 0) [] (fun fb => by kernel_rfl) trivial ⟨_, rfl, rfl, hS6.keep⟩
theorem decide_sides_calls (p0 : List Tile) (Aa : Option Addr) (ca : Nat) (r : Unit) (w : World) (hR0 : RO NoS w (rowR enc_Tile Aa ca p0)) (hf : decide_sides p0 = some r) :
  CallsR Try.prog 20 #[(sv Aa p0 ca)] w (fun v w' => ∃ (g1_ : Nat), v = (.func (.func 34) #[] #[(pt g1_)]) ∧ St NoS w w' [] [blk g1_ (.cells #[(sv Aa p0 ca)] 26 (0, 0))]) := by
 have hS : St NoS w w [rowR enc_Tile Aa ca p0] [] := St.init (ro_cons hR0 (ro_nil _ _))
 refine enter 4 Try.func20 rfl Try.ntmps20 rfl ?_
 unfold decide_sides at hf
 refine WC.seq (WC.region ?_)
 refine WL.new hS 1 [] (fun g => (pt g)) (.cells #[(sv Aa p0 ca)] 26 (0, 0)) [] (fun fb g => by kernel_rfl) trivial (fun g2 w3 hS4 => ?_)
 refine ⟨trivial, ?_⟩
 refine sg 2 [] [1] [(1, (pt g2))] (by kernel_rfl) ?_
 refine WL.done rfl (WX.next (WC.seq (WC.region ?_)))
 refine sg 2 [] [2] [(2, (.func (.func 34) #[] #[(pt g2)]))] (by kernel_rfl) ?_
 refine WL.done rfl (WX.next ?_)
 refine WC.ret ?_
 injection hf with hf
 subst hf
 exact WX.ret_ [] (.func (.func 34) #[] #[(pt g2)]) [] (fun fb => by kernel_rfl) trivial ⟨_, rfl, g2, rfl, (hS4.sub [0] (by decide)).noR⟩
theorem rows_Few_calls (k : Nat) (p0 : List Tile) (p1 : Int) (Aa : Option Addr) (ca : Nat) (r : Bool) (w : World) (hR0 : RO NoS w (rowR enc_Tile Aa ca p0)) (hf : rows_Few k p0 p1 = some r) :
  CallsR Try.prog 36 #[(sv Aa p0 ca), (iv p1)] w (fun v w' => v = (bv r) ∧ Keeps NoS w w') := by
 have hS : St NoS w w [rowR enc_Tile Aa ca p0] [] := St.init (ro_cons hR0 (ro_nil _ _))
 refine enter 17 Try.func36 rfl Try.ntmps36 rfl ?_
 unfold rows_Few at hf
 refine WC.seq (WC.region ?_)
 refine sg 1 [] [0, 1] [(0, (sv Aa p0 ca)), (1, (iv p1))] (by kernel_rfl) ?_
 refine WL.done rfl (WX.next (WC.seq (WC.region ?_)))
 refine sg 1 [] [0, 1, 5] [(0, (sv Aa p0 ca)), (1, (iv p1)), (5, (iv 1))] (by kernel_rfl) ?_
 refine WL.done rfl (WX.next (WC.seq (WC.seq (WC.region ?_))))
 refine sg 2 [] [0, 5, 6, 7] [(0, (sv Aa p0 ca)), (5, (iv 1)), (6, (iv p1)), (7, (iv 0))] (by kernel_rfl) ?_
 refine WL.done rfl (WX.next ?_)
 obtain ⟨x5, hx6, hf⟩ := bind_some hf
 refine WC.cutN (T := Unit) (fun t => []) (fun t w1 => St NoS w w1 [rowR enc_Tile Aa ca p0] [] ∧ x5 = .inr t) (fun Kx5 => ?_) ?_
 ·
  refine WC.block ?_
  refine WC.loop (T := Int × Int) (fun t => [(0, (sv Aa p0 ca)), (5, (iv t.1)), (6, (iv p1)), (7, (iv t.2))]) (fun n t w1 => St NoS w w1 [rowR enc_Tile Aa ca p0] [] ∧ rows_Few.l0 n t.1 t.2 p0 p1 = some x5) k (1, 0) [0, 5, 6, 7] rfl ⟨(hS.subR [0]).sub [] (by decide), hx6⟩ ?_
  rintro k7 ⟨x3, x4⟩ w8 ⟨hS9, hl10⟩
  cases k7 with
  | zero => rw [rows_Few.l0] at hl10; cases hl10
  | succ k7 =>
   rw [rows_Few.l0] at hl10
   refine WC.seq (WC.region ?_)
   refine sg 1 [] [0, 5, 6, 7, 8] [(0, (sv Aa p0 ca)), (5, (iv x3)), (6, (iv p1)), (7, (iv x4)), (8, (bv (decide (x4 < p1))))] (by kernel_rfl) ?_
   refine WL.done rfl (WX.next (WC.seq ?_))
   rcases br_some hl10 with ⟨h11, hl10⟩ | ⟨h11, hl10⟩
   ·refine WC.condT2 (fun fb => by kernel_rfl) h11 ?_
    refine WC.skip (WX.next (WC.seq (WC.block (WC.seq (WC.region ?_)))))
    refine sg 6 [] [0, 5, 6, 7] [(0, (sv Aa p0 ca)), (5, (iv (w64 (x3 * (maxI (p0.length : Int) 1))))), (6, (iv p1)), (7, (iv x4))] (by kernel_rfl) ?_
    refine WL.done rfl (WX.next (WC.seq (WC.region ?_)))
    refine sg 2 [] [0, 5, 6, 7, 15] [(0, (sv Aa p0 ca)), (5, (iv (w64 (x3 * (maxI (p0.length : Int) 1))))), (6, (iv p1)), (7, (iv x4)), (15, (bv (decide (w64 (x3 * (maxI (p0.length : Int) 1)) > 5000))))] (by kernel_rfl) ?_
    refine WL.done rfl (WX.next ?_)
    rcases br_some hl10 with ⟨h12, hl10⟩ | ⟨h12, hl10⟩
    ·refine WC.condT2 (fun fb => by kernel_rfl) h12 ?_
     refine WC.seq (WC.region ?_)
     refine sg 1 [] [4] [(4, (bv false))] (by kernel_rfl) ?_
     refine WL.done rfl (WX.next ?_)
     refine WC.ret ?_
     injection hl10 with hl10
     subst hl10
     injection hf with hf
     subst hf
     exact WX.blockR (WX.thenR (WX.thenR (WX.blockR (WX.thenR (WX.ret_ [] (bv false) [] (fun fb => by kernel_rfl) trivial ⟨_, rfl, rfl, hS9.keep⟩)))))
    refine WC.condF2 (fun fb => by kernel_rfl) h12 ?_
    refine WC.skip ?_
    refine WX.blockN (WX.next ?_)
    refine WC.region ?_
    refine sg 2 [] [0, 5, 6, 7] [(0, (sv Aa p0 ca)), (5, (iv (w64 (x3 * (maxI (p0.length : Int) 1))))), (6, (iv p1)), (7, (iv (w64 (x4 + 1))))] (by kernel_rfl) ?_
    refine WL.done rfl ?_
    exact WX.again k7 (Nat.lt_succ_self _) (w64 (x3 * (maxI (p0.length : Int) 1)), w64 (x4 + 1)) [0, 5, 6, 7] rfl ⟨(hS9.subR [0]).sub [] (by decide), hl10⟩
   refine WC.condF2 (fun fb => by kernel_rfl) h11 ?_
   refine WC.exit ?_
   injection hl10 with hl10
   exact WX.thenX (WX.thenX (WX.blockHere (WX.to Kx5 () [] rfl ⟨(hS9.subR [0]).sub [] (by decide), hl10.symm⟩)))
 rintro y16 w13 ⟨hS14, hq15⟩
 subst hq15
 have hf := sum_inr hf
 refine WX.next (WC.seq (WC.region ?_))
 refine sg 1 [] [4] [(4, (bv true))] (by kernel_rfl) ?_
 refine WL.done rfl (WX.next ?_)
 refine WC.ret ?_
 injection hf with hf
 subst hf
 exact WX.ret_ [] (bv true) [] (fun fb => by kernel_rfl) trivial ⟨_, rfl, rfl, hS14.keep⟩
theorem square_check_calls (k : Nat) (p0 : List Tile) (p1 : Int) (Aa : Option Addr) (ca : Nat) (r : Int) (w : World) (hR0 : RO NoS w (rowR enc_Tile Aa ca p0)) (hf : square_check k p0 p1 = some r) :
  CallsR Try.prog 43 #[(sv Aa p0 ca), (iv p1)] w (fun v w' => v = (iv r) ∧ Keeps NoS w w') := by
 have hS : St NoS w w [rowR enc_Tile Aa ca p0] [] := St.init (ro_cons hR0 (ro_nil _ _))
 refine enter 21 Try.func43 rfl Try.ntmps43 rfl ?_
 unfold square_check at hf
 refine WC.seq (WC.region ?_)
 refine sg 1 [] [0, 1] [(0, (sv Aa p0 ca)), (1, (iv p1))] (by kernel_rfl) ?_
 refine WL.done rfl (WX.next (WC.seq (WC.block (WC.seq (WC.region ?_)))))
 refine sg 1 [] [0, 1, 6] [(0, (sv Aa p0 ca)), (1, (iv p1)), (6, (sv Aa p0 ca))] (by kernel_rfl) ?_
 obtain ⟨t3, ht4, hf⟩ := bind_some hf
 refine WL.call (some 7) 10 #[(sv Aa p0 ca)] (fun fb => by kernel_rfl) (tile_Valid_calls _ p0 Aa ca t3 _ (hS.rd 0) ht4) (fun v w5 hR6 => ?_)
 obtain ⟨rfl, hk_⟩ := hR6
 have hS7 := hS.keepN hk_
 refine ⟨trivial, ?_⟩
 refine sg 4 [] [0, 1, 5] [(0, (sv Aa p0 ca)), (1, (iv p1)), (5, (bv (!t3)))] (by kernel_rfl) ?_
 refine WL.done rfl (WX.next ?_)
 rcases br_some hf with ⟨h8, hf⟩ | ⟨h8, hf⟩
 ·refine WC.condT2 (fun fb => by kernel_rfl) h8 ?_
  refine WC.seq (WC.region ?_)
  refine sg 1 [] [4] [(4, (iv 1))] (by kernel_rfl) ?_
  refine WL.done rfl (WX.next ?_)
  refine WC.ret ?_
  injection hf with hf
  subst hf
  exact WX.blockR (WX.thenR (WX.ret_ [] (iv 1) [] (fun fb => by kernel_rfl) trivial ⟨_, rfl, rfl, hS7.keep⟩))
 refine WC.condF2 (fun fb => by kernel_rfl) h8 ?_
 refine WC.seq (WC.region ?_)
 refine sg 3 [] [0, 1, 12] [(0, (sv Aa p0 ca)), (1, (iv p1)), (12, (bv (decide (p1 < 1))))] (by kernel_rfl) ?_
 refine WL.cutV (T := Bool) 6 (fun t => [(15, (bv t)), (0, (sv Aa p0 ca)), (1, (iv p1))]) (fun t => ((decide (p1 < 1)) || (decide (p1 > 8))) = t) (fun K => ?_) ?_
 ·
  rcases Bool.eq_false_or_eq_true (decide (p1 < 1)) with h9 | h9
  ·
   refine WL.setB 12 h9 rfl ?_
   refine sg 6 [] [0, 1, 15] [(0, (sv Aa p0 ca)), (1, (iv p1)), (15, (bv true))] (by kernel_rfl) ?_
   exact WL.toV K true [15, 0, 1] rfl (by first | (rw [h9]; done) | (rw [h9]; rfl))
  refine WL.setB 12 h9 rfl ?_
  refine sg 6 [] [0, 1, 15] [(0, (sv Aa p0 ca)), (1, (iv p1)), (15, (bv (decide (p1 > 8))))] (by kernel_rfl) ?_
  exact WL.toV K (decide (p1 > 8)) [15, 0, 1] rfl (by first | (rw [h9]; done) | (rw [h9]; rfl))
 rintro b10 rfl
 refine sg 7 [] [0, 1, 9] [(0, (sv Aa p0 ca)), (1, (iv p1)), (9, (bv ((decide (p1 < 1)) || (decide (p1 > 8)))))] (by kernel_rfl) ?_
 refine WL.done rfl (WX.next ?_)
 rcases br_some hf with ⟨h11, hf⟩ | ⟨h11, hf⟩
 ·refine WC.condT2 (fun fb => by kernel_rfl) h11 ?_
  refine WC.seq (WC.region ?_)
  refine sg 1 [] [4] [(4, (iv 2))] (by kernel_rfl) ?_
  refine WL.done rfl (WX.next ?_)
  refine WC.ret ?_
  injection hf with hf
  subst hf
  exact WX.blockR (WX.thenR (WX.ret_ [] (iv 2) [] (fun fb => by kernel_rfl) trivial ⟨_, rfl, rfl, hS7.keep⟩))
 refine WC.condF2 (fun fb => by kernel_rfl) h11 ?_
 refine WC.seq (WC.region ?_)
 refine sg 2 [] [17, 18] [(17, (sv Aa p0 ca)), (18, (iv p1))] (by kernel_rfl) ?_
 obtain ⟨t12, ht13, hf⟩ := bind_some hf
 refine WL.call (some 19) 36 #[(sv Aa p0 ca), (iv p1)] (fun fb => by kernel_rfl) (rows_Few_calls _ p0 p1 Aa ca t12 _ (hS7.rd 0) ht13) (fun v w14 hR15 => ?_)
 obtain ⟨rfl, hk_⟩ := hR15
 have hS16 := hS7.keepN hk_
 refine ⟨trivial, ?_⟩
 refine sg 5 [] [16] [(16, (bv (!t12)))] (by kernel_rfl) ?_
 refine WL.done rfl (WX.next ?_)
 rcases br_some hf with ⟨h17, hf⟩ | ⟨h17, hf⟩
 ·refine WC.condT2 (fun fb => by kernel_rfl) h17 ?_
  refine WC.seq (WC.region ?_)
  refine sg 1 [] [4] [(4, (iv 4))] (by kernel_rfl) ?_
  refine WL.done rfl (WX.next ?_)
  refine WC.ret ?_
  injection hf with hf
  subst hf
  exact WX.blockR (WX.thenR (WX.ret_ [] (iv 4) [] (fun fb => by kernel_rfl) trivial ⟨_, rfl, rfl, hS16.keep⟩))
 refine WC.condF2 (fun fb => by kernel_rfl) h17 ?_
 refine WC.skip ?_
 refine WX.blockN (WX.next ?_)
 refine WC.seq (WC.region ?_)
 refine sg 1 [] [4] [(4, (iv 0))] (by kernel_rfl) ?_
 refine WL.done rfl (WX.next ?_)
 refine WC.ret ?_
 injection hf with hf
 subst hf
 exact WX.ret_ [] (iv 0) [] (fun fb => by kernel_rfl) trivial ⟨_, rfl, rfl, hS16.keep⟩
end Gp
