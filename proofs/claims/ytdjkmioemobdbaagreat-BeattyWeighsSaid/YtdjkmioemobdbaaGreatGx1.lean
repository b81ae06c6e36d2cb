/- Walks: each function of the program computes its plain function. -/
import Derived.Test.YtdjkmioemobdbaaGreatGx0
set_option linter.unusedVariables false
set_option linter.unusedSimpArgs false
set_option maxHeartbeats 4000000
set_option maxRecDepth 8000
namespace Gp
open Go Gw Go.Proofs
theorem beatty_marks_key135 : KeyK Tryz.prog 135 (aggI ints_Mark) := KeyK.struct (n := 4) (by kernel_rfl) ints_Mark (fun _ => rfl) (fun x y h => by cases x; cases y; simp only [ints_Mark, List.cons.injEq, and_true] at h; obtain ⟨rfl, rfl, rfl, rfl⟩ := h; rfl)
theorem beatty_marks_calls (k : Nat) (p0 : Piece)  (r : (List Mark)) (w : World)  (hf : beatty_marks k p0 = some r) :
  CallsR Tryz.prog 87 #[(.agg #[(iv p0.Factor.Num), (iv p0.Factor.Den), (iv p0.Low.Num), (iv p0.Low.Den), (iv p0.High.Num), (iv p0.High.Den)])] w (fun v w' => ∃ (A1_ : Option Addr), ∃ (c1_ : Nat), v = (sv A1_ r c1_) ∧ St NoS w w' [] [rowO 135 enc_Mark A1_ c1_ r]) := by
 have hS : St NoS w w [] [] := St.init (ro_nil _ _)
 refine enter 118 Tryz.func87 rfl Tryz.ntmps87 rfl ?_
 unfold beatty_marks at hf
 refine WC.seq (WC.region ?_)
 refine WL.new hS 1 [] (fun g => (pt g)) (.cells #[(iv p0.Factor.Num), (iv p0.Factor.Den), (iv p0.Low.Num), (iv p0.Low.Den), (iv p0.High.Num), (iv p0.High.Den)] 66 (0, 0)) [] (fun fb g => by kernel_rfl) trivial (fun g4 w5 hS6 => ?_)
 refine ⟨trivial, ?_⟩
 refine sg 2 [] [1] [(1, (pt g4))] (by kernel_rfl) ?_
 refine WL.done rfl (WX.next (WC.seq (WC.region ?_)))
 refine seg 2 [.v (iv p0.Factor.Num), .v (iv p0.Factor.Den)] [1, 15] [(1, (pt g4)), (15, (.agg #[(iv p0.Factor.Num), (iv p0.Factor.Den)]))] [.cell ⟨g4, 0, none⟩ (iv p0.Factor.Num), .cell ⟨g4, 1, none⟩ (iv p0.Factor.Den)] (fun fb => by kernel_rfl) rfl ⟨hS6.cell 0 rfl 0 rfl, hS6.cell 0 rfl 1 rfl, trivial⟩ ?_
 refine WL.new hS6 3 [] (fun g => (pt g)) (.cells #[(iv 0), (iv 0)] 44 (0, 0)) [] (fun fb g => by kernel_rfl) trivial (fun g7 w8 hS9 => ?_)
 refine ⟨trivial, ?_⟩
 refine WL.store hS9 0 rfl [(0, (iv p0.Factor.Num)), (1, (iv p0.Factor.Den))] #[(iv p0.Factor.Num), (iv p0.Factor.Den)] (fun fb => by kernel_rfl) (by kernel_rfl) rfl [1] (by decide) (by decide) (fun w10 hS11 => ?_)
 refine ⟨trivial, ?_⟩
 refine WL.done rfl (WX.next (WC.seq (WC.region ?_)))
 refine sg 2 [] [1, 3, 4] [(1, (pt g4)), (3, (pt g7)), (4, (.func (.func 102) #[] #[(pt g7)]))] (by kernel_rfl) ?_
 refine WL.done rfl (WX.next (WC.seq (WC.region ?_)))
 refine WL.new hS11 17 [] (fun g => (.map (some g))) (mapObj (aggI ints_Mark) vB ([] : List (Mark × Bool))) [] (fun fb g => by kernel_rfl) trivial (fun g12 w13 hS14 => ?_)
 refine ⟨trivial, ?_⟩
 refine sg 2 [] [1, 3, 4, 5] [(1, (pt g4)), (3, (pt g7)), (4, (.func (.func 102) #[] #[(pt g7)])), (5, (.map (some g12)))] (by kernel_rfl) ?_
 refine WL.done rfl (WX.next (WC.seq (WC.seq (WC.region ?_))))
 refine seg 3 [.v (iv p0.Factor.Den)] [1, 3, 4, 5, 19, 20] [(1, (pt g4)), (3, (pt g7)), (4, (.func (.func 102) #[] #[(pt g7)])), (5, (.map (some g12))), (19, (iv p0.Factor.Den)), (20, (iv 0))] [.cell ⟨g7, 1, none⟩ (iv p0.Factor.Den)] (fun fb => by kernel_rfl) rfl ⟨hS14.cell 1 rfl 1 rfl, trivial⟩ ?_
 refine WL.done rfl (WX.next ?_)
 obtain ⟨x17, hx18, hf⟩ := bind_some hf
 let e1 : Array Value := #[(iv p0.Factor.Num), (iv p0.Factor.Den), (iv p0.Low.Num), (iv p0.Low.Den), (iv p0.High.Num), (iv p0.High.Den)]
 let e2 := iv p0.Factor.Den
 let e3 := iv p0.Factor.Num
 let e6 : Nat × Value := (1, (pt g4))
 let e7 : Nat × Value := (3, (pt g7))
 let e9 : Array Value := #[(pt g7)]
 let e10 := some g12
 let e12 : List Nat := [1, 3, 4, 5, 6, 7, 8, 9, 10, 19, 20, 42]
 let e14 := List (Mark × Bool)
 let e17 : List Nat := [1, 3, 4, 5, 6, 7, 8, 19, 20, 42]
 let e18 := aggI ints_Mark
 let e20 : List Nat := [1, 3, 4, 5, 6, 7, 19, 20]
 let e24 : List Nat := [1, 3, 4, 5, 19, 20]
 refine WC.cutN (T := e14) (fun t => [(5, (.map e10))]) (fun t w1 => St NoS w w1 [] [blk g12 (mapObj e18 vB t)] ∧ x17 = t) (fun Kx17 => ?_) ?_
 ·
  refine WC.block ?_
  refine WC.loop (T := e14 × Int) (fun t => [e6, e7, (4, (.func (.func 102) #[] e9)), (5, (.map e10)), (19, e2), (20, (iv t.2))]) (fun n t w1 => St NoS w w1 [] [blk g4 (.cells e1 66 (0, 0)), blk g7 (.cells #[e3, e2] 44 (0, 0)), blk g12 (mapObj e18 vB t.1)] ∧ beatty_marks.l0 n t.1 t.2 p0 = some x17) k (([] : List (Mark × Bool)), 0) e24 rfl ⟨(hS14.subR []).sub [2, 1, 0] (by decide), hx18⟩ ?_
  rintro k19 ⟨l15, x16⟩ w20 ⟨hS21, hl22⟩
  let e5 : Nat × Value := (20, (iv x16))
  let e8 : Nat × Value := (6, (iv x16))
  cases k19 with
  | zero => rw [beatty_marks.l0] at hl22; cases hl22
  | succ k19 =>
   rw [beatty_marks.l0] at hl22
   refine WC.seq (WC.region ?_)
   refine sg 1 [] [1, 3, 4, 5, 19, 20, 21] [e6, e7, (4, (.func (.func 102) #[] e9)), (5, (.map e10)), (19, e2), e5, (21, (bv (decide (x16 < p0.Factor.Den))))] (by kernel_rfl) ?_
   refine WL.done rfl (WX.next (WC.seq ?_))
   rcases br_some hl22 with ⟨h23, hl22⟩ | ⟨h23, hl22⟩
   ·refine WC.condT2 (fun fb => by kernel_rfl) h23 ?_
    refine WC.skip (WX.next (WC.seq (WC.block (WC.seq (WC.region ?_)))))
    refine sg 2 [] [1, 3, 4, 5, 6, 19, 20] [e6, e7, (4, (.func (.func 102) #[] e9)), (5, (.map e10)), e8, (19, e2), e5] (by kernel_rfl) ?_
    refine WL.done rfl (WX.next (WC.seq (WC.region ?_)))
    refine sg 2 [] [1, 3, 4, 5, 6, 19, 20, 23, 24] [e6, e7, (4, (.func (.func 102) #[] e9)), (5, (.map e10)), e8, (19, e2), e5, (23, (.func (.func 102) #[] e9)), (24, (iv x16))] (by kernel_rfl) ?_
    obtain ⟨t24, ht25, hl22⟩ := bind_some hl22
    refine WL.call (some 25) 102 #[(iv x16), (pt g7)] (fun fb => by kernel_rfl) (beatty_marks_1_calls x16 p0.Factor g7 t24 _ (hS21.ow 1) ht25) (fun v w26 hR27 => ?_)
    obtain ⟨rfl, hk_⟩ := hR27
    have hS28 := hS21.keepN hk_
    refine ⟨trivial, ?_⟩
    refine sg 4 [] e20 [e6, e7, (4, (.func (.func 102) #[] e9)), (5, (.map e10)), e8, (7, (iv t24)), (19, e2), e5] (by kernel_rfl) ?_
    refine WL.done rfl (WX.next ?_)
    obtain ⟨x31, hx32, hl22⟩ := bind_some hl22
    refine WC.cutN (T := e14) (fun t => [e6, e7, (4, (.func (.func 102) #[] e9)), (5, (.map e10)), (19, e2), e5]) (fun t w1 => St NoS w w1 [] [blk g4 (.cells e1 66 (0, 0)), blk g7 (.cells #[e3, e2] 44 (0, 0)), blk g12 (mapObj e18 vB t)] ∧ x31 = t) (fun Kx31 => ?_) ?_
    ·
     refine WC.block ?_
     refine WC.loop (T := e14 × Int) (fun t => [e6, e7, (4, (.func (.func 102) #[] e9)), (5, (.map e10)), e8, (7, (iv t.2)), (19, e2), e5]) (fun n t w1 => St NoS w w1 [] [blk g4 (.cells e1 66 (0, 0)), blk g7 (.cells #[e3, e2] 44 (0, 0)), blk g12 (mapObj e18 vB t.1)] ∧ beatty_marks.l1 n t.1 t.2 p0 x16 = some x31) k19 (l15, t24) e20 rfl ⟨(hS28.subR []).sub [0, 1, 2] (by decide), hx32⟩ ?_
     rintro k33 ⟨l29, x30⟩ w34 ⟨hS35, hl36⟩
     let e11 : Nat × Value := (7, (iv x30))
     let e23 := w64 ((w64 (x16 * p0.Factor.Num)) - (w64 (x30 * p0.Factor.Den)))
     cases k33 with
     | zero => rw [beatty_marks.l1] at hl36; cases hl36
     | succ k33 =>
      rw [beatty_marks.l1] at hl36
      refine WC.seq (WC.seq (WC.region ?_))
      refine sg 4 [] [1, 3, 4, 5, 6, 7, 19, 20, 26, 27, 29] [e6, e7, (4, (.func (.func 102) #[] e9)), (5, (.map e10)), e8, e11, (19, e2), e5, (26, (iv x30)), (27, (.func (.func 102) #[] e9)), (29, (iv (w64 (x16 + 1))))] (by kernel_rfl) ?_
      obtain ⟨t37, ht38, hl36⟩ := bind_some hl36
      refine WL.call (some 30) 102 #[(iv (w64 (x16 + 1))), (pt g7)] (fun fb => by kernel_rfl) (beatty_marks_1_calls (w64 (x16 + 1)) p0.Factor g7 t37 _ (hS35.ow 1) ht38) (fun v w39 hR40 => ?_)
      obtain ⟨rfl, hk_⟩ := hR40
      have hS41 := hS35.keepN hk_
      refine ⟨trivial, ?_⟩
      refine sg 6 [] [1, 3, 4, 5, 6, 7, 19, 20, 31] [e6, e7, (4, (.func (.func 102) #[] e9)), (5, (.map e10)), e8, e11, (19, e2), e5, (31, (bv (decide (x30 ≤ t37))))] (by kernel_rfl) ?_
      refine WL.done rfl (WX.next ?_)
      rcases br_some hl36 with ⟨h42, hl36⟩ | ⟨h42, hl36⟩
      ·refine WC.condT2 (fun fb => by kernel_rfl) h42 ?_
       refine WC.skip (WX.next (WC.seq (WC.block (WC.seq (WC.region ?_)))))
       refine seg 6 [.v e3, .v e2] [1, 3, 4, 5, 6, 7, 19, 20, 36, 37, 38, 39] [e6, e7, (4, (.func (.func 102) #[] e9)), (5, (.map e10)), e8, e11, (19, e2), e5, (36, (.agg #[(iv 0), (iv 1), (iv 1), (iv 1)])), (37, (.agg #[e3, e2])), (38, (iv x16)), (39, (iv x30))] [.cell ⟨g7, 0, none⟩ e3, .cell ⟨g7, 1, none⟩ e2] (fun fb => by kernel_rfl) rfl ⟨hS41.cell 1 rfl 0 rfl, hS41.cell 1 rfl 1 rfl, trivial⟩ ?_
       obtain ⟨t43, ht44, hl36⟩ := bind_some hl36
       refine WL.call (some 40) 104 #[(.agg #[e3, e2]), (iv x16), (iv x30)] (fun fb => by kernel_rfl) (beatty_cuts_calls p0.Factor x16 x30 t43 _ ht44) (fun v w45 hR46 => ?_)
       obtain ⟨rfl, hk_⟩ := hR46
       have hS47 := hS41.keepN hk_
       refine ⟨trivial, ?_⟩
       obtain ⟨t48, ht49, hl36⟩ := bind_some hl36
       refine WL.call (some 41) 103 #[(.agg #[(iv 0), (iv 1), (iv 1), (iv 1)]), (.agg #[(iv t43.from_.n), (iv t43.from_.d), (iv t43.to.n), (iv t43.to.d)])] (fun fb => by kernel_rfl) (beatty_both_calls (Span.mk (Ratio.mk 0 1) (Ratio.mk 1 1)) t43 t48 _ ht49) (fun v w50 hR51 => ?_)
       obtain ⟨rfl, hk_⟩ := hR51
       have hS52 := hS47.keepN hk_
       refine ⟨trivial, ?_⟩
       refine WL.new hS52 8 [] (fun g => (pt g)) (.cells #[(iv 0), (iv 0), (iv 0), (iv 0)] 152 (0, 0)) [] (fun fb g => by kernel_rfl) trivial (fun g53 w54 hS55 => ?_)
       refine ⟨trivial, ?_⟩
       refine WL.store hS55 0 rfl [(0, (iv t48.from_.n)), (1, (iv t48.from_.d)), (2, (iv t48.to.n)), (3, (iv t48.to.d))] #[(iv t48.from_.n), (iv t48.from_.d), (iv t48.to.n), (iv t48.to.d)] (fun fb => by kernel_rfl) (by kernel_rfl) rfl [1, 2, 3] (by decide) (by decide) (fun w56 hS57 => ?_)
       refine ⟨trivial, ?_⟩
       refine WL.done rfl (WX.next (WC.seq (WC.region ?_)))
       refine sg 1 [] e17 [e6, e7, (4, (.func (.func 102) #[] e9)), (5, (.map e10)), e8, e11, (8, (pt g53)), (19, e2), e5, (42, (iv 0))] (by kernel_rfl) ?_
       refine WL.done rfl (WX.next ?_)
       obtain ⟨x60, hx61, hl36⟩ := bind_some hl36
       let e4 : Array Value := #[(iv t48.from_.n), (iv t48.from_.d), (iv t48.to.n), (iv t48.to.d)]
       let e15 : Nat × Value := (8, (pt g53))
       refine WC.cutN (T := e14) (fun t => [e6, e7, (4, (.func (.func 102) #[] e9)), (5, (.map e10)), e8, e11, (19, e2), e5]) (fun t w1 => St NoS w w1 [] [blk g4 (.cells e1 66 (0, 0)), blk g7 (.cells #[e3, e2] 44 (0, 0)), blk g12 (mapObj e18 vB t)] ∧ x60 = t) (fun Kx60 => ?_) ?_
       ·
        refine WC.block ?_
        refine WC.loop (T := e14 × Int) (fun t => [e6, e7, (4, (.func (.func 102) #[] e9)), (5, (.map e10)), e8, e11, e15, (19, e2), e5, (42, (iv t.2))]) (fun n t w1 => St NoS w w1 [] [blk g4 (.cells e1 66 (0, 0)), blk g7 (.cells #[e3, e2] 44 (0, 0)), blk g12 (mapObj e18 vB t.1), blk g53 (.cells e4 152 (0, 0))] ∧ beatty_marks.l2 n t.1 t.2 p0 x16 x30 t48 = some x60) k33 (l29, 0) e17 rfl ⟨(hS57.subR []).sub [1, 2, 3, 0] (by decide), hx61⟩ ?_
        rintro k62 ⟨l58, x59⟩ w63 ⟨hS65, hl66⟩
        let e16 : Nat × Value := (42, (iv x59))
        let e19 : Nat × Value := (9, (iv x59))
        let e21 := w64 (x16 + x59)
        cases k62 with
        | zero => rw [beatty_marks.l2] at hl66; cases hl66
        | succ k62 =>
         rw [beatty_marks.l2] at hl66
         refine WC.seq (WC.region ?_)
         refine sg 1 [] [1, 3, 4, 5, 6, 7, 8, 19, 20, 42, 43] [e6, e7, (4, (.func (.func 102) #[] e9)), (5, (.map e10)), e8, e11, e15, (19, e2), e5, e16, (43, (bv (decide (x59 < 13))))] (by kernel_rfl) ?_
         refine WL.done rfl (WX.next (WC.seq ?_))
         rcases br_some hl66 with ⟨h67, hl66⟩ | ⟨h67, hl66⟩
         ·refine WC.condT2 (fun fb => by kernel_rfl) h67 ?_
          refine WC.skip (WX.next (WC.seq (WC.block (WC.seq (WC.region ?_)))))
          refine sg 2 [] [1, 3, 4, 5, 6, 7, 8, 9, 19, 20, 42] [e6, e7, (4, (.func (.func 102) #[] e9)), (5, (.map e10)), e8, e11, e15, e19, (19, e2), e5, e16] (by kernel_rfl) ?_
          refine WL.done rfl (WX.next (WC.seq (WC.region ?_)))
          refine sg 5 [] [1, 3, 4, 5, 6, 7, 8, 9, 19, 20, 42, 45, 46, 49] [e6, e7, (4, (.func (.func 102) #[] e9)), (5, (.map e10)), e8, e11, e15, e19, (19, e2), e5, e16, (45, (iv x30)), (46, (.func (.func 102) #[] e9)), (49, (iv e21))] (by kernel_rfl) ?_
          obtain ⟨t68, ht69, hl66⟩ := bind_some hl66
          refine WL.call (some 50) 102 #[(iv e21), (pt g7)] (fun fb => by kernel_rfl) (beatty_marks_1_calls e21 p0.Factor g7 t68 _ (hS65.ow 1) ht69) (fun v w70 hR71 => ?_)
          obtain ⟨rfl, hk_⟩ := hR71
          have hS72 := hS65.keepN hk_
          refine ⟨trivial, ?_⟩
          refine sg 8 [] e12 [e6, e7, (4, (.func (.func 102) #[] e9)), (5, (.map e10)), e8, e11, e15, e19, (10, (iv (maxI x30 t68))), (19, e2), e5, e16] (by kernel_rfl) ?_
          refine WL.done rfl (WX.next ?_)
          obtain ⟨x75, hx76, hl66⟩ := bind_some hl66
          refine WC.cutN (T := e14) (fun t => [e6, e7, (4, (.func (.func 102) #[] e9)), (5, (.map e10)), e8, e11, e15, (19, e2), e5, e16]) (fun t w1 => St NoS w w1 [] [blk g4 (.cells e1 66 (0, 0)), blk g7 (.cells #[e3, e2] 44 (0, 0)), blk g12 (mapObj e18 vB t), blk g53 (.cells e4 152 (0, 0))] ∧ x75 = t) (fun Kx75 => ?_) ?_
          ·
           refine WC.block ?_
           refine WC.loop (T := e14 × Int) (fun t => [e6, e7, (4, (.func (.func 102) #[] e9)), (5, (.map e10)), e8, e11, e15, e19, (10, (iv t.2)), (19, e2), e5, e16]) (fun n t w1 => St NoS w w1 [] [blk g4 (.cells e1 66 (0, 0)), blk g7 (.cells #[e3, e2] 44 (0, 0)), blk g12 (mapObj e18 vB t.1), blk g53 (.cells e4 152 (0, 0))] ∧ beatty_marks.l3 n t.1 t.2 p0 x16 x30 t48 x59 = some x75) k62 (l58, maxI x30 t68) e12 rfl ⟨(hS72.subR []).sub [0, 1, 2, 3] (by decide), hx76⟩ ?_
           rintro k77 ⟨l73, x74⟩ w78 ⟨hS79, hl80⟩
           let e13 := Mark.mk x59 (w64 (x74 - x30)) e23 (w64 ((w64 (e21 * p0.Factor.Num)) - (w64 (x74 * p0.Factor.Den))))
           cases k77 with
           | zero => rw [beatty_marks.l3] at hl80; cases hl80
           | succ k77 =>
            rw [beatty_marks.l3] at hl80
            refine WC.seq (WC.seq (WC.region ?_))
            refine sg 6 [] [1, 3, 4, 5, 6, 7, 8, 9, 10, 19, 20, 42, 52, 53, 57] [e6, e7, (4, (.func (.func 102) #[] e9)), (5, (.map e10)), e8, e11, e15, e19, (10, (iv x74)), (19, e2), e5, e16, (52, (iv x74)), (53, (.func (.func 102) #[] e9)), (57, (iv (w64 (e21 + 1))))] (by kernel_rfl) ?_
            obtain ⟨t81, ht82, hl80⟩ := bind_some hl80
            refine WL.call (some 58) 102 #[(iv (w64 (e21 + 1))), (pt g7)] (fun fb => by kernel_rfl) (beatty_marks_1_calls (w64 (e21 + 1)) p0.Factor g7 t81 _ (hS79.ow 1) ht82) (fun v w83 hR84 => ?_)
            obtain ⟨rfl, hk_⟩ := hR84
            have hS85 := hS79.keepN hk_
            refine ⟨trivial, ?_⟩
            refine sg 8 [] [1, 3, 4, 5, 6, 7, 8, 9, 10, 19, 20, 42, 59] [e6, e7, (4, (.func (.func 102) #[] e9)), (5, (.map e10)), e8, e11, e15, e19, (10, (iv x74)), (19, e2), e5, e16, (59, (bv (decide (x74 ≤ t81))))] (by kernel_rfl) ?_
            refine WL.done rfl (WX.next ?_)
            rcases br_some hl80 with ⟨h86, hl80⟩ | ⟨h86, hl80⟩
            ·refine WC.condT2 (fun fb => by kernel_rfl) h86 ?_
             refine WC.skip (WX.next (WC.seq (WC.block (WC.seq (WC.region ?_)))))
             refine seg 9 [.v e3, .v e2] [1, 3, 4, 5, 6, 7, 8, 9, 10, 19, 20, 42, 67, 68, 69, 70] [e6, e7, (4, (.func (.func 102) #[] e9)), (5, (.map e10)), e8, e11, e15, e19, (10, (iv x74)), (19, e2), e5, e16, (67, (.agg #[(iv x59), (iv 1), (iv (w64 (x59 + 1))), (iv 1)])), (68, (.agg #[e3, e2])), (69, (iv x16)), (70, (iv x74))] [.cell ⟨g7, 0, none⟩ e3, .cell ⟨g7, 1, none⟩ e2] (fun fb => by kernel_rfl) rfl ⟨hS85.cell 1 rfl 0 rfl, hS85.cell 1 rfl 1 rfl, trivial⟩ ?_
             obtain ⟨t88, ht89, hl80⟩ := bind_some hl80
             refine WL.call (some 71) 104 #[(.agg #[e3, e2]), (iv x16), (iv x74)] (fun fb => by kernel_rfl) (beatty_cuts_calls p0.Factor x16 x74 t88 _ ht89) (fun v w90 hR91 => ?_)
             obtain ⟨rfl, hk_⟩ := hR91
             have hS92 := hS85.keepN hk_
             refine ⟨trivial, ?_⟩
             obtain ⟨t93, ht94, hl80⟩ := bind_some hl80
             refine WL.call (some 72) 103 #[(.agg #[(iv x59), (iv 1), (iv (w64 (x59 + 1))), (iv 1)]), (.agg #[(iv t88.from_.n), (iv t88.from_.d), (iv t88.to.n), (iv t88.to.d)])] (fun fb => by kernel_rfl) (beatty_both_calls (Span.mk (Ratio.mk x59 1) (Ratio.mk (w64 (x59 + 1)) 1)) t88 t93 _ ht94) (fun v w95 hR96 => ?_)
             obtain ⟨rfl, hk_⟩ := hR96
             have hS97 := hS92.keepN hk_
             refine ⟨trivial, ?_⟩
             refine WL.new hS97 11 [] (fun g => (pt g)) (.cells #[(iv 0), (iv 0), (iv 0), (iv 0)] 152 (0, 0)) [] (fun fb g => by kernel_rfl) trivial (fun g98 w99 hS100 => ?_)
             refine ⟨trivial, ?_⟩
             refine WL.store hS100 0 rfl [(0, (iv t93.from_.n)), (1, (iv t93.from_.d)), (2, (iv t93.to.n)), (3, (iv t93.to.d))] #[(iv t93.from_.n), (iv t93.from_.d), (iv t93.to.n), (iv t93.to.d)] (fun fb => by kernel_rfl) (by kernel_rfl) rfl [1, 2, 3, 4] (by decide) (by decide) (fun w101 hS102 => ?_)
             refine ⟨trivial, ?_⟩
             refine WL.done rfl (WX.next (WC.seq (WC.region ?_)))
             refine seg 3 [.v e3, .v e2, .v (iv p0.Low.Num), .v (iv p0.Low.Den), .v (iv p0.High.Num), .v (iv p0.High.Den), .v (iv t48.from_.n), .v (iv t48.from_.d), .v (iv t48.to.n), .v (iv t48.to.d), .v (iv t93.from_.n), .v (iv t93.from_.d), .v (iv t93.to.n), .v (iv t93.to.d)] [1, 3, 4, 5, 6, 7, 8, 9, 10, 19, 20, 42, 73, 74, 75] [e6, e7, (4, (.func (.func 102) #[] e9)), (5, (.map e10)), e8, e11, e15, e19, (10, (iv x74)), (19, e2), e5, e16, (73, (.agg e1)), (74, (.agg e4)), (75, (.agg #[(iv t93.from_.n), (iv t93.from_.d), (iv t93.to.n), (iv t93.to.d)]))] [.cell ⟨g4, 0, none⟩ e3, .cell ⟨g4, 1, none⟩ e2, .cell ⟨g4, 2, none⟩ (iv p0.Low.Num), .cell ⟨g4, 3, none⟩ (iv p0.Low.Den), .cell ⟨g4, 4, none⟩ (iv p0.High.Num), .cell ⟨g4, 5, none⟩ (iv p0.High.Den), .cell ⟨g53, 0, none⟩ (iv t48.from_.n), .cell ⟨g53, 1, none⟩ (iv t48.from_.d), .cell ⟨g53, 2, none⟩ (iv t48.to.n), .cell ⟨g53, 3, none⟩ (iv t48.to.d), .cell ⟨g98, 0, none⟩ (iv t93.from_.n), .cell ⟨g98, 1, none⟩ (iv t93.from_.d), .cell ⟨g98, 2, none⟩ (iv t93.to.n), .cell ⟨g98, 3, none⟩ (iv t93.to.d)] (fun fb => by kernel_rfl) rfl ⟨hS102.cell 1 rfl 0 rfl, hS102.cell 1 rfl 1 rfl, hS102.cell 1 rfl 2 rfl, hS102.cell 1 rfl 3 rfl, hS102.cell 1 rfl 4 rfl, hS102.cell 1 rfl 5 rfl, hS102.cell 4 rfl 0 rfl, hS102.cell 4 rfl 1 rfl, hS102.cell 4 rfl 2 rfl, hS102.cell 4 rfl 3 rfl, hS102.cell 0 rfl 0 rfl, hS102.cell 0 rfl 1 rfl, hS102.cell 0 rfl 2 rfl, hS102.cell 0 rfl 3 rfl, trivial⟩ ?_
             obtain ⟨t103, ht104, hl80⟩ := bind_some hl80
             refine WL.call (some 76) 105 #[(.agg e1), (.agg e4), (.agg #[(iv t93.from_.n), (iv t93.from_.d), (iv t93.to.n), (iv t93.to.d)])] (fun fb => by kernel_rfl) (beatty_possible_calls p0 t48 t93 t103 _ ht104) (fun v w105 hR106 => ?_)
             obtain ⟨rfl, hk_⟩ := hR106
             have hS107 := hS102.keepN hk_
             refine ⟨trivial, ?_⟩
             refine WL.done rfl (WX.next ?_)
             obtain ⟨x108, hx109, hl80⟩ := bind_some hl80
             refine WC.cutN (T := e14) (fun t => [e6, e7, (4, (.func (.func 102) #[] e9)), (5, (.map e10)), e8, e11, e15, e19, (10, (iv x74)), (19, e2), e5, e16]) (fun t w1 => St NoS w w1 [] [blk g4 (.cells e1 66 (0, 0)), blk g7 (.cells #[e3, e2] 44 (0, 0)), blk g12 (mapObj e18 vB t), blk g53 (.cells e4 152 (0, 0))] ∧ x108 = t) (fun Kx108 => ?_) ?_
             ·
              rcases br_some hx109 with ⟨h110, hx109⟩ | ⟨h110, hx109⟩
              ·refine WC.condT2 (fun fb => by kernel_rfl) h110 ?_
               refine WC.region ?_
               refine seg 26 [.v e3, .v e2, .v e3, .v e2] [1, 3, 4, 5, 6, 7, 8, 9, 10, 19, 20, 42, 77, 102] [e6, e7, (4, (.func (.func 102) #[] e9)), (5, (.map e10)), e8, e11, e15, e19, (10, (iv x74)), (19, e2), e5, e16, (77, (.map e10)), (102, (.agg #[(iv x59), (iv (w64 (x74 - x30))), (iv e23), (iv (w64 ((w64 (e21 * p0.Factor.Num)) - (w64 (x74 * p0.Factor.Den)))))]))] [.cell ⟨g7, 0, none⟩ e3, .cell ⟨g7, 1, none⟩ e2, .cell ⟨g7, 0, none⟩ e3, .cell ⟨g7, 1, none⟩ e2] (fun fb => by kernel_rfl) rfl ⟨hS107.cell 2 rfl 0 rfl, hS107.cell 2 rfl 1 rfl, hS107.cell 2 rfl 0 rfl, hS107.cell 2 rfl 1 rfl, trivial⟩ ?_
               refine WL.mapput hS107 3 (t := 150) (kT := 135) (eT := 4) (kE := e18) (vE := vB) (l := l73) rfl e13 true (fun fb => by kernel_rfl) beatty_marks_key135 (by kernel_rfl) [0, 1, 2, 4] (by decide) (by decide) (fun w111 hS112 => ?_)
               refine ⟨trivial, ?_⟩
               refine WL.done rfl ?_
               injection hx109 with hx109
               exact WX.to Kx108 (mput e13 true l73) e12 rfl ⟨(hS112.subR []).sub [2, 3, 0, 4] (by decide), hx109.symm⟩
              refine WC.condF2 (fun fb => by kernel_rfl) h110 ?_
              refine WC.skip ?_
              injection hx109 with hx109
              exact WX.to Kx108 l73 e12 rfl ⟨(hS107.subR []).sub [1, 2, 3, 4] (by decide), hx109.symm⟩
             rintro y116 w113 ⟨hS114, hq115⟩
             subst hq115
             refine WX.blockN (WX.next ?_)
             refine WC.region ?_
             refine sg 3 [] e12 [e6, e7, (4, (.func (.func 102) #[] e9)), (5, (.map e10)), e8, e11, e15, e19, (10, (iv (w64 (x74 + 1)))), (19, e2), e5, e16] (by kernel_rfl) ?_
             refine WL.done rfl ?_
             exact WX.again k77 (Nat.lt_succ_self _) (x108, w64 (x74 + 1)) e12 rfl ⟨(hS114.subR []).sub [0, 1, 2, 3] (by decide), hl80⟩
            refine WC.condF2 (fun fb => by kernel_rfl) h86 ?_
            refine WC.exit ?_
            injection hl80 with hl80
            exact WX.thenX (WX.thenX (WX.blockHere (WX.to Kx75 l73 e17 rfl ⟨(hS85.subR []).sub [0, 1, 2, 3] (by decide), hl80.symm⟩)))
          rintro y120 w117 ⟨hS118, hq119⟩
          subst hq119
          refine WX.blockN (WX.next ?_)
          refine WC.region ?_
          refine sg 2 [] e17 [e6, e7, (4, (.func (.func 102) #[] e9)), (5, (.map e10)), e8, e11, e15, (19, e2), e5, (42, (iv (w64 (x59 + 1))))] (by kernel_rfl) ?_
          refine WL.done rfl ?_
          exact WX.again k62 (Nat.lt_succ_self _) (x75, w64 (x59 + 1)) e17 rfl ⟨(hS118.subR []).sub [0, 1, 2, 3] (by decide), hl66⟩
         refine WC.condF2 (fun fb => by kernel_rfl) h67 ?_
         refine WC.exit ?_
         injection hl66 with hl66
         exact WX.thenX (WX.thenX (WX.blockHere (WX.to Kx60 l58 e20 rfl ⟨(hS65.subR []).sub [0, 1, 2] (by decide), hl66.symm⟩)))
       rintro y124 w121 ⟨hS122, hq123⟩
       subst hq123
       refine WX.blockN (WX.next ?_)
       refine WC.region ?_
       refine sg 3 [] e20 [e6, e7, (4, (.func (.func 102) #[] e9)), (5, (.map e10)), e8, (7, (iv (w64 (x30 + 1)))), (19, e2), e5] (by kernel_rfl) ?_
       refine WL.done rfl ?_
       exact WX.again k33 (Nat.lt_succ_self _) (x60, w64 (x30 + 1)) e20 rfl ⟨(hS122.subR []).sub [0, 1, 2] (by decide), hl36⟩
      refine WC.condF2 (fun fb => by kernel_rfl) h42 ?_
      refine WC.exit ?_
      injection hl36 with hl36
      exact WX.thenX (WX.thenX (WX.blockHere (WX.to Kx31 l29 e24 rfl ⟨(hS41.subR []).sub [0, 1, 2] (by decide), hl36.symm⟩)))
    rintro y128 w125 ⟨hS126, hq127⟩
    subst hq127
    refine WX.blockN (WX.next ?_)
    refine WC.region ?_
    refine sg 2 [] e24 [e6, e7, (4, (.func (.func 102) #[] e9)), (5, (.map e10)), (19, e2), (20, (iv (w64 (x16 + 1))))] (by kernel_rfl) ?_
    refine WL.done rfl ?_
    exact WX.again k19 (Nat.lt_succ_self _) (x31, w64 (x16 + 1)) e24 rfl ⟨(hS126.subR []).sub [0, 1, 2] (by decide), hl22⟩
   refine WC.condF2 (fun fb => by kernel_rfl) h23 ?_
   refine WC.exit ?_
   injection hl22 with hl22
   exact WX.thenX (WX.thenX (WX.blockHere (WX.to Kx17 l15 [5] rfl ⟨(hS21.subR []).sub [2] (by decide), hl22.symm⟩)))
 rintro y132 w129 ⟨hS130, hq131⟩
 subst hq131
 refine WX.next (WC.seq (WC.region ?_))
 refine sg 1 [] [5, 12] [(5, (.map e10)), (12, (.slice none 0 0))] (by kernel_rfl) ?_
 refine WL.done rfl (WX.next (WC.seq (WC.seq (WC.region ?_))))
 refine sg 1 [] [12, 105] [(12, (.slice none 0 0)), (105, (.map e10))] (by kernel_rfl) ?_
 have hS133 := hS.go w129 [mapN e18 vB e10 x17] (hS130.mapnSome 0 rfl [] (by decide) (by decide))
 refine WL.mrange hS133 0 (kT := 135) (eT := 4) (t := 150) (d := 106) rfl (fun fb => by kernel_rfl) (by kernel_rfl) (fun g134 w135 hS136 => ?_)
 refine ⟨trivial, ?_⟩
 refine WL.done rfl (WX.next ?_)
 obtain ⟨h144, hf⟩ := as_some hf
 have hS145 := hS136.nilrow 135 enc_Mark
 let e22 : Nat × Value := (106, (pt g134))
 refine WC.cutN (T := (List Mark) × (Option Addr) × Nat) (fun t => [(12, (sv t.2.1 t.1 t.2.2))]) (fun t w1 => St NoS w w1 [] [rowO 135 enc_Mark t.2.1 t.2.2 t.1] ∧ t.1.Perm (x17.map Prod.fst)) (fun Kx151 => ?_) ?_
 ·
  refine WC.block ?_
  refine WC.loop (T := (List Nat) × (Option Addr) × Nat) (fun t => [(12, (sv t.2.1 (keysAt x17 t.1) t.2.2)), e22]) (fun n t w1 => St NoS w w1 [] [rowO 135 enc_Mark t.2.1 t.2.2 (keysAt x17 t.1), blk g134 (iterOb e10 x17.length t.1), mapN e18 vB e10 x17] ∧ t.1.Nodup ∧ (∀ x_ ∈ t.1, x_ < x17.length) ∧ t.1.length + n = x17.length + 1) (x17.length + 1) ([], none, 0) [12, 106] rfl ⟨(hS145.subR []).sub [0, 1, 2] (by decide), List.nodup_nil, (fun x_ h_ => by cases h_), Nat.zero_add _⟩ ?_
  rintro n152 ⟨sn137, A146, c147⟩ w156 ⟨hS157, h153, h154, h155⟩
  have h155 : sn137.length + n152 = x17.length + 1 := h155
  refine WC.seq (WC.region ?_)
  refine WL.mnext hS157 2 1 (kE := e18) (vE := vB) (og := e10) (l := x17) rfl rfl (by decide) (d := 107) (fun fb => by kernel_rfl) [0, 2] (by decide) (by decide) (fun hall164 => ?_) (fun q138 hq139 kk140 vv141 hkv142 hqs143 w162 hS163 => ?_)
  ·
   refine ⟨trivial, ?_⟩
   have hp161 := keysAt_all h153 h154 hall164
   refine sg 2 [] [12, 106, 108] [(12, (sv A146 (keysAt x17 sn137) c147)), e22, (108, (bv false))] (by kernel_rfl) ?_
   refine WL.done rfl (WX.next (WC.seq ?_))
   refine WC.condF (fun fb => by kernel_rfl) ?_
   refine WC.exit ?_
   exact WX.thenX (WX.thenX (WX.blockHere (WX.to Kx151 ((keysAt x17 sn137), A146, c147) [12] rfl ⟨(hS157.subR []).sub [0] (by decide), hp161⟩)))
  refine ⟨trivial, ?_⟩
  obtain ⟨h159, h160, hlt158⟩ := keys_step h153 h154 hq139 hqs143
  refine sg 2 [] [12, 106, 108] [(12, (sv A146 (keysAt x17 sn137) c147)), e22, (108, (bv true))] (by kernel_rfl) ?_
  refine WL.done rfl (WX.next (WC.seq ?_))
  refine WC.condT (fun fb => by kernel_rfl) ?_
  refine WC.skip (WX.next (WC.block (WC.seq (WC.region ?_))))
  refine WL.mentry hS163 2 0 (kE := e18) (vE := vB) (og := e10) (l := x17) hq139 hkv142 rfl rfl (d := 109) (fun fb => by kernel_rfl) ?_
  refine ⟨trivial, ?_⟩
  refine sg 2 [] [12, 106, 110] [(12, (sv A146 (keysAt x17 sn137) c147)), e22, (110, (.agg #[(iv kk140.s), (iv kk140.n), (iv kk140.west), (iv kk140.east)]))] (by kernel_rfl) ?_
  refine WL.new hS163 13 [] (fun g => (pt g)) (.cells #[(iv 0), (iv 0), (iv 0), (iv 0)] 135 (0, 0)) [] (fun fb g => by kernel_rfl) trivial (fun g165 w166 hS167 => ?_)
  refine ⟨trivial, ?_⟩
  refine WL.store hS167 0 rfl [(0, (iv kk140.s)), (1, (iv kk140.n)), (2, (iv kk140.west)), (3, (iv kk140.east))] #[(iv kk140.s), (iv kk140.n), (iv kk140.west), (iv kk140.east)] (fun fb => by kernel_rfl) (by kernel_rfl) rfl [1, 2, 3] (by decide) (by decide) (fun w168 hS169 => ?_)
  refine ⟨trivial, ?_⟩
  refine WL.done rfl (WX.next (WC.region ?_))
  refine seg 2 [.v (iv kk140.s), .v (iv kk140.n), .v (iv kk140.west), .v (iv kk140.east)] [106, 111, 112] [e22, (111, (sv A146 (keysAt x17 sn137) c147)), (112, (.agg #[(iv kk140.s), (iv kk140.n), (iv kk140.west), (iv kk140.east)]))] [.cell ⟨g165, 0, none⟩ (iv kk140.s), .cell ⟨g165, 1, none⟩ (iv kk140.n), .cell ⟨g165, 2, none⟩ (iv kk140.west), .cell ⟨g165, 3, none⟩ (iv kk140.east)] (fun fb => by kernel_rfl) rfl ⟨hS169.cell 0 rfl 0 rfl, hS169.cell 0 rfl 1 rfl, hS169.cell 0 rfl 2 rfl, hS169.cell 0 rfl 3 rfl, trivial⟩ ?_
  refine WL.new hS169 113 [] (fun g => (.slice (some ⟨g, 0, none⟩) 1 1)) (.cells #[(iv kk140.s), (iv kk140.n), (iv kk140.west), (iv kk140.east)] 135 (0, 0)) [] (fun fb g => by kernel_rfl) trivial (fun g170 w171 hS172 => ?_)
  refine ⟨trivial, ?_⟩
  have hS173 := hS133.go w171 [rowO 135 enc_Mark (some ⟨g170, 0, none⟩) 1 [kk140], blk g165 (.cells #[(iv kk140.s), (iv kk140.n), (iv kk140.west), (iv kk140.east)] 135 (0, 0)), blk g134 (iterOb e10 x17.length (sn137 ++ [q138])), rowO 135 enc_Mark A146 c147 (keysAt x17 sn137), mapN e18 vB e10 x17] (hS172.map1 0 _ (fun h => rowO.ofBlk h rfl (Nat.le_of_ble_eq_true (by kernel_rfl))) (fun _ h => by obtain ⟨_, h1, h2⟩ := h; injection h1 with h1; subst h1; exact h2) [1, 2, 3, 4] (by decide) (by decide))
  have h174 : (keysAt x17 sn137).length + [kk140].length ≤ 100000000000 := Nat.le_trans (Nat.succ_le_of_lt (Nat.lt_of_le_of_lt (keysAt_len x17 sn137) hlt158)) h144
  refine WL.append hS173 3 (d := 114) (tS := 132) (z := (.agg #[(iv 0), (iv 0), (iv 0), (iv 0)])) (bytes := 32) (c2 := 1) rfl (fun fb => by kernel_rfl) (rowO.rd (hS173.own 0).1) (by kernel_rfl) (by kernel_rfl) rfl (by decide) h174 (by decide) [0, 1, 2, 4] (by decide) (by decide) (fun A175 c176 w177 hS178 => ?_)
  refine ⟨trivial, ?_⟩
  refine sg 5 [] [12, 106] [(12, (sv A175 ((keysAt x17 sn137) ++ [kk140]) c176)), e22] (by kernel_rfl) ?_
  refine WL.done rfl ?_
  have hk179 := keysAt_push x17 sn137 hq139 hkv142
  refine WX.reE [(12, (.slice A175 (keysAt x17 (sn137 ++ [q138])).length c176)), (106, (pt g134))] (by rw [hk179]) ?_
  exact WX.blockN (WX.again (n152 - 1) (by omega) (sn137 ++ [q138], A175, c176) [12, 106] rfl ⟨(by have h_ := (hS178.subR []).sub [0, 3, 4] (by decide); rw [← hk179] at h_; exact h_), h159, h160, (by rw [List.length_append, List.length_singleton]; omega)⟩)
 rintro ⟨l150, A148, c149⟩ w180 ⟨hS181, hp182⟩
 refine WX.next (WC.seq (WC.region ?_))
 refine sg 1 [] [12, 115] [(12, (sv A148 l150 c149)), (115, (sv A148 l150 c149))] (by kernel_rfl) ?_
 obtain ⟨t183, ht184, hf⟩ := bind_some hf
 replace ht184 := sortP_perm hp182 ht184
 refine WL.call (some 116) 106 #[(sv A148 l150 c149), (.func (.func 107) #[] #[])] (fun fb => by kernel_rfl) (sortK_calls Tryz.sortT106 enc_Mark 107 z_Mark _ (enters_of Tryz.func107 (by kernel_rfl) rfl) (agg_of Tryz.underlying135 rfl) (size_of_ (by kernel_rfl)) (fun x y r w h => beatty_order_calls _ x y r w h) drT l150 t183 A148 c149 _ (hS181.io [0] (by decide)) ht184) (fun v w185 hR186 => ?_)
 obtain ⟨rfl, hk_⟩ := hR186
 have hS187 := hS133.go w185 [rowO 135 enc_Mark A148 c149 t183] (hS181.call hk_ [0] [] (fun g hg => fpL_sel g hg) (by decide) (by decide))
 refine ⟨trivial, ?_⟩
 have hl188 := sortP_len ht184
 refine WL.reE [12] [(12, (.slice A148 l150.length c149))] [(12, (.slice A148 t183.length c149))] rfl (by simp only [hl188]) ?_
 refine WL.done rfl (WX.next (WC.seq (WC.region ?_)))
 refine sg 2 [] [2] [(2, (sv A148 t183 c149))] (by kernel_rfl) ?_
 refine WL.done rfl (WX.next ?_)
 refine WC.ret ?_
 injection hf with hf
 subst hf
 exact WX.ret_ [] (sv A148 t183 c149) [] (fun fb => by kernel_rfl) trivial ⟨_, rfl, A148, c149, rfl, (hS187.sub [0] (by decide)).noR⟩
theorem beatty_houseOf_1_calls (k : Nat) (p0 : Carry) (p1 : Carry)  (r : Int) (w : World)  (hf : beatty_houseOf_1 k p0 p1 = some r) :
  CallsR Tryz.prog 89 #[(.agg #[(iv p0.piece), (iv p0.n)]), (.agg #[(iv p1.piece), (iv p1.n)])] w (fun v w' => v = (iv r) ∧ Keeps NoS w w') := by
 have hS : St NoS w w [] [] := St.init (ro_nil _ _)
 refine enter 17 Tryz.func89 rfl Tryz.ntmps89 rfl ?_
 unfold beatty_houseOf_1 at hf
 refine WC.seq (WC.region ?_)
 refine WL.new hS 2 [] (fun g => (pt g)) (.cells #[(iv p0.piece), (iv p0.n)] 100 (0, 0)) [] (fun fb g => by kernel_rfl) trivial (fun g3 w4 hS5 => ?_)
 refine ⟨trivial, ?_⟩
 refine WL.new hS5 3 [] (fun g => (pt g)) (.cells #[(iv p1.piece), (iv p1.n)] 100 (0, 0)) [] (fun fb g => by kernel_rfl) trivial (fun g6 w7 hS8 => ?_)
 refine ⟨trivial, ?_⟩
 refine sg 3 [] [2, 3] [(2, (pt g3)), (3, (pt g6))] (by kernel_rfl) ?_
 refine WL.done rfl (WX.next (WC.seq ?_))
 refine WC.regionD ([(1, ⟨g3, 0, none⟩, (iv p0.piece)), (3, ⟨g6, 0, none⟩, (iv p1.piece)), (6, ⟨g3, 1, none⟩, (iv p0.n)), (8, ⟨g6, 1, none⟩, (iv p1.n))], [0, 1, 2, 3, 5, 6, 7, 8, 12], [[], [0], [], [2], [0, 1, 2, 3], [], [5], [], [7], [0, 1, 2, 3, 4, 5, 6, 7, 8], [0, 1, 2, 3, 4, 5, 6, 7, 8, 9], [0, 1, 2, 3, 4, 5, 6, 7, 8, 9, 10], [0, 1, 2, 3, 4, 5, 6, 7, 8, 9, 10, 11]]) [[0, 1, 2, 3, 5, 6, 7, 8, 4, 9, 10, 11, 12]] (by kernel_rfl) (by kernel_rfl) (NoPanic.seq (NoPanic.body)) ?_
 have hS10 := hS8.drew
 revert hS10
 generalize World.drew w7 = w9
 intro hS10
 refine ⟨⟨hS10.cell 1 rfl 0 rfl, hS10.cell 0 rfl 0 rfl, hS10.cell 1 rfl 1 rfl, hS10.cell 0 rfl 1 rfl, trivial⟩, forallC ?_ (forallN)⟩
 refine segF 8 [.v (iv p0.piece), .v (iv p1.piece), .v (iv p0.n), .v (iv p1.n)] [6, 8, 11, 13] [(6, (iv p0.piece)), (8, (iv p1.piece)), (11, (iv p0.n)), (13, (iv p1.n))] [] [0, 1, 2, 3] [(1, ⟨g3, 0, none⟩, (iv p0.piece)), (3, ⟨g6, 0, none⟩, (iv p1.piece)), (6, ⟨g3, 1, none⟩, (iv p0.n)), (8, ⟨g6, 1, none⟩, (iv p1.n))] (fun fb => by kernel_rfl) rfl trivial rfl ?_
 obtain ⟨t11, ht12, hf⟩ := bind_some hf
 refine WL.call (some 9) 91 #[(iv p0.piece), (iv p1.piece)] (fun fb => by kernel_rfl) (cmp_Compare_int_calls p0.piece p1.piece t11 _ ht12) (fun v w13 hR14 => ?_)
 obtain ⟨rfl, hk_⟩ := hR14
 have hS15 := hS10.keepN hk_
 refine ⟨⟨hS15.cell 1 rfl 1 rfl, hS15.cell 0 rfl 1 rfl, trivial⟩, ?_⟩
 obtain ⟨t16, ht17, hf⟩ := bind_some hf
 refine WL.call (some 14) 91 #[(iv p0.n), (iv p1.n)] (fun fb => by kernel_rfl) (cmp_Compare_int_calls p0.n p1.n t16 _ ht17) (fun v w18 hR19 => ?_)
 obtain ⟨rfl, hk_⟩ := hR19
 have hS20 := hS15.keepN hk_
 refine ⟨trivial, ?_⟩
 refine WL.new hS20 15 [] (fun g => (.slice (some ⟨g, 0, none⟩) 2 2)) (.cells #[(iv t11), (iv t16)] 3 (0, 0)) [] (fun fb g => by kernel_rfl) trivial (fun g21 w22 hS23 => ?_)
 refine ⟨trivial, ?_⟩
 have hS24 := hS.go w22 [rowO 3 encInt (some ⟨g21, 0, none⟩) 2 [t11, t16], blk g6 (.cells #[(iv p1.piece), (iv p1.n)] 100 (0, 0)), blk g3 (.cells #[(iv p0.piece), (iv p0.n)] 100 (0, 0))] (hS23.map1 0 _ (fun h => rowO.ofBlk h rfl (Nat.le_of_ble_eq_true (by kernel_rfl))) (fun _ h => by obtain ⟨_, h1, h2⟩ := h; injection h1 with h1; subst h1; exact h2) [1, 2] (by decide) (by decide))
 obtain ⟨t25, ht26, hf⟩ := bind_some hf
 refine WL.call (some 16) 90 #[(sv (some ⟨g21, 0, none⟩) [t11, t16] 2)] (fun fb => by kernel_rfl) (cmp_Or_int_calls _ [t11, t16] (some ⟨g21, 0, none⟩) 2 t25 _ (hS24.ow 0).ofO ht26) (fun v w27 hR28 => ?_)
 obtain ⟨rfl, hk_⟩ := hR28
 have hS29 := hS24.keepN hk_
 refine ⟨trivial, ?_⟩
 refine sg 13 [] [4] [(4, (iv t25))] (by kernel_rfl) ?_
 refine WL.done rfl (WX.next ?_)
 refine WC.ret ?_
 injection hf with hf
 subst hf
 exact WX.ret_ [] (iv t25) [] (fun fb => by kernel_rfl) trivial ⟨_, rfl, rfl, hS29.keep⟩
theorem beatty_houseOf_key100 : KeyK Tryz.prog 100 (aggI ints_Carry) := KeyK.struct (n := 2) (by kernel_rfl) ints_Carry (fun _ => rfl) (fun x y h => by cases x; cases y; simp only [ints_Carry, List.cons.injEq, and_true] at h; obtain ⟨rfl, rfl⟩ := h; rfl)
theorem beatty_houseOf_calls (k : Nat) (p0 : List Piece) (Aa : Option Addr) (ca : Nat) (r : House) (w : World) (hR0 : RO NoS w (rowR enc_Piece Aa ca p0)) (hf : beatty_houseOf k p0 = some r) :
  CallsR Tryz.prog 66 #[(sv Aa p0 ca)] w (fun v w' => ∃ (g1_ : Nat), ∃ (A2_ : Option Addr), ∃ (c2_ : Nat), ∃ (A3_ : Option Addr), ∃ (c3_ : Nat), ∃ (A4_ : Option Addr), ∃ (c4_ : Nat), ∃ (A5_ : Option Addr), ∃ (c5_ : Nat), ∃ (g6_ : Nat), v = (pt g1_) ∧ St NoS w w' [] [blk g1_ (.cells #[(sv Aa p0 ca), (sv A2_ r.set c2_), (sv A3_ r.piece c3_), (sv A4_ r.first c4_), (sv A5_ r.carries c5_), (.map (some g6_)), (iv r.most)] 82 (0, 0)), rowO 64 enc_Tile A2_ c2_ r.set, rowO 3 encInt A3_ c3_ r.piece, rowO 3 encInt A4_ c4_ r.first, rowO 100 enc_Carry A5_ c5_ r.carries, blk g6_ (mapObj (aggI ints_Carry) (vI .i64) r.colour)]) := by
 have hS : St NoS w w [rowR enc_Piece Aa ca p0] [] := St.init (ro_cons hR0 (ro_nil _ _))
 refine enter 199 Tryz.func66 rfl Tryz.ntmps66 rfl ?_
 unfold beatty_houseOf at hf
 refine WC.seq (WC.region ?_)
 refine sg 1 [] [0] [(0, (sv Aa p0 ca))] (by kernel_rfl) ?_
 refine WL.done rfl (WX.next (WC.seq (WC.region ?_)))
 refine sg 1 [] [0, 18] [(0, (sv Aa p0 ca)), (18, (sv Aa p0 ca))] (by kernel_rfl) ?_
 refine WL.new hS 19 [] (fun g => (.map (some g))) (mapObj (aggI ints_Carry) (vI .i64) ([] : List (Carry × Int))) [] (fun fb g => by kernel_rfl) trivial (fun g7 w8 hS9 => ?_)
 refine ⟨trivial, ?_⟩
 refine sg 3 [] [0, 20] [(0, (sv Aa p0 ca)), (20, (.agg #[(sv Aa p0 ca), (.slice none 0 0), (.slice none 0 0), (.slice none 0 0), (.slice none 0 0), (.map (some g7)), (iv (-1))]))] (by kernel_rfl) ?_
 refine WL.new hS9 21 [] (fun g => (pt g)) (.cells #[(sv Aa p0 ca), (.slice none 0 0), (.slice none 0 0), (.slice none 0 0), (.slice none 0 0), (.map (some g7)), (iv (-1))] 82 (0, 0)) [] (fun fb g => by kernel_rfl) trivial (fun g10 w11 hS12 => ?_)
 refine ⟨trivial, ?_⟩
 refine sg 5 [] [0, 3] [(0, (sv Aa p0 ca)), (3, (pt g10))] (by kernel_rfl) ?_
 refine WL.done rfl (WX.next (WC.seq (WC.region ?_)))
 refine sg 1 [] [0, 3, 4] [(0, (sv Aa p0 ca)), (3, (pt g10)), (4, (.slice none 0 0))] (by kernel_rfl) ?_
 refine WL.done rfl (WX.next (WC.seq (WC.seq (WC.region ?_))))
 refine sg 3 [] [3, 4, 22, 23, 24] [(3, (pt g10)), (4, (.slice none 0 0)), (22, (sv Aa p0 ca)), (23, (iv (p0.length : Int))), (24, (iv 0))] (by kernel_rfl) ?_
 refine WL.done rfl (WX.next ?_)
 have hS13 := hS12.nilrow 100 enc_Carry
 have hS14 := hS.go w11 [rowO 132 (encSl Mark) none 0 (tag hf0 ([] : List (List Mark))), rowO 100 enc_Carry none 0 ([] : List Carry), blk g10 (.cells #[(sv Aa p0 ca), (.slice none 0 0), (.slice none 0 0), (.slice none 0 0), (sv none ([] : List Carry) 0), (.map (some g7)), (iv (-1))] 82 (0, 0)), blk g7 (mapObj (aggI ints_Carry) (vI .i64) ([] : List (Carry × Int)))] (hS13.nilrow 132 (encSl Mark))
 have hS15 := hS14.go w11 [rowsO 135 enc_Mark hf0 ([] : List (List Mark)), rowO 132 (encSl Mark) none 0 (tag hf0 ([] : List (List Mark))), rowO 100 enc_Carry none 0 ([] : List Carry), blk g10 (.cells #[(sv Aa p0 ca), (.slice none 0 0), (.slice none 0 0), (.slice none 0 0), (sv none ([] : List Carry) 0), (.map (some g7)), (iv (-1))] 82 (0, 0)), blk g7 (mapObj (aggI ints_Carry) (vI .i64) ([] : List (Carry × Int)))] (hS14.rowsNil 135 enc_Mark 0)
 obtain ⟨x30, hx31, hf⟩ := bind_some hf
 let e7 : Nat × Value := (23, (iv (p0.length : Int)))
 let e13 : Nat × Value := (22, (sv Aa p0 ca))
 let e20 : Nat × Value := (3, (pt g10))
 let e22 : List Nat := [3, 4, 5, 22, 23, 24, 37, 38, 39, 47, 48]
 let e30 := aggI ints_Carry
 let e39 : List Own := [rowR enc_Piece Aa ca p0]
 let e41 := [[], [], [1], [1, 2], [1, 2, 3], [], [5], [1, 2, 3, 4, 5, 6], [0, 1, 2, 3, 4, 5, 6, 7], [0, 1, 2, 3, 4, 5, 6, 7, 8], [0, 1, 2, 3, 4, 5, 6, 7, 8, 9]]
 let e43 : List Nat := [0, 1, 2, 3, 4]
 let e44 := sv Aa p0 ca
 let e47 := encSl Mark
 let e50 := List (Carry × Int)
 let e52 : List Nat := [3, 4, 5, 22, 23, 24, 37, 38, 39]
 let e64 := Option Addr
 let e74 : List Nat := [1, 2, 3, 4, 5]
 let e84 := List Carry
 let e88 := [[], [0], [0, 1], [0, 1, 2], [], e43, [0, 1, 2, 3, 4, 5]]
 let e92 : List Nat := [3, 4, 5, 11, 22, 23, 24, 37, 38, 39, 47, 48, 57, 58]
 let e93 : List Nat := [3, 4, 5, 11, 22, 23, 24, 37, 38, 39, 47, 48, 64, 65]
 let e94 : List Nat := [3, 4, 5, 22, 23, 24, 37, 38, 39, 47, 48, 66, 70, 71]
 refine WC.cutN (T := (e84 × e50 × (List (List Mark))) × e64 × Nat × e64 × Nat × HF) (fun t => [e20, (4, (sv t.2.2.2.1 t.1.2.2 t.2.2.2.2.1))]) (fun t w1 => St NoS w w1 e39 [blk g10 (.cells #[e44, (.slice none 0 0), (.slice none 0 0), (.slice none 0 0), (sv t.2.1 t.1.1 t.2.2.1), (.map (some g7)), (iv (-1))] 82 (0, 0)), rowO 100 enc_Carry t.2.1 t.2.2.1 t.1.1, blk g7 (mapObj e30 (vI .i64) t.1.2.1), rowO 132 e47 t.2.2.2.1 t.2.2.2.2.1 (tag t.2.2.2.2.2 t.1.2.2), rowsO 135 enc_Mark t.2.2.2.2.2 t.1.2.2] ∧ x30 = t.1) (fun Kx30 => ?_) ?_
 ·
  refine WC.block ?_
  refine WC.loop (T := (e84 × e50 × (List (List Mark)) × Int) × e64 × Nat × e64 × Nat × HF) (fun t => [e20, (4, (sv t.2.2.2.1 t.1.2.2.1 t.2.2.2.2.1)), e13, e7, (24, (iv t.1.2.2.2))]) (fun n t w1 => St NoS w w1 e39 [blk g10 (.cells #[e44, (.slice none 0 0), (.slice none 0 0), (.slice none 0 0), (sv t.2.1 t.1.1 t.2.2.1), (.map (some g7)), (iv (-1))] 82 (0, 0)), rowO 100 enc_Carry t.2.1 t.2.2.1 t.1.1, blk g7 (mapObj e30 (vI .i64) t.1.2.1), rowO 132 e47 t.2.2.2.1 t.2.2.2.2.1 (tag t.2.2.2.2.2 t.1.2.2.1), rowsO 135 enc_Mark t.2.2.2.2.2 t.1.2.2.1] ∧ beatty_houseOf.l0 n t.1.1 t.1.2.1 t.1.2.2.1 t.1.2.2.2 p0 = some x30) k ((([] : List Carry), ([] : List (Carry × Int)), ([] : List (List Mark)), 0), none, 0, none, 0, hf0) [3, 4, 22, 23, 24] rfl ⟨(hS15.subR [0]).sub [3, 2, 4, 1, 0] (by decide), hx31⟩ ?_
  rintro k32 ⟨⟨l18, l19, l22, x24⟩, A16, c17, A20, c21, H23⟩ w33 ⟨hS34, hl35⟩
  let e66 := rdD p0 x24 z_Piece
  let e4 : Array Value := #[(iv ((e66.Factor).Num)), (iv ((e66.Factor).Den)), (iv ((e66.Low).Num)), (iv ((e66.Low).Den)), (iv ((e66.High).Num)), (iv ((e66.High).Den))]
  let e16 := rdD p0 x24 z_Piece
  let e19 : Nat × Value := (24, (iv x24))
  let e23 : Nat × Value := (5, (iv x24))
  let e42 := (adr Aa).add ((x24).toNat * 6)
  let e69 := e16.Factor
  let e76 := iv ((e16.High).Num)
  let e77 := iv ((e16.High).Den)
  let e79 := iv ((e16.Low).Num)
  let e80 := iv ((e16.Low).Den)
  let e89 : Nat × Value := (4, (sv A20 l22 c21))
  cases k32 with
  | zero => rw [beatty_houseOf.l0] at hl35; cases hl35
  | succ k32 =>
   rw [beatty_houseOf.l0] at hl35
   refine WC.seq (WC.region ?_)
   refine sg 1 [] [3, 4, 22, 23, 24, 25] [e20, e89, e13, e7, e19, (25, (bv (decide (x24 < (p0.length : Int)))))] (by kernel_rfl) ?_
   refine WL.done rfl (WX.next (WC.seq ?_))
   rcases br_some hl35 with ⟨h36, hl35⟩ | ⟨h36, hl35⟩
   ·refine WC.condT2 (fun fb => by kernel_rfl) h36 ?_
    refine WC.skip (WX.next (WC.seq (WC.block (WC.seq (WC.region ?_)))))
    refine sg 1 [] [3, 4, 22, 23, 24, 26] [e20, e89, e13, e7, e19, (26, (iv x24))] (by kernel_rfl) ?_
    obtain ⟨h37, hl35⟩ := as_some hl35
    refine seg 3 [.v (iv (e69.Num)), .v (iv (e69.Den)), .v e79, .v e80, .v e76, .v e77] [3, 4, 22, 23, 24, 26, 28] [e20, e89, e13, e7, e19, (26, (iv x24)), (28, (.agg e4))] [.idx Aa x24 p0.length, .cell e42 (iv (e69.Num)), .cell (e42.add 1) (iv (e69.Den)), .cell (e42.add 2) e79, .cell (e42.add 3) e80, .cell (e42.add 4) e76, .cell (e42.add 5) e77] (fun fb => by kernel_rfl) rfl ⟨rowR.adr (hS34.rd 0).1 h37.1 h37.2, rowR.cell (hS34.rd 0).1 z_Piece h37.1 h37.2 0 rfl, rowR.cell (hS34.rd 0).1 z_Piece h37.1 h37.2 1 rfl, rowR.cell (hS34.rd 0).1 z_Piece h37.1 h37.2 2 rfl, rowR.cell (hS34.rd 0).1 z_Piece h37.1 h37.2 3 rfl, rowR.cell (hS34.rd 0).1 z_Piece h37.1 h37.2 4 rfl, rowR.cell (hS34.rd 0).1 z_Piece h37.1 h37.2 5 rfl, trivial⟩ ?_
    refine WL.new hS34 6 [] (fun g => (pt g)) (.cells #[(iv 0), (iv 0), (iv 0), (iv 0), (iv 0), (iv 0)] 66 (0, 0)) [] (fun fb g => by kernel_rfl) trivial (fun g38 w39 hS40 => ?_)
    refine ⟨trivial, ?_⟩
    refine sg 5 [] [3, 4, 5, 6, 22, 23, 24, 28] [e20, e89, e23, (6, (pt g38)), e13, e7, e19, (28, (.agg e4))] (by kernel_rfl) ?_
    refine WL.store hS40 0 rfl [(0, (iv (e69.Num))), (1, (iv (e69.Den))), (2, e79), (3, e80), (4, e76), (5, e77)] e4 (fun fb => by kernel_rfl) (by kernel_rfl) rfl e74 (by decide) (by decide) (fun w41 hS42 => ?_)
    refine ⟨trivial, ?_⟩
    refine WL.done rfl (WX.next (WC.seq (WC.region ?_)))
    refine seg 2 [.v (iv (e69.Num)), .v (iv (e69.Den)), .v e79, .v e80, .v e76, .v e77] [3, 5, 22, 23, 24, 29, 30] [e20, e23, e13, e7, e19, (29, (sv A20 l22 c21)), (30, (.agg e4))] [.cell ⟨g38, 0, none⟩ (iv (e69.Num)), .cell ⟨g38, 1, none⟩ (iv (e69.Den)), .cell ⟨g38, 2, none⟩ e79, .cell ⟨g38, 3, none⟩ e80, .cell ⟨g38, 4, none⟩ e76, .cell ⟨g38, 5, none⟩ e77] (fun fb => by kernel_rfl) rfl ⟨hS42.cell 0 rfl 0 rfl, hS42.cell 0 rfl 1 rfl, hS42.cell 0 rfl 2 rfl, hS42.cell 0 rfl 3 rfl, hS42.cell 0 rfl 4 rfl, hS42.cell 0 rfl 5 rfl, trivial⟩ ?_
    obtain ⟨t43, ht44, hl35⟩ := bind_some hl35
    refine WL.call (some 31) 87 #[(.agg e4)] (fun fb => by kernel_rfl) (beatty_marks_calls _ e16 t43 _ ht44) (fun v w45 hR46 => ?_)
    obtain ⟨A48, c49, rfl, hk_⟩ := hR46
    have hS47 := hS15.go w45 [rowO 135 enc_Mark A48 c49 t43, blk g38 (.cells #[(iv (((rdD p0 x24 z_Piece).Factor).Num)), (iv (((rdD p0 x24 z_Piece).Factor).Den)), (iv (((rdD p0 x24 z_Piece).Low).Num)), (iv (((rdD p0 x24 z_Piece).Low).Den)), (iv (((rdD p0 x24 z_Piece).High).Num)), (iv (((rdD p0 x24 z_Piece).High).Den))] 66 (0, 0)), blk g10 (.cells #[(.slice Aa p0.length ca), (.slice none 0 0), (.slice none 0 0), (.slice none 0 0), (.slice A16 l18.length c17), (.map (some g7)), (iv (-1))] 82 (0, 0)), rowO 100 enc_Carry A16 c17 l18, blk g7 (mapObj (aggI ints_Carry) (vI .i64) l19), rowO 132 (encSl Mark) A20 c21 (tag H23 l22), rowsO 135 enc_Mark H23 l22] (hS42.call hk_ [] [0, 1, 2, 3, 4, 5] (fun g hg => hg.elim) (by simp) (by decide))
    refine ⟨trivial, ?_⟩
    refine WL.new hS47 32 [] (fun g => (.slice (some ⟨g, 0, none⟩) 1 1)) (.cells #[(sv A48 t43 c49)] 132 (0, 0)) [] (fun fb g => by kernel_rfl) trivial (fun g50 w51 hS52 => ?_)
    refine ⟨trivial, ?_⟩
    have hS53 := hS47.go w51 [rowO 132 e47 (some ⟨g50, 0, none⟩) 1 (tag (fun _ => (A48, c49)) [t43]), rowO 135 enc_Mark A48 c49 t43, blk g38 (.cells e4 66 (0, 0)), blk g10 (.cells #[e44, (.slice none 0 0), (.slice none 0 0), (.slice none 0 0), (sv A16 l18 c17), (.map (some g7)), (iv (-1))] 82 (0, 0)), rowO 100 enc_Carry A16 c17 l18, blk g7 (mapObj e30 (vI .i64) l19), rowO 132 e47 A20 c21 (tag H23 l22), rowsO 135 enc_Mark H23 l22] (hS52.map1 0 _ (fun h => rowO.ofBlk h rfl (Nat.le_of_ble_eq_true (by kernel_rfl))) (fun _ h => by obtain ⟨_, h1, h2⟩ := h; injection h1 with h1; subst h1; exact h2) [1, 2, 3, 4, 5, 6, 7] (by decide) (by decide))
    have hS54 := hS53.go w51 [rowsO 135 enc_Mark (fun _ => (A48, c49)) [t43], rowO 132 e47 (some ⟨g50, 0, none⟩) 1 (tag (fun _ => (A48, c49)) [t43]), blk g38 (.cells e4 66 (0, 0)), blk g10 (.cells #[e44, (.slice none 0 0), (.slice none 0 0), (.slice none 0 0), (sv A16 l18 c17), (.map (some g7)), (iv (-1))] 82 (0, 0)), rowO 100 enc_Carry A16 c17 l18, blk g7 (mapObj e30 (vI .i64) l19), rowO 132 e47 A20 c21 (tag H23 l22), rowsO 135 enc_Mark H23 l22] (hS53.rowsOne 1 rfl [0, 2, 3, 4, 5, 6, 7] (by decide) (by decide))
    obtain ⟨h55, hl35⟩ := as_some hl35
    refine WL.appendN hS54 6 (d := 33) (tS := 131) (z := (.slice none 0 0)) (bytes := 24) (c2 := 1) (hx := (A48, c49)) (x := t43) rfl (fun fb => by kernel_rfl) (rowO.rd (hS54.own 1).1) (by kernel_rfl) (by kernel_rfl) rfl (by decide) h55 (by decide) [0, 1, 2, 3, 4, 5, 7] (by decide) (by decide) (fun A56 c57 w58 hS59 => ?_)
    have hS60 := hS54.go w58 [rowsO 135 enc_Mark (updH H23 l22.length (A48, c49)) (l22 ++ [t43]), rowO 132 e47 A56 c57 (tag (updH H23 l22.length (A48, c49)) (l22 ++ [t43])), rowO 132 e47 (some ⟨g50, 0, none⟩) 1 (tag (fun _ => (A48, c49)) [t43]), blk g38 (.cells e4 66 (0, 0)), blk g10 (.cells #[e44, (.slice none 0 0), (.slice none 0 0), (.slice none 0 0), (sv A16 l18 c17), (.map (some g7)), (iv (-1))] 82 (0, 0)), rowO 100 enc_Carry A16 c17 l18, blk g7 (mapObj e30 (vI .i64) l19)] (hS59.rowsPush 7 1 rfl rfl (by decide) [0, 2, 3, 4, 5, 6] (by decide) (by decide))
    refine ⟨trivial, ?_⟩
    refine sg 6 [] [3, 4, 5, 22, 23, 24] [e20, (4, (sv A56 (l22 ++ [t43]) c57)), e23, e13, e7, e19] (by kernel_rfl) ?_
    refine WL.done rfl (WX.next (WC.seq (WC.region ?_)))
    refine sg 2 [] [3, 4, 5, 22, 23, 24, 34, 35] [e20, (4, (sv A56 (l22 ++ [t43]) c57)), e23, e13, e7, e19, (34, (sv A56 (l22 ++ [t43]) c57)), (35, (iv x24))] (by kernel_rfl) ?_
    obtain ⟨h61, hl35⟩ := as_some hl35
    let e29 := sv (((updH H23 l22.length (A48, c49)) x24.toNat).1) (rdD (l22 ++ [t43]) x24 []) (((updH H23 l22.length (A48, c49)) x24.toNat).2)
    refine seg 6 [.v e29] e52 [e20, (4, (sv A56 (l22 ++ [t43]) c57)), e23, e13, e7, e19, (37, e29), (38, (iv ((rdD (l22 ++ [t43]) x24 []).length : Int))), (39, (iv 0))] [.idx A56 x24 (l22 ++ [t43]).length, .cell ((adr A56).add ((x24).toNat * 1)) e29] (fun fb => by kernel_rfl) rfl ⟨nrow_adr (rowO.rd (hS60.own 1).1) h61.1 h61.2, nrow_cell (rowO.rd (hS60.own 1).1) [] h61.1 h61.2 0 rfl, trivial⟩ ?_
    refine WL.done rfl (WX.next ?_)
    obtain ⟨x71, hx72, hl35⟩ := bind_some hl35
    let e3 : Nat × Value := (37, e29)
    let e5 : Nat × Value := (38, (iv ((rdD (l22 ++ [t43]) x24 []).length : Int)))
    let e9 : Nat × Value := (4, (sv A56 (l22 ++ [t43]) c57))
    let e14 := updH H23 l22.length (A48, c49)
    let e34 := l22 ++ [t43]
    let e81 := tag e14 e34
    refine WC.cutN (T := (e84 × e50) × e64 × Nat) (fun t => [e20, e9, e13, e7, e19]) (fun t w1 => St NoS w w1 e39 [blk g10 (.cells #[e44, (.slice none 0 0), (.slice none 0 0), (.slice none 0 0), (sv t.2.1 t.1.1 t.2.2), (.map (some g7)), (iv (-1))] 82 (0, 0)), rowO 100 enc_Carry t.2.1 t.2.2 t.1.1, blk g7 (mapObj e30 (vI .i64) t.1.2), rowO 132 e47 A56 c57 e81, rowsO 135 enc_Mark e14 e34] ∧ x71 = t.1) (fun Kx71 => ?_) ?_
    ·
     refine WC.block ?_
     refine WC.loop (T := (e84 × e50 × Int) × e64 × Nat) (fun t => [e20, e9, e23, e13, e7, e19, e3, e5, (39, (iv t.1.2.2))]) (fun n t w1 => St NoS w w1 e39 [blk g10 (.cells #[e44, (.slice none 0 0), (.slice none 0 0), (.slice none 0 0), (sv t.2.1 t.1.1 t.2.2), (.map (some g7)), (iv (-1))] 82 (0, 0)), rowO 100 enc_Carry t.2.1 t.2.2 t.1.1, blk g7 (mapObj e30 (vI .i64) t.1.2.1), rowO 132 e47 A56 c57 e81, rowsO 135 enc_Mark e14 e34] ∧ beatty_houseOf.l1 n t.1.1 t.1.2.1 t.1.2.2 l22 x24 t43 = some x71) k32 ((l18, l19, 0), A16, c17) e52 rfl ⟨(hS60.subR [0]).sub [4, 5, 6, 1, 0] (by decide), hx72⟩ ?_
     rintro k73 ⟨⟨l65, l67, x68⟩, A62, c63⟩ w74 ⟨hS75, hl76⟩
     let e1 := rdD (rdD e34 x24 []) x68 z_Mark
     let e11 : Array Value := #[(iv (e1.west)), (iv (e1.east))]
     let e25 : Nat × Value := (39, (iv x68))
     let e26 := iv (e1.west)
     let e27 := iv (e1.east)
     let e31 := Carry.mk x24 (e1.west)
     let e32 := Carry.mk x24 (e1.east)
     let e48 := (adr ((e14 x24.toNat).1)).add ((x68).toNat * 4)
     let e72 : Array Value := #[(iv x24), e26]
     let e73 : Array Value := #[(iv x24), e27]
     cases k73 with
     | zero => rw [beatty_houseOf.l1] at hl76; cases hl76
     | succ k73 =>
      rw [beatty_houseOf.l1] at hl76
      refine WC.seq (WC.region ?_)
      refine sg 1 [] [3, 4, 5, 22, 23, 24, 37, 38, 39, 40] [e20, e9, e23, e13, e7, e19, e3, e5, e25, (40, (bv (decide (x68 < ((rdD e34 x24 []).length : Int)))))] (by kernel_rfl) ?_
      refine WL.done rfl (WX.next (WC.seq ?_))
      rcases br_some hl76 with ⟨h77, hl76⟩ | ⟨h77, hl76⟩
      ·refine WC.condT2 (fun fb => by kernel_rfl) h77 ?_
       refine WC.skip (WX.next (WC.seq (WC.block (WC.seq (WC.region ?_)))))
       obtain ⟨h78, hl76⟩ := as_some hl76
       refine seg 2 [.v (iv (e1.s)), .v (iv (e1.n)), .v e26, .v e27] [3, 4, 5, 22, 23, 24, 37, 38, 39, 42] [e20, e9, e23, e13, e7, e19, e3, e5, e25, (42, (.agg #[(iv (e1.s)), (iv (e1.n)), e26, e27]))] [.idx ((e14 x24.toNat).1) x68 (rdD e34 x24 []).length, .cell e48 (iv (e1.s)), .cell (e48.add 1) (iv (e1.n)), .cell (e48.add 2) e26, .cell (e48.add 3) e27] (fun fb => by kernel_rfl) rfl ⟨rowR.adr (rowO.rd (rowsO.at (hS75.own 4).1 h61.1 h61.2)) h78.1 h78.2, rowR.cell (rowO.rd (rowsO.at (hS75.own 4).1 h61.1 h61.2)) z_Mark h78.1 h78.2 0 rfl, rowR.cell (rowO.rd (rowsO.at (hS75.own 4).1 h61.1 h61.2)) z_Mark h78.1 h78.2 1 rfl, rowR.cell (rowO.rd (rowsO.at (hS75.own 4).1 h61.1 h61.2)) z_Mark h78.1 h78.2 2 rfl, rowR.cell (rowO.rd (rowsO.at (hS75.own 4).1 h61.1 h61.2)) z_Mark h78.1 h78.2 3 rfl, trivial⟩ ?_
       refine WL.new hS75 8 [] (fun g => (pt g)) (.cells #[(iv 0), (iv 0), (iv 0), (iv 0)] 135 (0, 0)) [] (fun fb g => by kernel_rfl) trivial (fun g79 w80 hS81 => ?_)
       refine ⟨trivial, ?_⟩
       refine WL.store hS81 0 rfl [(0, (iv (e1.s))), (1, (iv (e1.n))), (2, e26), (3, e27)] #[(iv (e1.s)), (iv (e1.n)), e26, e27] (fun fb => by kernel_rfl) (by kernel_rfl) rfl e74 (by decide) (by decide) (fun w82 hS83 => ?_)
       refine ⟨trivial, ?_⟩
       refine WL.done rfl (WX.next (WC.seq (WC.region ?_)))
       refine seg 6 [.v e26, .v e27] e22 [e20, e9, e23, e13, e7, e19, e3, e5, e25, (47, (.agg e11)), (48, (iv 0))] [.cell ⟨g79, 2, none⟩ e26, .cell ⟨g79, 3, none⟩ e27] (fun fb => by kernel_rfl) rfl ⟨hS83.cell 0 rfl 2 rfl, hS83.cell 0 rfl 3 rfl, trivial⟩ ?_
       refine WL.done rfl (WX.next ?_)
       obtain ⟨x93, hx94, hl76⟩ := bind_some hl76
       refine WC.cutN (T := (e84 × e50) × e64 × Nat) (fun t => [e20, e9, e23, e13, e7, e19, e3, e5, e25]) (fun t w1 => St NoS w w1 e39 [blk g10 (.cells #[e44, (.slice none 0 0), (.slice none 0 0), (.slice none 0 0), (sv t.2.1 t.1.1 t.2.2), (.map (some g7)), (iv (-1))] 82 (0, 0)), rowO 100 enc_Carry t.2.1 t.2.2 t.1.1, blk g7 (mapObj e30 (vI .i64) t.1.2), rowO 132 e47 A56 c57 e81, rowsO 135 enc_Mark e14 e34] ∧ x93 = t.1) (fun Kx93 => ?_) ?_
       ·
        refine WC.block ?_
        refine WC.loop (T := (e84 × e50 × Int) × e64 × Nat) (fun t => [e20, e9, e23, e13, e7, e19, e3, e5, e25, (47, (.agg e11)), (48, (iv t.1.2.2))]) (fun n t w1 => St NoS w w1 e39 [blk g10 (.cells #[e44, (.slice none 0 0), (.slice none 0 0), (.slice none 0 0), (sv t.2.1 t.1.1 t.2.2), (.map (some g7)), (iv (-1))] 82 (0, 0)), rowO 100 enc_Carry t.2.1 t.2.2 t.1.1, blk g7 (mapObj e30 (vI .i64) t.1.2.1), rowO 132 e47 A56 c57 e81, rowsO 135 enc_Mark e14 e34] ∧ beatty_houseOf.l2 n t.1.1 t.1.2.1 t.1.2.2 l22 x24 t43 x68 = some x93) k73 ((l65, l67, 0), A62, c63) e22 rfl ⟨(hS83.subR [0]).sub e74 (by decide), hx94⟩ ?_
        rintro k95 ⟨⟨l86, l87, x90⟩, A84, c85⟩ w96 ⟨hS97, hl98⟩
        let e36 : Nat × Value := (48, (iv x90))
        let e55 := sv A84 l86 c85
        cases k95 with
        | zero => rw [beatty_houseOf.l2] at hl98; cases hl98
        | succ k95 =>
         rw [beatty_houseOf.l2] at hl98
         refine WC.seq (WC.region ?_)
         refine sg 1 [] [3, 4, 5, 22, 23, 24, 37, 38, 39, 47, 48, 49] [e20, e9, e23, e13, e7, e19, e3, e5, e25, (47, (.agg e11)), e36, (49, (bv (decide (x90 < 2))))] (by kernel_rfl) ?_
         refine WL.done rfl (WX.next (WC.seq ?_))
         rcases br_some hl98 with ⟨h99, hl98⟩ | ⟨h99, hl98⟩
         ·refine WC.condT2 (fun fb => by kernel_rfl) h99 ?_
          refine WC.skip (WX.next (WC.seq (WC.block (WC.seq (WC.region ?_)))))
          rcases br_some hl98 with ⟨h100, hl98⟩ | ⟨h100, hl98⟩
          ·
           refine WL.setI 48 (eq_of_beq h100) rfl ?_
           refine sg 1 [] [3, 4, 5, 22, 23, 24, 37, 38, 39, 47, 48, 50] [e20, e9, e23, e13, e7, e19, e3, e5, e25, (47, (.agg e11)), (48, (iv 0)), (50, e26)] (by kernel_rfl) ?_
           refine WL.setI 48 (eq_of_beq h100).symm rfl ?_
           refine sg 2 [] [3, 4, 5, 10, 22, 23, 24, 37, 38, 39, 47, 48] [e20, e9, e23, (10, e26), e13, e7, e19, e3, e5, e25, (47, (.agg e11)), e36] (by kernel_rfl) ?_
           refine WL.done rfl (WX.next (WC.seq (WC.region ?_)))
           refine sg 3 [] [3, 4, 5, 22, 23, 24, 37, 38, 39, 47, 48, 53] [e20, e9, e23, e13, e7, e19, e3, e5, e25, (47, (.agg e11)), e36, (53, (.agg e72))] (by kernel_rfl) ?_
           refine WL.new hS97 11 [] (fun g => (pt g)) (.cells #[(iv 0), (iv 0)] 100 (0, 0)) [] (fun fb g => by kernel_rfl) trivial (fun g101 w102 hS103 => ?_)
           refine ⟨trivial, ?_⟩
           refine WL.store hS103 0 rfl [(0, (iv x24)), (1, e26)] e72 (fun fb => by kernel_rfl) (by kernel_rfl) rfl e74 (by decide) (by decide) (fun w104 hS105 => ?_)
           refine ⟨trivial, ?_⟩
           refine WL.done rfl (WX.next (WC.seq ?_))
           refine WC.regionD ([(3, ⟨g10, 5, none⟩, (.map (some g7))), (4, ⟨g101, 0, none⟩, (iv x24)), (4, ⟨g101, 1, none⟩, e26)], [0, 1, 2, 3, 4, 6], e88) [[0, 1, 2, 3, 4, 5, 6]] (by kernel_rfl) (by kernel_rfl) (NoPanic.seq (NoPanic.block (NoPanic.seq (NoPanic.seq (NoPanic.block (NoPanic.block (NoPanic.seq (NoPanic.seq (NoPanic.block (NoPanic.block (NoPanic.seq (NoPanic.seq (NoPanic.block (NoPanic.seq (NoPanic.body))))))))))))))) ?_
           have hS107 := hS105.drew
           revert hS107
           generalize World.drew w104 = w106
           intro hS107
           refine ⟨⟨hS107.cell 1 rfl 5 rfl, hS107.cell 0 rfl 0 rfl, hS107.cell 0 rfl 1 rfl, trivial⟩, forallC ?_ (forallN)⟩
           refine segF 5 [.v (.map (some g7)), .v (iv x24), .v e26] e92 [e20, e9, e23, (11, (pt g101)), e13, e7, e19, e3, e5, e25, (47, (.agg e11)), e36, (57, (.map (some g7))), (58, (.agg e72))] [] [0, 1, 2] [(3, ⟨g10, 5, none⟩, (.map (some g7))), (4, ⟨g101, 0, none⟩, (iv x24)), (4, ⟨g101, 1, none⟩, e26)] (fun fb => by kernel_rfl) rfl trivial rfl ?_
           refine WL.lookup (hS107.own 3).1 e31 (d := 59) (c := false) (t := 80) (kT := 100) (eT := 3) (z := 0) (kE := e30) (vE := (vI .i64)) (l := l87) (iv (mget e31 0 l87)) (fun fb => by kernel_rfl) beatty_houseOf_key100 (by kernel_rfl) (fun _ => by kernel_rfl) rfl ?_
           refine ⟨trivial, ?_⟩
           refine sg 7 [] [3, 4, 5, 11, 22, 23, 24, 37, 38, 39, 47, 48, 60] [e20, e9, e23, (11, (pt g101)), e13, e7, e19, e3, e5, e25, (47, (.agg e11)), e36, (60, (bv ((mget e31 0 l87) == 0)))] (by kernel_rfl) ?_
           refine WL.done rfl (WX.next ?_)
           obtain ⟨x110, hx111, hl98⟩ := bind_some hl98
           let e67 : List (Nat × Addr × Value) := [(4, ⟨g10, 4, none⟩, e55), (5, ⟨g101, 0, none⟩, (iv x24)), (5, ⟨g101, 1, none⟩, e26)]
           refine WC.cutN (T := (e84 × e50) × e64 × Nat) (fun t => [e20, e9, e23, e13, e7, e19, e3, e5, e25, (47, (.agg e11)), e36]) (fun t w1 => St NoS w w1 e39 [blk g10 (.cells #[e44, (.slice none 0 0), (.slice none 0 0), (.slice none 0 0), (sv t.2.1 t.1.1 t.2.2), (.map (some g7)), (iv (-1))] 82 (0, 0)), rowO 100 enc_Carry t.2.1 t.2.2 t.1.1, blk g7 (mapObj e30 (vI .i64) t.1.2), rowO 132 e47 A56 c57 e81, rowsO 135 enc_Mark e14 e34] ∧ x110 = t.1) (fun Kx110 => ?_) ?_
           ·
            rcases br_some hx111 with ⟨h112, hx111⟩ | ⟨h112, hx111⟩
            ·refine WC.condT2 (fun fb => by kernel_rfl) h112 ?_
             refine WC.seq ?_
             refine WC.regionD ([(3, ⟨g10, 5, none⟩, (.map (some g7))), (4, ⟨g101, 0, none⟩, (iv x24)), (4, ⟨g101, 1, none⟩, e26)], e43, [[], [0], [0, 1], [0, 1, 2], [], e43]) [[0, 1, 2, 3, 4, 5]] (by kernel_rfl) (by kernel_rfl) (NoPanic.seq (NoPanic.block (NoPanic.seq (NoPanic.seq (NoPanic.block (NoPanic.block (NoPanic.seq (NoPanic.seq (NoPanic.block (NoPanic.block (NoPanic.seq (NoPanic.seq (NoPanic.block (NoPanic.seq (NoPanic.body))))))))))))))) ?_
             have hS114 := hS107.drew
             revert hS114
             generalize World.drew w106 = w113
             intro hS114
             refine ⟨⟨hS114.cell 1 rfl 5 rfl, hS114.cell 0 rfl 0 rfl, hS114.cell 0 rfl 1 rfl, trivial⟩, forallC ?_ (forallN)⟩
             refine segF 5 [.v (.map (some g7)), .v (iv x24), .v e26] e93 [e20, e9, e23, (11, (pt g101)), e13, e7, e19, e3, e5, e25, (47, (.agg e11)), e36, (64, (.map (some g7))), (65, (.agg e72))] [] [0, 1, 2] [(3, ⟨g10, 5, none⟩, (.map (some g7))), (4, ⟨g101, 0, none⟩, (iv x24)), (4, ⟨g101, 1, none⟩, e26)] (fun fb => by kernel_rfl) rfl trivial rfl ?_
             refine WL.mapput hS114 3 (t := 80) (kT := 100) (eT := 3) (kE := e30) (vE := (vI .i64)) (l := l87) rfl e31 1 (fun fb => by kernel_rfl) beatty_houseOf_key100 (by kernel_rfl) [0, 1, 2, 4, 5] (by decide) (by decide) (fun w115 hS116 => ?_)
             refine ⟨trivial, ?_⟩
             refine WL.done rfl (WX.next ?_)
             refine WC.regionD (e67, [0, 1, 2, 3, 4, 5, 8, 9], e41) [[0, 1, 2, 3, 4, 5, 6, 7, 8, 9, 10]] (by kernel_rfl) (by kernel_rfl) (NoPanic.block (NoPanic.seq (NoPanic.seq (NoPanic.block (NoPanic.block (NoPanic.seq (NoPanic.seq (NoPanic.block (NoPanic.block (NoPanic.seq (NoPanic.seq (NoPanic.block (NoPanic.seq (NoPanic.body)))))))))))))) ?_
             have hS118 := hS116.drew
             revert hS118
             generalize World.drew w115 = w117
             intro hS118
             refine ⟨⟨hS118.cell 2 rfl 4 rfl, hS118.cell 1 rfl 0 rfl, hS118.cell 1 rfl 1 rfl, trivial⟩, forallC ?_ (forallN)⟩
             refine segF 6 [.v e55, .v (iv x24), .v e26] e94 [e20, e9, e23, e13, e7, e19, e3, e5, e25, (47, (.agg e11)), e36, (66, (pt g10)), (70, e55), (71, (.agg e72))] [] [0, 1, 2] e67 (fun fb => by kernel_rfl) rfl trivial rfl ?_
             refine WL.new hS118 72 [] (fun g => (.slice (some ⟨g, 0, none⟩) 1 1)) (.cells e72 100 (0, 0)) [] (fun fb g => by kernel_rfl) trivial (fun g119 w120 hS121 => ?_)
             refine ⟨⟨hS121.cell 3 rfl 4 rfl, trivial⟩, ?_⟩
             have hS122 := hS60.go w120 [rowO 100 enc_Carry (some ⟨g119, 0, none⟩) 1 [e31], blk g7 (mapObj e30 (vI .i64) (mput e31 1 l87)), blk g101 (.cells e72 100 (0, 0)), blk g10 (.cells #[e44, (.slice none 0 0), (.slice none 0 0), (.slice none 0 0), e55, (.map (some g7)), (iv (-1))] 82 (0, 0)), rowO 100 enc_Carry A84 c85 l86, rowO 132 e47 A56 c57 e81, rowsO 135 enc_Mark e14 e34] (hS121.map1 0 _ (fun h => rowO.ofBlk h rfl (Nat.le_of_ble_eq_true (by kernel_rfl))) (fun _ h => by obtain ⟨_, h1, h2⟩ := h; injection h1 with h1; subst h1; exact h2) [1, 2, 3, 4, 5, 6] (by decide) (by decide))
             obtain ⟨h123, hx111⟩ := as_some hx111
             refine WL.append hS122 4 (d := 73) (tS := 79) (z := (.agg #[(iv 0), (iv 0)])) (bytes := 16) (c2 := 1) rfl (fun fb => by kernel_rfl) (rowO.rd (hS122.own 0).1) (by kernel_rfl) (by kernel_rfl) rfl (by decide) h123 (by decide) [0, 1, 2, 3, 5, 6] (by decide) (by decide) (fun A124 c125 w126 hS127 => ?_)
             refine ⟨trivial, ?_⟩
             refine sg 10 [] [3, 4, 5, 22, 23, 24, 37, 38, 39, 47, 48, 73, 75] [e20, e9, e23, e13, e7, e19, e3, e5, e25, (47, (.agg e11)), e36, (73, (sv A124 (l86 ++ [e31]) c125)), (75, (.pointer (some ⟨g10, 4, none⟩)))] (by kernel_rfl) ?_
             refine WL.store hS127 4 rfl [(4, (sv A124 (l86 ++ [e31]) c125))] #[e44, (.slice none 0 0), (.slice none 0 0), (.slice none 0 0), (sv A124 (l86 ++ [e31]) c125), (.map (some g7)), (iv (-1))] (fun fb => by kernel_rfl) (by kernel_rfl) rfl [0, 1, 2, 3, 5, 6] (by decide) (by decide) (fun w128 hS129 => ?_)
             refine ⟨trivial, ?_⟩
             refine WL.done rfl ?_
             injection hx111 with hx111
             exact WX.to Kx110 ((l86 ++ [e31], mput e31 1 l87), A124, c125) e22 rfl ⟨(hS129.subR [0]).sub [0, 1, 3, 5, 6] (by decide), hx111.symm⟩
            refine WC.condF2 (fun fb => by kernel_rfl) h112 ?_
            refine WC.skip ?_
            injection hx111 with hx111
            exact WX.to Kx110 ((l86, l87), A84, c85) e22 rfl ⟨(hS107.subR [0]).sub e74 (by decide), hx111.symm⟩
           rintro ⟨y133, A108, c109⟩ w130 ⟨hS131, hq132⟩
           subst hq132
           refine WX.blockN (WX.next ?_)
           refine WC.region ?_
           refine sg 2 [] e22 [e20, e9, e23, e13, e7, e19, e3, e5, e25, (47, (.agg e11)), (48, (iv (w64 (x90 + 1))))] (by kernel_rfl) ?_
           refine WL.done rfl ?_
           exact WX.again k95 (Nat.lt_succ_self _) ((x110.1, x110.2, w64 (x90 + 1)), A108, c109) e22 rfl ⟨(hS131.subR [0]).sub e43 (by decide), hl98⟩
          rcases br_some hl98 with ⟨h134, hl98⟩ | ⟨h134, hl98⟩
          ·
           refine WL.setI 48 (eq_of_beq h134) rfl ?_
           refine sg 1 [] [3, 4, 5, 22, 23, 24, 37, 38, 39, 47, 48, 50] [e20, e9, e23, e13, e7, e19, e3, e5, e25, (47, (.agg e11)), (48, (iv 1)), (50, e27)] (by kernel_rfl) ?_
           refine WL.setI 48 (eq_of_beq h134).symm rfl ?_
           refine sg 2 [] [3, 4, 5, 10, 22, 23, 24, 37, 38, 39, 47, 48] [e20, e9, e23, (10, e27), e13, e7, e19, e3, e5, e25, (47, (.agg e11)), e36] (by kernel_rfl) ?_
           refine WL.done rfl (WX.next (WC.seq (WC.region ?_)))
           refine sg 3 [] [3, 4, 5, 22, 23, 24, 37, 38, 39, 47, 48, 53] [e20, e9, e23, e13, e7, e19, e3, e5, e25, (47, (.agg e11)), e36, (53, (.agg e73))] (by kernel_rfl) ?_
           refine WL.new hS97 11 [] (fun g => (pt g)) (.cells #[(iv 0), (iv 0)] 100 (0, 0)) [] (fun fb g => by kernel_rfl) trivial (fun g135 w136 hS137 => ?_)
           refine ⟨trivial, ?_⟩
           refine WL.store hS137 0 rfl [(0, (iv x24)), (1, e27)] e73 (fun fb => by kernel_rfl) (by kernel_rfl) rfl e74 (by decide) (by decide) (fun w138 hS139 => ?_)
           refine ⟨trivial, ?_⟩
           refine WL.done rfl (WX.next (WC.seq ?_))
           refine WC.regionD ([(3, ⟨g10, 5, none⟩, (.map (some g7))), (4, ⟨g135, 0, none⟩, (iv x24)), (4, ⟨g135, 1, none⟩, e27)], [0, 1, 2, 3, 4, 6], e88) [[0, 1, 2, 3, 4, 5, 6]] (by kernel_rfl) (by kernel_rfl) (NoPanic.seq (NoPanic.block (NoPanic.seq (NoPanic.seq (NoPanic.block (NoPanic.block (NoPanic.seq (NoPanic.seq (NoPanic.block (NoPanic.block (NoPanic.seq (NoPanic.seq (NoPanic.block (NoPanic.seq (NoPanic.body))))))))))))))) ?_
           have hS141 := hS139.drew
           revert hS141
           generalize World.drew w138 = w140
           intro hS141
           refine ⟨⟨hS141.cell 1 rfl 5 rfl, hS141.cell 0 rfl 0 rfl, hS141.cell 0 rfl 1 rfl, trivial⟩, forallC ?_ (forallN)⟩
           refine segF 5 [.v (.map (some g7)), .v (iv x24), .v e27] e92 [e20, e9, e23, (11, (pt g135)), e13, e7, e19, e3, e5, e25, (47, (.agg e11)), e36, (57, (.map (some g7))), (58, (.agg e73))] [] [0, 1, 2] [(3, ⟨g10, 5, none⟩, (.map (some g7))), (4, ⟨g135, 0, none⟩, (iv x24)), (4, ⟨g135, 1, none⟩, e27)] (fun fb => by kernel_rfl) rfl trivial rfl ?_
           refine WL.lookup (hS141.own 3).1 e32 (d := 59) (c := false) (t := 80) (kT := 100) (eT := 3) (z := 0) (kE := e30) (vE := (vI .i64)) (l := l87) (iv (mget e32 0 l87)) (fun fb => by kernel_rfl) beatty_houseOf_key100 (by kernel_rfl) (fun _ => by kernel_rfl) rfl ?_
           refine ⟨trivial, ?_⟩
           refine sg 7 [] [3, 4, 5, 11, 22, 23, 24, 37, 38, 39, 47, 48, 60] [e20, e9, e23, (11, (pt g135)), e13, e7, e19, e3, e5, e25, (47, (.agg e11)), e36, (60, (bv ((mget e32 0 l87) == 0)))] (by kernel_rfl) ?_
           refine WL.done rfl (WX.next ?_)
           obtain ⟨x144, hx145, hl98⟩ := bind_some hl98
           let e68 : List (Nat × Addr × Value) := [(4, ⟨g10, 4, none⟩, e55), (5, ⟨g135, 0, none⟩, (iv x24)), (5, ⟨g135, 1, none⟩, e27)]
           refine WC.cutN (T := (e84 × e50) × e64 × Nat) (fun t => [e20, e9, e23, e13, e7, e19, e3, e5, e25, (47, (.agg e11)), e36]) (fun t w1 => St NoS w w1 e39 [blk g10 (.cells #[e44, (.slice none 0 0), (.slice none 0 0), (.slice none 0 0), (sv t.2.1 t.1.1 t.2.2), (.map (some g7)), (iv (-1))] 82 (0, 0)), rowO 100 enc_Carry t.2.1 t.2.2 t.1.1, blk g7 (mapObj e30 (vI .i64) t.1.2), rowO 132 e47 A56 c57 e81, rowsO 135 enc_Mark e14 e34] ∧ x144 = t.1) (fun Kx144 => ?_) ?_
           ·
            rcases br_some hx145 with ⟨h146, hx145⟩ | ⟨h146, hx145⟩
            ·refine WC.condT2 (fun fb => by kernel_rfl) h146 ?_
             refine WC.seq ?_
             refine WC.regionD ([(3, ⟨g10, 5, none⟩, (.map (some g7))), (4, ⟨g135, 0, none⟩, (iv x24)), (4, ⟨g135, 1, none⟩, e27)], e43, [[], [0], [0, 1], [0, 1, 2], [], e43]) [[0, 1, 2, 3, 4, 5]] (by kernel_rfl) (by kernel_rfl) (NoPanic.seq (NoPanic.block (NoPanic.seq (NoPanic.seq (NoPanic.block (NoPanic.block (NoPanic.seq (NoPanic.seq (NoPanic.block (NoPanic.block (NoPanic.seq (NoPanic.seq (NoPanic.block (NoPanic.seq (NoPanic.body))))))))))))))) ?_
             have hS148 := hS141.drew
             revert hS148
             generalize World.drew w140 = w147
             intro hS148
             refine ⟨⟨hS148.cell 1 rfl 5 rfl, hS148.cell 0 rfl 0 rfl, hS148.cell 0 rfl 1 rfl, trivial⟩, forallC ?_ (forallN)⟩
             refine segF 5 [.v (.map (some g7)), .v (iv x24), .v e27] e93 [e20, e9, e23, (11, (pt g135)), e13, e7, e19, e3, e5, e25, (47, (.agg e11)), e36, (64, (.map (some g7))), (65, (.agg e73))] [] [0, 1, 2] [(3, ⟨g10, 5, none⟩, (.map (some g7))), (4, ⟨g135, 0, none⟩, (iv x24)), (4, ⟨g135, 1, none⟩, e27)] (fun fb => by kernel_rfl) rfl trivial rfl ?_
             refine WL.mapput hS148 3 (t := 80) (kT := 100) (eT := 3) (kE := e30) (vE := (vI .i64)) (l := l87) rfl e32 1 (fun fb => by kernel_rfl) beatty_houseOf_key100 (by kernel_rfl) [0, 1, 2, 4, 5] (by decide) (by decide) (fun w149 hS150 => ?_)
             refine ⟨trivial, ?_⟩
             refine WL.done rfl (WX.next ?_)
             refine WC.regionD (e68, [0, 1, 2, 3, 4, 5, 8, 9], e41) [[0, 1, 2, 3, 4, 5, 6, 7, 8, 9, 10]] (by kernel_rfl) (by kernel_rfl) (NoPanic.block (NoPanic.seq (NoPanic.seq (NoPanic.block (NoPanic.block (NoPanic.seq (NoPanic.seq (NoPanic.block (NoPanic.block (NoPanic.seq (NoPanic.seq (NoPanic.block (NoPanic.seq (NoPanic.body)))))))))))))) ?_
             have hS152 := hS150.drew
             revert hS152
             generalize World.drew w149 = w151
             intro hS152
             refine ⟨⟨hS152.cell 2 rfl 4 rfl, hS152.cell 1 rfl 0 rfl, hS152.cell 1 rfl 1 rfl, trivial⟩, forallC ?_ (forallN)⟩
             refine segF 6 [.v e55, .v (iv x24), .v e27] e94 [e20, e9, e23, e13, e7, e19, e3, e5, e25, (47, (.agg e11)), e36, (66, (pt g10)), (70, e55), (71, (.agg e73))] [] [0, 1, 2] e68 (fun fb => by kernel_rfl) rfl trivial rfl ?_
             refine WL.new hS152 72 [] (fun g => (.slice (some ⟨g, 0, none⟩) 1 1)) (.cells e73 100 (0, 0)) [] (fun fb g => by kernel_rfl) trivial (fun g153 w154 hS155 => ?_)
             refine ⟨⟨hS155.cell 3 rfl 4 rfl, trivial⟩, ?_⟩
             have hS156 := hS60.go w154 [rowO 100 enc_Carry (some ⟨g153, 0, none⟩) 1 [e32], blk g7 (mapObj e30 (vI .i64) (mput e32 1 l87)), blk g135 (.cells e73 100 (0, 0)), blk g10 (.cells #[e44, (.slice none 0 0), (.slice none 0 0), (.slice none 0 0), e55, (.map (some g7)), (iv (-1))] 82 (0, 0)), rowO 100 enc_Carry A84 c85 l86, rowO 132 e47 A56 c57 e81, rowsO 135 enc_Mark e14 e34] (hS155.map1 0 _ (fun h => rowO.ofBlk h rfl (Nat.le_of_ble_eq_true (by kernel_rfl))) (fun _ h => by obtain ⟨_, h1, h2⟩ := h; injection h1 with h1; subst h1; exact h2) [1, 2, 3, 4, 5, 6] (by decide) (by decide))
             obtain ⟨h157, hx145⟩ := as_some hx145
             refine WL.append hS156 4 (d := 73) (tS := 79) (z := (.agg #[(iv 0), (iv 0)])) (bytes := 16) (c2 := 1) rfl (fun fb => by kernel_rfl) (rowO.rd (hS156.own 0).1) (by kernel_rfl) (by kernel_rfl) rfl (by decide) h157 (by decide) [0, 1, 2, 3, 5, 6] (by decide) (by decide) (fun A158 c159 w160 hS161 => ?_)
             refine ⟨trivial, ?_⟩
             refine sg 10 [] [3, 4, 5, 22, 23, 24, 37, 38, 39, 47, 48, 73, 75] [e20, e9, e23, e13, e7, e19, e3, e5, e25, (47, (.agg e11)), e36, (73, (sv A158 (l86 ++ [e32]) c159)), (75, (.pointer (some ⟨g10, 4, none⟩)))] (by kernel_rfl) ?_
             refine WL.store hS161 4 rfl [(4, (sv A158 (l86 ++ [e32]) c159))] #[e44, (.slice none 0 0), (.slice none 0 0), (.slice none 0 0), (sv A158 (l86 ++ [e32]) c159), (.map (some g7)), (iv (-1))] (fun fb => by kernel_rfl) (by kernel_rfl) rfl [0, 1, 2, 3, 5, 6] (by decide) (by decide) (fun w162 hS163 => ?_)
             refine ⟨trivial, ?_⟩
             refine WL.done rfl ?_
             injection hx145 with hx145
             exact WX.to Kx144 ((l86 ++ [e32], mput e32 1 l87), A158, c159) e22 rfl ⟨(hS163.subR [0]).sub [0, 1, 3, 5, 6] (by decide), hx145.symm⟩
            refine WC.condF2 (fun fb => by kernel_rfl) h146 ?_
            refine WC.skip ?_
            injection hx145 with hx145
            exact WX.to Kx144 ((l86, l87), A84, c85) e22 rfl ⟨(hS141.subR [0]).sub e74 (by decide), hx145.symm⟩
           rintro ⟨y167, A142, c143⟩ w164 ⟨hS165, hq166⟩
           subst hq166
           refine WX.blockN (WX.next ?_)
           refine WC.region ?_
           refine sg 2 [] e22 [e20, e9, e23, e13, e7, e19, e3, e5, e25, (47, (.agg e11)), (48, (iv (w64 (x90 + 1))))] (by kernel_rfl) ?_
           refine WL.done rfl ?_
           exact WX.again k95 (Nat.lt_succ_self _) ((x144.1, x144.2, w64 (x90 + 1)), A142, c143) e22 rfl ⟨(hS165.subR [0]).sub e43 (by decide), hl98⟩
          cases hl98
         refine WC.condF2 (fun fb => by kernel_rfl) h99 ?_
         refine WC.exit ?_
         injection hl98 with hl98
         exact WX.thenX (WX.thenX (WX.blockHere (WX.to Kx93 ((l86, l87), A84, c85) e52 rfl ⟨(hS97.subR [0]).sub e43 (by decide), hl98.symm⟩)))
       rintro ⟨y171, A91, c92⟩ w168 ⟨hS169, hq170⟩
       subst hq170
       refine WX.blockN (WX.next ?_)
       refine WC.region ?_
       refine sg 2 [] e52 [e20, e9, e23, e13, e7, e19, e3, e5, (39, (iv (w64 (x68 + 1))))] (by kernel_rfl) ?_
       refine WL.done rfl ?_
       exact WX.again k73 (Nat.lt_succ_self _) ((x93.1, x93.2, w64 (x68 + 1)), A91, c92) e52 rfl ⟨(hS169.subR [0]).sub e43 (by decide), hl76⟩
      refine WC.condF2 (fun fb => by kernel_rfl) h77 ?_
      refine WC.exit ?_
      injection hl76 with hl76
      exact WX.thenX (WX.thenX (WX.blockHere (WX.to Kx71 ((l65, l67), A62, c63) [3, 4, 22, 23, 24] rfl ⟨(hS75.subR [0]).sub e43 (by decide), hl76.symm⟩)))
    rintro ⟨y175, A69, c70⟩ w172 ⟨hS173, hq174⟩
    subst hq174
    refine WX.blockN (WX.next ?_)
    refine WC.region ?_
    refine sg 2 [] [3, 4, 22, 23, 24] [e20, e9, e13, e7, (24, (iv (w64 (x24 + 1))))] (by kernel_rfl) ?_
    refine WL.done rfl ?_
    exact WX.again k32 (Nat.lt_succ_self _) ((x71.1, x71.2, l22 ++ [t43], w64 (x24 + 1)), A69, c70, A56, c57, e14) [3, 4, 22, 23, 24] rfl ⟨(hS173.subR [0]).sub e43 (by decide), hl35⟩
   refine WC.condF2 (fun fb => by kernel_rfl) h36 ?_
   refine WC.exit ?_
   injection hl35 with hl35
   exact WX.thenX (WX.thenX (WX.blockHere (WX.to Kx30 ((l18, l19, l22), A16, c17, A20, c21, H23) [3, 4] rfl ⟨(hS34.subR [0]).sub e43 (by decide), hl35.symm⟩)))
 rintro ⟨y179, A25, c26, A27, c28, H29⟩ w176 ⟨hS177, hq178⟩
 subst hq178
 refine WX.next (WC.seq (WC.region ?_))
 refine seg 4 [.v (sv A25 x30.1 c26)] [3, 4, 82] [e20, (4, (sv A27 x30.2.2 c28)), (82, (sv A25 x30.1 c26))] [.cell ⟨g10, 4, none⟩ (sv A25 x30.1 c26)] (fun fb => by kernel_rfl) rfl ⟨hS177.cell 0 rfl 4 rfl, trivial⟩ ?_
 obtain ⟨t180, ht181, hf⟩ := bind_some hf
 refine WL.call (some 83) 88 #[(sv A25 x30.1 c26), (.func (.func 89) #[] #[])] (fun fb => by kernel_rfl) (sortK_calls Tryz.sortT88 enc_Carry 89 z_Carry _ (enters_of Tryz.func89 (by kernel_rfl) rfl) (agg_of Tryz.underlying100 rfl) (size_of_ (by kernel_rfl)) (fun x y r w h => beatty_houseOf_1_calls _ x y r w h) drT x30.1 t180 A25 c26 _ (hS177.io [1] (by decide)) ht181) (fun v w182 hR183 => ?_)
 obtain ⟨rfl, hk_⟩ := hR183
 have hS184 := hS15.go w182 [rowO 100 enc_Carry A25 c26 t180, blk g10 (.cells #[e44, (.slice none 0 0), (.slice none 0 0), (.slice none 0 0), (sv A25 x30.1 c26), (.map (some g7)), (iv (-1))] 82 (0, 0)), blk g7 (mapObj e30 (vI .i64) x30.2.1), rowO 132 e47 A27 c28 (tag H29 x30.2.2), rowsO 135 enc_Mark H29 x30.2.2] (hS177.call hk_ [1] [0, 2, 3, 4] (fun g hg => fpL_sel g hg) (by decide) (by decide))
 refine ⟨trivial, ?_⟩
 have hl185 := sortP_len ht181
 have hS186 := hS184.go w182 [rowO 100 enc_Carry A25 c26 t180, blk g10 (.cells #[(.slice Aa p0.length ca), (.slice none 0 0), (.slice none 0 0), (.slice none 0 0), (.slice A25 t180.length c26), (.map (some g7)), (iv (-1))] 82 (0, 0)), blk g7 (mapObj (aggI ints_Carry) (vI .i64) x30.2.1), rowO 132 (encSl Mark) A27 c28 (tag H29 x30.2.2), rowsO 135 enc_Mark H29 x30.2.2] (by simpa only [hl185] using (show St NoS w w182 [rowR enc_Piece Aa ca p0] [rowO 100 enc_Carry A25 c26 t180, blk g10 (.cells #[(.slice Aa p0.length ca), (.slice none 0 0), (.slice none 0 0), (.slice none 0 0), (.slice A25 x30.1.length c26), (.map (some g7)), (iv (-1))] 82 (0, 0)), blk g7 (mapObj (aggI ints_Carry) (vI .i64) x30.2.1), rowO 132 (encSl Mark) A27 c28 (tag H29 x30.2.2), rowsO 135 enc_Mark H29 x30.2.2] from hS184))
 refine WL.done rfl (WX.next (WC.seq (WC.seq (WC.region ?_))))
 refine seg 6 [.v (sv A25 t180 c26)] [3, 4, 87, 88, 89] [e20, (4, (sv A27 x30.2.2 c28)), (87, (sv A25 t180 c26)), (88, (iv (t180.length : Int))), (89, (iv 0))] [.cell ⟨g10, 4, none⟩ (sv A25 t180 c26)] (fun fb => by kernel_rfl) rfl ⟨hS186.cell 1 rfl 4 rfl, trivial⟩ ?_
 refine WL.done rfl (WX.next ?_)
 obtain ⟨x189, hx190, hf⟩ := bind_some hf
 let e37 : Nat × Value := (88, (iv (t180.length : Int)))
 let e40 : Nat × Value := (4, (sv A27 x30.2.2 c28))
 let e53 : Nat × Value := (87, (sv A25 t180 c26))
 refine WC.cutN (T := e50) (fun t => [e20, e40]) (fun t w1 => St NoS w w1 e39 [blk g10 (.cells #[e44, (.slice none 0 0), (.slice none 0 0), (.slice none 0 0), (sv A25 t180 c26), (.map (some g7)), (iv (-1))] 82 (0, 0)), rowO 100 enc_Carry A25 c26 t180, blk g7 (mapObj e30 (vI .i64) t), rowO 132 e47 A27 c28 (tag H29 x30.2.2), rowsO 135 enc_Mark H29 x30.2.2] ∧ x189 = t) (fun Kx189 => ?_) ?_
 ·
  refine WC.block ?_
  refine WC.loop (T := e50 × Int) (fun t => [e20, e40, e53, e37, (89, (iv t.2))]) (fun n t w1 => St NoS w w1 e39 [blk g10 (.cells #[e44, (.slice none 0 0), (.slice none 0 0), (.slice none 0 0), (sv A25 t180 c26), (.map (some g7)), (iv (-1))] 82 (0, 0)), rowO 100 enc_Carry A25 c26 t180, blk g7 (mapObj e30 (vI .i64) t.1), rowO 132 e47 A27 c28 (tag H29 x30.2.2), rowsO 135 enc_Mark H29 x30.2.2] ∧ beatty_houseOf.l3 n t.1 t.2 t180 = some x189) k (x30.2.1, 0) [3, 4, 87, 88, 89] rfl ⟨(hS186.subR [0]).sub [1, 0, 2, 3, 4] (by decide), hx190⟩ ?_
  rintro k191 ⟨l187, x188⟩ w192 ⟨hS193, hl194⟩
  let e18 := rdD t180 x188 z_Carry
  let e54 := iv (e18.piece)
  let e70 := iv (e18.n)
  cases k191 with
  | zero => rw [beatty_houseOf.l3] at hl194; cases hl194
  | succ k191 =>
   rw [beatty_houseOf.l3] at hl194
   refine WC.seq (WC.region ?_)
   refine sg 1 [] [3, 4, 87, 88, 89, 90] [e20, e40, e53, e37, (89, (iv x188)), (90, (bv (decide (x188 < (t180.length : Int)))))] (by kernel_rfl) ?_
   refine WL.done rfl (WX.next (WC.seq ?_))
   rcases br_some hl194 with ⟨h195, hl194⟩ | ⟨h195, hl194⟩
   ·refine WC.condT2 (fun fb => by kernel_rfl) h195 ?_
    refine WC.skip (WX.next (WC.seq (WC.block (WC.seq (WC.region ?_)))))
    refine sg 1 [] [3, 4, 87, 88, 89, 91] [e20, e40, e53, e37, (89, (iv x188)), (91, (iv x188))] (by kernel_rfl) ?_
    obtain ⟨h196, hl194⟩ := as_some hl194
    refine seg 3 [.v e54, .v e70] [3, 4, 87, 88, 89, 91, 93] [e20, e40, e53, e37, (89, (iv x188)), (91, (iv x188)), (93, (.agg #[e54, e70]))] [.idx A25 x188 t180.length, .cell ((adr A25).add ((x188).toNat * 2)) e54, .cell (((adr A25).add ((x188).toNat * 2)).add 1) e70] (fun fb => by kernel_rfl) rfl ⟨rowR.adr (rowO.rd (hS193.own 1).1) h196.1 h196.2, rowR.cell (rowO.rd (hS193.own 1).1) z_Carry h196.1 h196.2 0 rfl, rowR.cell (rowO.rd (hS193.own 1).1) z_Carry h196.1 h196.2 1 rfl, trivial⟩ ?_
    refine WL.new hS193 13 [] (fun g => (pt g)) (.cells #[(iv 0), (iv 0)] 100 (0, 0)) [] (fun fb g => by kernel_rfl) trivial (fun g197 w198 hS199 => ?_)
    refine ⟨trivial, ?_⟩
    refine sg 5 [] [3, 4, 12, 13, 87, 88, 89, 93] [e20, e40, (12, (iv x188)), (13, (pt g197)), e53, e37, (89, (iv x188)), (93, (.agg #[e54, e70]))] (by kernel_rfl) ?_
    refine WL.store hS199 0 rfl [(0, e54), (1, e70)] #[e54, e70] (fun fb => by kernel_rfl) (by kernel_rfl) rfl e74 (by decide) (by decide) (fun w200 hS201 => ?_)
    refine ⟨trivial, ?_⟩
    refine WL.done rfl (WX.next ?_)
    refine WC.regionD ([(3, ⟨g10, 5, none⟩, (.map (some g7))), (4, ⟨g197, 0, none⟩, e54), (4, ⟨g197, 1, none⟩, e70)], [0, 1, 2, 3, 4, 5], [[], [0], [0, 1], [0, 1, 2], [], [], [0, 1, 2, 3, 4, 5]]) [[0, 1, 2, 3, 4, 5, 6]] (by kernel_rfl) (by kernel_rfl) (NoPanic.block (NoPanic.seq (NoPanic.seq (NoPanic.block (NoPanic.seq (NoPanic.body)))))) ?_
    have hS203 := hS201.drew
    revert hS203
    generalize World.drew w200 = w202
    intro hS203
    refine ⟨⟨hS203.cell 1 rfl 5 rfl, hS203.cell 0 rfl 0 rfl, hS203.cell 0 rfl 1 rfl, trivial⟩, forallC ?_ (forallN)⟩
    refine segF 6 [.v (.map (some g7)), .v e54, .v e70] [3, 4, 87, 88, 89, 97, 98, 99] [e20, e40, e53, e37, (89, (iv x188)), (97, (.map (some g7))), (98, (.agg #[e54, e70])), (99, (iv x188))] [] [0, 1, 2] [(3, ⟨g10, 5, none⟩, (.map (some g7))), (4, ⟨g197, 0, none⟩, e54), (4, ⟨g197, 1, none⟩, e70)] (fun fb => by kernel_rfl) rfl trivial rfl ?_
    refine WL.mapput hS203 3 (t := 80) (kT := 100) (eT := 3) (kE := e30) (vE := (vI .i64)) (l := l187) rfl e18 x188 (fun fb => by kernel_rfl) beatty_houseOf_key100 (by kernel_rfl) [0, 1, 2, 4, 5] (by decide) (by decide) (fun w204 hS205 => ?_)
    refine ⟨trivial, ?_⟩
    refine WL.done rfl ?_
    refine WX.blockN (WX.next ?_)
    refine WC.region ?_
    refine sg 2 [] [3, 4, 87, 88, 89] [e20, e40, e53, e37, (89, (iv (w64 (x188 + 1))))] (by kernel_rfl) ?_
    refine WL.done rfl ?_
    exact WX.again k191 (Nat.lt_succ_self _) (mput e18 x188 l187, w64 (x188 + 1)) [3, 4, 87, 88, 89] rfl ⟨(hS205.subR [0]).sub [2, 3, 0, 4, 5] (by decide), hl194⟩
   refine WC.condF2 (fun fb => by kernel_rfl) h195 ?_
   refine WC.exit ?_
   injection hl194 with hl194
   exact WX.thenX (WX.thenX (WX.blockHere (WX.to Kx189 l187 [3, 4] rfl ⟨(hS193.subR [0]).sub e43 (by decide), hl194.symm⟩)))
 rintro y209 w206 ⟨hS207, hq208⟩
 subst hq208
 refine WX.next (WC.seq (WC.seq (WC.region ?_)))
 refine sg 3 [] [3, 101, 102, 103] [e20, (101, (sv A27 x30.2.2 c28)), (102, (iv (x30.2.2.length : Int))), (103, (iv 0))] (by kernel_rfl) ?_
 refine WL.done rfl (WX.next ?_)
 have hS210 := hS207.nilrow 64 enc_Tile
 have hS211 := hS210.nilrow 3 encInt
 have hS212 := hS211.nilrow 3 encInt
 obtain ⟨x230, hx231, hf⟩ := bind_some hf
 let e10 : Nat × Value := (102, (iv (x30.2.2.length : Int)))
 let e15 : Nat × Value := (101, (sv A27 x30.2.2 c28))
 let e35 := sv A25 t180 c26
 let e56 : List Nat := [3, 14, 101, 102, 103, 122, 123, 124]
 let e57 := Option Addr
 let e58 := tag H29 x30.2.2
 let e59 : List Nat := [0, 1, 2, 4, 5, 6, 7, 8, 9]
 let e71 : List Nat := [3, 14, 17, 101, 102, 103, 122, 123, 124, 128, 132, 134, 138, 142, 145, 149, 153]
 let e75 : List Nat := [1, 2, 3, 4, 5, 6, 7, 8, 9]
 let e78 : List Nat := [0, 1, 2, 3, 4, 5, 6, 7, 8, 9, 10, 11]
 let e87 : Array Value := #[(iv 0), (iv 0), (iv 0), (iv 0)]
 let e90 : List Nat := [3, 14, 17, 101, 102, 103, 122, 123, 124, 128, 132, 155]
 refine WC.cutN (T := ((List Tile) × (List Int) × (List Int) × Int) × e57 × Nat × e57 × Nat × e57 × Nat) (fun t => [e20]) (fun t w1 => St NoS w w1 e39 [blk g10 (.cells #[e44, (sv t.2.1 t.1.1 t.2.2.1), (sv t.2.2.2.1 t.1.2.1 t.2.2.2.2.1), (sv t.2.2.2.2.2.1 t.1.2.2.1 t.2.2.2.2.2.2), e35, (.map (some g7)), (iv t.1.2.2.2)] 82 (0, 0)), rowO 64 enc_Tile t.2.1 t.2.2.1 t.1.1, rowO 3 encInt t.2.2.2.1 t.2.2.2.2.1 t.1.2.1, rowO 3 encInt t.2.2.2.2.2.1 t.2.2.2.2.2.2 t.1.2.2.1, rowO 100 enc_Carry A25 c26 t180, blk g7 (mapObj e30 (vI .i64) x189)] ∧ x230 = t.1) (fun Kx230 => ?_) ?_
 ·
  refine WC.block ?_
  refine WC.loop (T := ((List Tile) × (List Int) × (List Int) × Int × Int) × e57 × Nat × e57 × Nat × e57 × Nat) (fun t => [e20, e15, e10, (103, (iv t.1.2.2.2.2))]) (fun n t w1 => St NoS w w1 e39 [blk g10 (.cells #[e44, (sv t.2.1 t.1.1 t.2.2.1), (sv t.2.2.2.1 t.1.2.1 t.2.2.2.2.1), (sv t.2.2.2.2.2.1 t.1.2.2.1 t.2.2.2.2.2.2), e35, (.map (some g7)), (iv t.1.2.2.2.1)] 82 (0, 0)), rowO 64 enc_Tile t.2.1 t.2.2.1 t.1.1, rowO 3 encInt t.2.2.2.1 t.2.2.2.2.1 t.1.2.1, rowO 3 encInt t.2.2.2.2.2.1 t.2.2.2.2.2.2 t.1.2.2.1, rowO 100 enc_Carry A25 c26 t180, blk g7 (mapObj e30 (vI .i64) x189), rowO 132 e47 A27 c28 e58, rowsO 135 enc_Mark H29 x30.2.2] ∧ beatty_houseOf.l4 n t.1.1 t.1.2.1 t.1.2.2.1 t.1.2.2.2.1 t.1.2.2.2.2 x30 x189 = some x230) k ((([] : List Tile), ([] : List Int), ([] : List Int), (-1), 0), none, 0, none, 0, none, 0) [3, 101, 102, 103] rfl ⟨(hS212.subR [0]).sub [3, 2, 1, 0, 4, 5, 6, 7] (by decide), hx231⟩ ?_
  rintro k232 ⟨⟨l215, l218, l221, x222, x223⟩, A213, c214, A216, c217, A219, c220⟩ w233 ⟨hS234, hl235⟩
  let e6 := sv ((H29 x223.toNat).1) (rdD x30.2.2 x223 []) ((H29 x223.toNat).2)
  let e12 : Nat × Value := (123, (iv ((rdD x30.2.2 x223 []).length : Int)))
  let e17 := (l221 ++ [(l215.length : Int)])
  let e28 : Nat × Value := (103, (iv x223))
  let e33 : Nat × Value := (14, (iv x223))
  let e65 : List (Nat × Addr × Value) := [(4, ⟨g10, 3, none⟩, (sv A219 l221 c220)), (8, ⟨g10, 1, none⟩, (sv A213 l215 c214))]
  cases k232 with
  | zero => rw [beatty_houseOf.l4] at hl235; cases hl235
  | succ k232 =>
   rw [beatty_houseOf.l4] at hl235
   refine WC.seq (WC.region ?_)
   refine sg 1 [] [3, 101, 102, 103, 104] [e20, e15, e10, e28, (104, (bv (decide (x223 < (x30.2.2.length : Int)))))] (by kernel_rfl) ?_
   refine WL.done rfl (WX.next (WC.seq ?_))
   rcases br_some hl235 with ⟨h236, hl235⟩ | ⟨h236, hl235⟩
   ·refine WC.condT2 (fun fb => by kernel_rfl) h236 ?_
    refine WC.skip (WX.next (WC.seq (WC.block (WC.seq (WC.region ?_)))))
    refine sg 1 [] [3, 101, 102, 103, 105] [e20, e15, e10, e28, (105, (iv x223))] (by kernel_rfl) ?_
    obtain ⟨h237, hl235⟩ := as_some hl235
    refine seg 5 [.v e6] [3, 14, 15, 101, 102, 103] [e20, e33, (15, e6), e15, e10, e28] [.idx A27 x223 x30.2.2.length, .cell ((adr A27).add ((x223).toNat * 1)) e6] (fun fb => by kernel_rfl) rfl ⟨nrow_adr (rowO.rd (hS234.own 6).1) h237.1 h237.2, nrow_cell (rowO.rd (hS234.own 6).1) [] h237.1 h237.2 0 rfl, trivial⟩ ?_
    refine WL.done rfl (WX.next (WC.seq ?_))
    refine WC.regionD (e65, [0, 1, 2, 3, 4, 5, 6, 7, 8, 9, 12, 13], [[], [], [1], [1, 2], [1, 2, 3], [], [5], [5, 6], [5, 6, 7], [5, 6, 7, 8], [5, 6, 7, 8, 9], [1, 2, 3, 4, 5, 6, 7, 8, 9, 10], e78, [0, 1, 2, 3, 4, 5, 6, 7, 8, 9, 10, 11, 12], [0, 1, 2, 3, 4, 5, 6, 7, 8, 9, 10, 11, 12, 13]]) [[0, 1, 2, 3, 4, 5, 6, 7, 8, 9, 10, 11, 12, 13, 14]] (by kernel_rfl) (by kernel_rfl) (NoPanic.seq (NoPanic.block (NoPanic.seq (NoPanic.seq (NoPanic.block (NoPanic.seq (NoPanic.body))))))) ?_
    have hS239 := hS234.drew
    revert hS239
    generalize World.drew w233 = w238
    intro hS239
    refine ⟨⟨hS239.cell 0 rfl 3 rfl, hS239.cell 0 rfl 1 rfl, trivial⟩, forallC ?_ (forallN)⟩
    refine segF 10 [.v (sv A219 l221 c220), .v (sv A213 l215 c214)] [3, 14, 15, 101, 102, 103, 108, 112, 117] [e20, e33, (15, e6), e15, e10, e28, (108, (pt g10)), (112, (sv A219 l221 c220)), (117, (iv (l215.length : Int)))] [] [0, 1] e65 (fun fb => by kernel_rfl) rfl trivial rfl ?_
    refine WL.new hS239 118 [] (fun g => (.slice (some ⟨g, 0, none⟩) 1 1)) (.cells #[(iv (l215.length : Int))] 3 (0, 0)) [] (fun fb g => by kernel_rfl) trivial (fun g240 w241 hS242 => ?_)
    refine ⟨⟨hS242.cell 1 rfl 3 rfl, trivial⟩, ?_⟩
    have hS243 := hS186.go w241 [rowO 3 encInt (some ⟨g240, 0, none⟩) 1 [(l215.length : Int)], blk g10 (.cells #[e44, (sv A213 l215 c214), (sv A216 l218 c217), (sv A219 l221 c220), e35, (.map (some g7)), (iv x222)] 82 (0, 0)), rowO 64 enc_Tile A213 c214 l215, rowO 3 encInt A216 c217 l218, rowO 3 encInt A219 c220 l221, rowO 100 enc_Carry A25 c26 t180, blk g7 (mapObj e30 (vI .i64) x189), rowO 132 e47 A27 c28 e58, rowsO 135 enc_Mark H29 x30.2.2] (hS242.map1 0 _ (fun h => rowO.ofBlk h rfl (Nat.le_of_ble_eq_true (by kernel_rfl))) (fun _ h => by obtain ⟨_, h1, h2⟩ := h; injection h1 with h1; subst h1; exact h2) [1, 2, 3, 4, 5, 6, 7, 8] (by decide) (by decide))
    obtain ⟨h244, hl235⟩ := as_some hl235
    refine WL.append hS243 4 (d := 119) (tS := 35) (z := (iv 0)) (bytes := 8) (c2 := 1) rfl (fun fb => by kernel_rfl) (rowO.rd (hS243.own 0).1) (by kernel_rfl) (by kernel_rfl) rfl (by decide) h244 (by decide) [0, 1, 2, 3, 5, 6, 7, 8] (by decide) (by decide) (fun A245 c246 w247 hS248 => ?_)
    refine ⟨trivial, ?_⟩
    refine sg 14 [] [3, 14, 15, 101, 102, 103, 119, 121] [e20, e33, (15, e6), e15, e10, e28, (119, (sv A245 e17 c246)), (121, (.pointer (some ⟨g10, 3, none⟩)))] (by kernel_rfl) ?_
    refine WL.store hS248 2 rfl [(3, (sv A245 e17 c246))] #[e44, (sv A213 l215 c214), (sv A216 l218 c217), (sv A245 e17 c246), e35, (.map (some g7)), (iv x222)] (fun fb => by kernel_rfl) (by kernel_rfl) rfl [0, 1, 3, 4, 5, 6, 7, 8] (by decide) (by decide) (fun w249 hS250 => ?_)
    refine ⟨trivial, ?_⟩
    refine WL.done rfl (WX.next (WC.seq (WC.region ?_)))
    refine sg 3 [] e56 [e20, e33, e15, e10, e28, (122, e6), e12, (124, (iv 0))] (by kernel_rfl) ?_
    refine WL.done rfl (WX.next ?_)
    obtain ⟨x263, hx264, hl235⟩ := bind_some hl235
    let e49 := sv A245 e17 c246
    refine WC.cutN (T := ((List Tile) × (List Int) × Int) × e57 × Nat × e57 × Nat) (fun t => [e20, e15, e10, e28]) (fun t w1 => St NoS w w1 e39 [blk g10 (.cells #[e44, (sv t.2.1 t.1.1 t.2.2.1), (sv t.2.2.2.1 t.1.2.1 t.2.2.2.2), e49, e35, (.map (some g7)), (iv t.1.2.2)] 82 (0, 0)), rowO 64 enc_Tile t.2.1 t.2.2.1 t.1.1, rowO 3 encInt t.2.2.2.1 t.2.2.2.2 t.1.2.1, rowO 3 encInt A245 c246 e17, rowO 100 enc_Carry A25 c26 t180, blk g7 (mapObj e30 (vI .i64) x189), rowO 132 e47 A27 c28 e58, rowsO 135 enc_Mark H29 x30.2.2] ∧ x263 = t.1) (fun Kx263 => ?_) ?_
    ·
     refine WC.block ?_
     refine WC.loop (T := ((List Tile) × (List Int) × Int × Int) × e57 × Nat × e57 × Nat) (fun t => [e20, e33, e15, e10, e28, (122, e6), e12, (124, (iv t.1.2.2.2))]) (fun n t w1 => St NoS w w1 e39 [blk g10 (.cells #[e44, (sv t.2.1 t.1.1 t.2.2.1), (sv t.2.2.2.1 t.1.2.1 t.2.2.2.2), e49, e35, (.map (some g7)), (iv t.1.2.2.1)] 82 (0, 0)), rowO 64 enc_Tile t.2.1 t.2.2.1 t.1.1, rowO 3 encInt t.2.2.2.1 t.2.2.2.2 t.1.2.1, rowO 3 encInt A245 c246 e17, rowO 100 enc_Carry A25 c26 t180, blk g7 (mapObj e30 (vI .i64) x189), rowO 132 e47 A27 c28 e58, rowsO 135 enc_Mark H29 x30.2.2] ∧ beatty_houseOf.l5 n t.1.1 t.1.2.1 t.1.2.2.1 t.1.2.2.2 x30 x189 x223 = some x263) k232 ((l215, l218, x222, 0), A213, c214, A216, c217) e56 rfl ⟨(hS250.subR [0]).sub [0, 3, 4, 1, 5, 6, 7, 8] (by decide), hx264⟩ ?_
     rintro k265 ⟨⟨l253, l256, x257, x258⟩, A251, c252, A254, c255⟩ w266 ⟨hS267, hl268⟩
     let e2 := rdD (rdD x30.2.2 x223 []) x258 z_Mark
     let e8 := [(Tile.mk (e2.n) (mget (Carry.mk x223 (e2.east)) 0 x189) (e2.s) (mget (Carry.mk x223 (e2.west)) 0 x189))]
     let e21 : Array Value := #[(iv (e2.n)), (iv (mget (Carry.mk x223 (e2.east)) 0 x189)), (iv (e2.s)), (iv (mget (Carry.mk x223 (e2.west)) 0 x189))]
     let e24 : Array Value := #[(iv (e2.s)), (iv (e2.n)), (iv (e2.west)), (iv (e2.east))]
     let e38 := sv A251 l253 c252
     let e45 := (adr ((H29 x223.toNat).1)).add ((x258).toNat * 4)
     let e46 : Nat × Value := (124, (iv x258))
     let e51 := sv A254 l256 c255
     let e60 := iv (e2.west)
     let e61 := iv (e2.east)
     let e62 := iv (e2.s)
     let e63 := iv (e2.n)
     let e83 := iv (maxI (maxI x257 (e2.n)) (e2.s))
     let e85 := Carry.mk x223 (e2.east)
     let e86 := Carry.mk x223 (e2.west)
     cases k265 with
     | zero => rw [beatty_houseOf.l5] at hl268; cases hl268
     | succ k265 =>
      rw [beatty_houseOf.l5] at hl268
      refine WC.seq (WC.region ?_)
      refine sg 1 [] [3, 14, 101, 102, 103, 122, 123, 124, 125] [e20, e33, e15, e10, e28, (122, e6), e12, e46, (125, (bv (decide (x258 < ((rdD x30.2.2 x223 []).length : Int)))))] (by kernel_rfl) ?_
      refine WL.done rfl (WX.next (WC.seq ?_))
      rcases br_some hl268 with ⟨h269, hl268⟩ | ⟨h269, hl268⟩
      ·refine WC.condT2 (fun fb => by kernel_rfl) h269 ?_
       refine WC.skip (WX.next (WC.seq (WC.block (WC.seq (WC.region ?_)))))
       obtain ⟨h270, hl268⟩ := as_some hl268
       refine seg 2 [.v e62, .v e63, .v e60, .v e61] [3, 14, 101, 102, 103, 122, 123, 124, 127] [e20, e33, e15, e10, e28, (122, e6), e12, e46, (127, (.agg e24))] [.idx ((H29 x223.toNat).1) x258 (rdD x30.2.2 x223 []).length, .cell e45 e62, .cell (e45.add 1) e63, .cell (e45.add 2) e60, .cell (e45.add 3) e61] (fun fb => by kernel_rfl) rfl ⟨rowR.adr (rowO.rd (rowsO.at (hS267.own 7).1 h237.1 h237.2)) h270.1 h270.2, rowR.cell (rowO.rd (rowsO.at (hS267.own 7).1 h237.1 h237.2)) z_Mark h270.1 h270.2 0 rfl, rowR.cell (rowO.rd (rowsO.at (hS267.own 7).1 h237.1 h237.2)) z_Mark h270.1 h270.2 1 rfl, rowR.cell (rowO.rd (rowsO.at (hS267.own 7).1 h237.1 h237.2)) z_Mark h270.1 h270.2 2 rfl, rowR.cell (rowO.rd (rowsO.at (hS267.own 7).1 h237.1 h237.2)) z_Mark h270.1 h270.2 3 rfl, trivial⟩ ?_
       refine WL.new hS267 17 [] (fun g => (pt g)) (.cells e87 135 (0, 0)) [] (fun fb g => by kernel_rfl) trivial (fun g271 w272 hS273 => ?_)
       refine ⟨trivial, ?_⟩
       refine WL.store hS273 0 rfl [(0, e62), (1, e63), (2, e60), (3, e61)] e24 (fun fb => by kernel_rfl) (by kernel_rfl) rfl [1, 2, 3, 4, 5, 6, 7, 8] (by decide) (by decide) (fun w274 hS275 => ?_)
       refine ⟨trivial, ?_⟩
       refine WL.done rfl (WX.next (WC.seq ?_))
       obtain ⟨x278, hx279, hl268⟩ := bind_some hl268
       let e82 : Nat × Value := (17, (pt g271))
       refine WC.cutN (T := (List Tile) × e57 × Nat) (fun t => [e20, e33, e82, e15, e10, e28, (122, e6), e12, e46]) (fun t w1 => St NoS w w1 e39 [blk g10 (.cells #[e44, (sv t.2.1 t.1 t.2.2), e51, e49, e35, (.map (some g7)), (iv x257)] 82 (0, 0)), rowO 64 enc_Tile t.2.1 t.2.2 t.1, rowO 3 encInt A254 c255 l256, rowO 3 encInt A245 c246 e17, rowO 100 enc_Carry A25 c26 t180, blk g7 (mapObj e30 (vI .i64) x189), blk g271 (.cells e24 135 (0, 0)), rowO 132 e47 A27 c28 e58, rowsO 135 enc_Mark H29 x30.2.2] ∧ x278 = t.1) (fun Kx278 => ?_) ?_
       ·
        refine WC.regionD ([(4, ⟨g10, 1, none⟩, e38), (6, ⟨g271, 1, none⟩, e63), (10, ⟨g10, 5, none⟩, (.map (some g7))), (13, ⟨g271, 3, none⟩, e61), (17, ⟨g271, 0, none⟩, e62), (21, ⟨g10, 5, none⟩, (.map (some g7))), (24, ⟨g271, 2, none⟩, e60)], [0, 1, 2, 3, 4, 5, 6, 7, 8, 9, 10, 11, 12, 13, 14, 16, 17, 18, 19, 20, 21, 22, 23, 24, 25, 27, 30, 31], [[], [], [1], [1, 2], [1, 2, 3], [], [5], [], [7], [7, 8], [7, 8, 9], [], [], [12], [11, 12, 13], [7, 8, 9, 10, 11, 12, 13, 14], [], [16], [], [18], [18, 19], [18, 19, 20], [], [], [23], [22, 23, 24], [18, 19, 20, 21, 22, 23, 24, 25], [5, 6, 7, 8, 9, 10, 11, 12, 13, 14, 15, 16, 17, 18, 19, 20, 21, 22, 23, 24, 25, 26], [5, 6, 7, 8, 9, 10, 11, 12, 13, 14, 15, 16, 17, 18, 19, 20, 21, 22, 23, 24, 25, 26, 27], [1, 2, 3, 4, 5, 6, 7, 8, 9, 10, 11, 12, 13, 14, 15, 16, 17, 18, 19, 20, 21, 22, 23, 24, 25, 26, 27, 28], [0, 1, 2, 3, 4, 5, 6, 7, 8, 9, 10, 11, 12, 13, 14, 15, 16, 17, 18, 19, 20, 21, 22, 23, 24, 25, 26, 27, 28, 29], [0, 1, 2, 3, 4, 5, 6, 7, 8, 9, 10, 11, 12, 13, 14, 15, 16, 17, 18, 19, 20, 21, 22, 23, 24, 25, 26, 27, 28, 29, 30], [0, 1, 2, 3, 4, 5, 6, 7, 8, 9, 10, 11, 12, 13, 14, 15, 16, 17, 18, 19, 20, 21, 22, 23, 24, 25, 26, 27, 28, 29, 30, 31]]) [[0, 1, 2, 3, 4, 5, 6, 7, 8, 9, 10, 11, 12, 13, 14, 16, 17, 18, 19, 20, 21, 22, 23, 24, 25, 15, 26, 27, 28, 29, 30, 31, 32], [0, 1, 2, 3, 4, 5, 6, 7, 8, 9, 10, 11, 12, 13, 14, 16, 17, 18, 19, 20, 21, 22, 23, 24, 25, 26, 15, 27, 28, 29, 30, 31, 32]] (by kernel_rfl) (by kernel_rfl) (NoPanic.seq (NoPanic.block (NoPanic.seq (NoPanic.seq (NoPanic.block (NoPanic.block (NoPanic.seq (NoPanic.seq (NoPanic.block (NoPanic.seq (NoPanic.body))))))))))) ?_
        have hS281 := hS275.drew
        revert hS281
        generalize World.drew w274 = w280
        intro hS281
        refine ⟨⟨hS281.cell 1 rfl 1 rfl, hS281.cell 0 rfl 1 rfl, hS281.cell 1 rfl 5 rfl, hS281.cell 0 rfl 3 rfl, hS281.cell 0 rfl 0 rfl, hS281.cell 1 rfl 5 rfl, hS281.cell 0 rfl 2 rfl, trivial⟩, forallC ?_ (forallC ?_ (forallN))⟩
        ·
         refine segF 25 [.v e38, .v e63, .v (.map (some g7)), .v e61, .v e62, .v (.map (some g7)), .v e60] e71 [e20, e33, e82, e15, e10, e28, (122, e6), e12, e46, (128, (pt g10)), (132, e38), (134, e63), (138, (.map (some g7))), (142, (.agg #[(iv x223), e61])), (145, e62), (149, (.map (some g7))), (153, (.agg #[(iv x223), e60]))] [] [0, 1, 2, 3, 4, 5, 6] [(4, ⟨g10, 1, none⟩, e38), (6, ⟨g271, 1, none⟩, e63), (10, ⟨g10, 5, none⟩, (.map (some g7))), (13, ⟨g271, 3, none⟩, e61), (17, ⟨g271, 0, none⟩, e62), (21, ⟨g10, 5, none⟩, (.map (some g7))), (24, ⟨g271, 2, none⟩, e60)] (fun fb => by kernel_rfl) rfl trivial rfl ?_
         refine WL.lookup (hS281.own 6).1 e85 (d := 143) (c := false) (t := 80) (kT := 100) (eT := 3) (z := 0) (kE := e30) (vE := (vI .i64)) (l := x189) (iv (mget e85 0 x189)) (fun fb => by kernel_rfl) beatty_houseOf_key100 (by kernel_rfl) (fun _ => by kernel_rfl) rfl ?_
         refine ⟨⟨hS281.cell 1 rfl 1 rfl, hS281.cell 0 rfl 1 rfl, hS281.cell 0 rfl 0 rfl, hS281.cell 1 rfl 5 rfl, hS281.cell 0 rfl 2 rfl, trivial⟩, ?_⟩
         refine WL.lookup (hS281.own 6).1 e86 (d := 154) (c := false) (t := 80) (kT := 100) (eT := 3) (z := 0) (kE := e30) (vE := (vI .i64)) (l := x189) (iv (mget e86 0 x189)) (fun fb => by kernel_rfl) beatty_houseOf_key100 (by kernel_rfl) (fun _ => by kernel_rfl) rfl ?_
         refine ⟨⟨hS281.cell 1 rfl 1 rfl, hS281.cell 0 rfl 1 rfl, hS281.cell 1 rfl 5 rfl, hS281.cell 0 rfl 3 rfl, hS281.cell 0 rfl 0 rfl, trivial⟩, ?_⟩
         refine sg 28 [] e90 [e20, e33, e82, e15, e10, e28, (122, e6), e12, e46, (128, (pt g10)), (132, e38), (155, (.agg e21))] (by kernel_rfl) ?_
         refine WL.new hS281 156 [] (fun g => (.slice (some ⟨g, 0, none⟩) 1 1)) (.cells e21 64 (0, 0)) [] (fun fb g => by kernel_rfl) trivial (fun g282 w283 hS284 => ?_)
         refine ⟨⟨hS284.cell 2 rfl 1 rfl, trivial⟩, ?_⟩
         have hS285 := hS243.go w283 [rowO 64 enc_Tile (some ⟨g282, 0, none⟩) 1 e8, blk g271 (.cells e24 135 (0, 0)), blk g10 (.cells #[e44, e38, e51, e49, e35, (.map (some g7)), (iv x257)] 82 (0, 0)), rowO 64 enc_Tile A251 c252 l253, rowO 3 encInt A254 c255 l256, rowO 3 encInt A245 c246 e17, rowO 100 enc_Carry A25 c26 t180, blk g7 (mapObj e30 (vI .i64) x189), rowO 132 e47 A27 c28 e58, rowsO 135 enc_Mark H29 x30.2.2] (hS284.map1 0 _ (fun h => rowO.ofBlk h rfl (Nat.le_of_ble_eq_true (by kernel_rfl))) (fun _ h => by obtain ⟨_, h1, h2⟩ := h; injection h1 with h1; subst h1; exact h2) e75 (by decide) (by decide))
         obtain ⟨h286, hx279⟩ := as_some hx279
         refine WL.append hS285 3 (d := 157) (tS := 27) (z := (.agg e87)) (bytes := 32) (c2 := 1) rfl (fun fb => by kernel_rfl) (rowO.rd (hS285.own 0).1) (by kernel_rfl) (by kernel_rfl) rfl (by decide) h286 (by decide) e59 (by decide) (by decide) (fun A287 c288 w289 hS290 => ?_)
         refine ⟨trivial, ?_⟩
         refine sg 32 [] [3, 14, 17, 101, 102, 103, 122, 123, 124, 157, 159] [e20, e33, e82, e15, e10, e28, (122, e6), e12, e46, (157, (sv A287 (l253 ++ e8) c288)), (159, (.pointer (some ⟨g10, 1, none⟩)))] (by kernel_rfl) ?_
         refine WL.store hS290 3 rfl [(1, (sv A287 (l253 ++ e8) c288))] #[e44, (sv A287 (l253 ++ e8) c288), e51, e49, e35, (.map (some g7)), (iv x257)] (fun fb => by kernel_rfl) (by kernel_rfl) rfl e59 (by decide) (by decide) (fun w291 hS292 => ?_)
         refine ⟨trivial, ?_⟩
         refine WL.done rfl ?_
         injection hx279 with hx279
         exact WX.to Kx278 (l253 ++ e8, A287, c288) [3, 14, 17, 101, 102, 103, 122, 123, 124] rfl ⟨(hS292.subR [0]).sub [0, 1, 4, 5, 6, 7, 3, 8, 9] (by decide), hx279.symm⟩
        refine segF 25 [.v e38, .v e63, .v (.map (some g7)), .v e61, .v e62, .v (.map (some g7)), .v e60] e71 [e20, e33, e82, e15, e10, e28, (122, e6), e12, e46, (128, (pt g10)), (132, e38), (134, e63), (138, (.map (some g7))), (142, (.agg #[(iv x223), e61])), (145, e62), (149, (.map (some g7))), (153, (.agg #[(iv x223), e60]))] [] [0, 1, 2, 3, 4, 5, 6] [(4, ⟨g10, 1, none⟩, e38), (6, ⟨g271, 1, none⟩, e63), (10, ⟨g10, 5, none⟩, (.map (some g7))), (13, ⟨g271, 3, none⟩, e61), (17, ⟨g271, 0, none⟩, e62), (21, ⟨g10, 5, none⟩, (.map (some g7))), (24, ⟨g271, 2, none⟩, e60)] (fun fb => by kernel_rfl) rfl trivial rfl ?_
        refine WL.lookup (hS281.own 6).1 e86 (d := 154) (c := false) (t := 80) (kT := 100) (eT := 3) (z := 0) (kE := e30) (vE := (vI .i64)) (l := x189) (iv (mget e86 0 x189)) (fun fb => by kernel_rfl) beatty_houseOf_key100 (by kernel_rfl) (fun _ => by kernel_rfl) rfl ?_
        refine ⟨⟨hS281.cell 1 rfl 1 rfl, hS281.cell 0 rfl 1 rfl, hS281.cell 1 rfl 5 rfl, hS281.cell 0 rfl 3 rfl, hS281.cell 0 rfl 0 rfl, trivial⟩, ?_⟩
        refine WL.lookup (hS281.own 6).1 e85 (d := 143) (c := false) (t := 80) (kT := 100) (eT := 3) (z := 0) (kE := e30) (vE := (vI .i64)) (l := x189) (iv (mget e85 0 x189)) (fun fb => by kernel_rfl) beatty_houseOf_key100 (by kernel_rfl) (fun _ => by kernel_rfl) rfl ?_
        refine ⟨⟨hS281.cell 1 rfl 1 rfl, hS281.cell 0 rfl 1 rfl, hS281.cell 0 rfl 0 rfl, hS281.cell 1 rfl 5 rfl, hS281.cell 0 rfl 2 rfl, trivial⟩, ?_⟩
        refine sg 28 [] e90 [e20, e33, e82, e15, e10, e28, (122, e6), e12, e46, (128, (pt g10)), (132, e38), (155, (.agg e21))] (by kernel_rfl) ?_
        refine WL.new hS281 156 [] (fun g => (.slice (some ⟨g, 0, none⟩) 1 1)) (.cells e21 64 (0, 0)) [] (fun fb g => by kernel_rfl) trivial (fun g293 w294 hS295 => ?_)
        refine ⟨⟨hS295.cell 2 rfl 1 rfl, trivial⟩, ?_⟩
        have hS296 := hS243.go w294 [rowO 64 enc_Tile (some ⟨g293, 0, none⟩) 1 e8, blk g271 (.cells e24 135 (0, 0)), blk g10 (.cells #[e44, e38, e51, e49, e35, (.map (some g7)), (iv x257)] 82 (0, 0)), rowO 64 enc_Tile A251 c252 l253, rowO 3 encInt A254 c255 l256, rowO 3 encInt A245 c246 e17, rowO 100 enc_Carry A25 c26 t180, blk g7 (mapObj e30 (vI .i64) x189), rowO 132 e47 A27 c28 e58, rowsO 135 enc_Mark H29 x30.2.2] (hS295.map1 0 _ (fun h => rowO.ofBlk h rfl (Nat.le_of_ble_eq_true (by kernel_rfl))) (fun _ h => by obtain ⟨_, h1, h2⟩ := h; injection h1 with h1; subst h1; exact h2) e75 (by decide) (by decide))
        obtain ⟨h297, hx279⟩ := as_some hx279
        refine WL.append hS296 3 (d := 157) (tS := 27) (z := (.agg e87)) (bytes := 32) (c2 := 1) rfl (fun fb => by kernel_rfl) (rowO.rd (hS296.own 0).1) (by kernel_rfl) (by kernel_rfl) rfl (by decide) h297 (by decide) e59 (by decide) (by decide) (fun A298 c299 w300 hS301 => ?_)
        refine ⟨trivial, ?_⟩
        refine sg 32 [] [3, 14, 17, 101, 102, 103, 122, 123, 124, 157, 159] [e20, e33, e82, e15, e10, e28, (122, e6), e12, e46, (157, (sv A298 (l253 ++ e8) c299)), (159, (.pointer (some ⟨g10, 1, none⟩)))] (by kernel_rfl) ?_
        refine WL.store hS301 3 rfl [(1, (sv A298 (l253 ++ e8) c299))] #[e44, (sv A298 (l253 ++ e8) c299), e51, e49, e35, (.map (some g7)), (iv x257)] (fun fb => by kernel_rfl) (by kernel_rfl) rfl e59 (by decide) (by decide) (fun w302 hS303 => ?_)
        refine ⟨trivial, ?_⟩
        refine WL.done rfl ?_
        injection hx279 with hx279
        exact WX.to Kx278 (l253 ++ e8, A298, c299) [3, 14, 17, 101, 102, 103, 122, 123, 124] rfl ⟨(hS303.subR [0]).sub [0, 1, 4, 5, 6, 7, 3, 8, 9] (by decide), hx279.symm⟩
       rintro ⟨y307, A276, c277⟩ w304 ⟨hS305, hq306⟩
       subst hq306
       refine WX.next (WC.seq (WC.region ?_))
       refine seg 6 [.v e51] [3, 14, 17, 101, 102, 103, 122, 123, 124, 160, 164, 165] [e20, e33, e82, e15, e10, e28, (122, e6), e12, e46, (160, (pt g10)), (164, e51), (165, (iv x223))] [.cell ⟨g10, 2, none⟩ e51] (fun fb => by kernel_rfl) rfl ⟨hS305.cell 0 rfl 2 rfl, trivial⟩ ?_
       refine WL.new hS305 166 [] (fun g => (.slice (some ⟨g, 0, none⟩) 1 1)) (.cells #[(iv x223)] 3 (0, 0)) [] (fun fb g => by kernel_rfl) trivial (fun g308 w309 hS310 => ?_)
       refine ⟨trivial, ?_⟩
       have hS311 := hS243.go w309 [rowO 3 encInt (some ⟨g308, 0, none⟩) 1 [x223], blk g10 (.cells #[e44, (sv A276 x278 c277), e51, e49, e35, (.map (some g7)), (iv x257)] 82 (0, 0)), rowO 64 enc_Tile A276 c277 x278, rowO 3 encInt A254 c255 l256, rowO 3 encInt A245 c246 e17, rowO 100 enc_Carry A25 c26 t180, blk g7 (mapObj e30 (vI .i64) x189), blk g271 (.cells e24 135 (0, 0)), rowO 132 e47 A27 c28 e58, rowsO 135 enc_Mark H29 x30.2.2] (hS310.map1 0 _ (fun h => rowO.ofBlk h rfl (Nat.le_of_ble_eq_true (by kernel_rfl))) (fun _ h => by obtain ⟨_, h1, h2⟩ := h; injection h1 with h1; subst h1; exact h2) e75 (by decide) (by decide))
       obtain ⟨h312, hl268⟩ := as_some hl268
       refine WL.append hS311 3 (d := 167) (tS := 35) (z := (iv 0)) (bytes := 8) (c2 := 1) rfl (fun fb => by kernel_rfl) (rowO.rd (hS311.own 0).1) (by kernel_rfl) (by kernel_rfl) rfl (by decide) h312 (by decide) e59 (by decide) (by decide) (fun A313 c314 w315 hS316 => ?_)
       refine ⟨trivial, ?_⟩
       refine sg 10 [] [3, 14, 17, 101, 102, 103, 122, 123, 124, 167, 169] [e20, e33, e82, e15, e10, e28, (122, e6), e12, e46, (167, (sv A313 (l256 ++ [x223]) c314)), (169, (.pointer (some ⟨g10, 2, none⟩)))] (by kernel_rfl) ?_
       refine WL.store hS316 2 rfl [(2, (sv A313 (l256 ++ [x223]) c314))] #[e44, (sv A276 x278 c277), (sv A313 (l256 ++ [x223]) c314), e49, e35, (.map (some g7)), (iv x257)] (fun fb => by kernel_rfl) (by kernel_rfl) rfl [0, 1, 3, 4, 5, 6, 7, 8, 9] (by decide) (by decide) (fun w317 hS318 => ?_)
       refine ⟨trivial, ?_⟩
       refine WL.done rfl (WX.next ?_)
       refine WC.regionD ([(4, ⟨g10, 6, none⟩, (iv x257)), (6, ⟨g271, 1, none⟩, e63), (8, ⟨g271, 0, none⟩, e62)], e78, [[], [], [1], [1, 2], [1, 2, 3], [], [5], [], [7], [1, 2, 3, 4, 5, 6, 7, 8], [0, 1, 2, 3, 4, 5, 6, 7, 8, 9], [0, 1, 2, 3, 4, 5, 6, 7, 8, 9, 10], e78]) [[0, 1, 2, 3, 4, 5, 6, 7, 8, 9, 10, 11, 12]] (by kernel_rfl) (by kernel_rfl) (NoPanic.block (NoPanic.seq (NoPanic.seq (NoPanic.block (NoPanic.block (NoPanic.seq (NoPanic.seq (NoPanic.block (NoPanic.seq (NoPanic.body)))))))))) ?_
       have hS320 := hS318.drew
       revert hS320
       generalize World.drew w317 = w319
       intro hS320
       refine ⟨⟨hS320.cell 0 rfl 6 rfl, hS320.cell 7 rfl 1 rfl, hS320.cell 7 rfl 0 rfl, trivial⟩, forallC ?_ (forallN)⟩
       refine segF 12 [.v (iv x257), .v e63, .v e62] [3, 14, 101, 102, 103, 122, 123, 124, 179, 181] [e20, e33, e15, e10, e28, (122, e6), e12, e46, (179, e83), (181, (.pointer (some ⟨g10, 6, none⟩)))] [] [0, 1, 2] [(4, ⟨g10, 6, none⟩, (iv x257)), (6, ⟨g271, 1, none⟩, e63), (8, ⟨g271, 0, none⟩, e62)] (fun fb => by kernel_rfl) rfl trivial rfl ?_
       refine WL.store hS320 0 rfl [(6, e83)] #[e44, (sv A276 x278 c277), (sv A313 (l256 ++ [x223]) c314), e49, e35, (.map (some g7)), e83] (fun fb => by kernel_rfl) (by kernel_rfl) rfl e75 (by decide) (by decide) (fun w321 hS322 => ?_)
       refine ⟨trivial, ?_⟩
       refine WL.done rfl ?_
       refine WX.blockN (WX.next ?_)
       refine WC.region ?_
       refine sg 2 [] e56 [e20, e33, e15, e10, e28, (122, e6), e12, (124, (iv (w64 (x258 + 1))))] (by kernel_rfl) ?_
       refine WL.done rfl ?_
       exact WX.again k265 (Nat.lt_succ_self _) ((x278, l256 ++ [x223], maxI (maxI x257 (e2.n)) (e2.s), w64 (x258 + 1)), A276, c277, A313, c314) e56 rfl ⟨(hS322.subR [0]).sub [0, 3, 1, 4, 5, 6, 8, 9] (by decide), hl268⟩
      refine WC.condF2 (fun fb => by kernel_rfl) h269 ?_
      refine WC.exit ?_
      injection hl268 with hl268
      exact WX.thenX (WX.thenX (WX.blockHere (WX.to Kx263 ((l253, l256, x257), A251, c252, A254, c255) [3, 101, 102, 103] rfl ⟨(hS267.subR [0]).sub [0, 1, 2, 3, 4, 5, 6, 7] (by decide), hl268.symm⟩)))
    rintro ⟨y326, A259, c260, A261, c262⟩ w323 ⟨hS324, hq325⟩
    subst hq325
    refine WX.blockN (WX.next ?_)
    refine WC.region ?_
    refine sg 2 [] [3, 101, 102, 103] [e20, e15, e10, (103, (iv (w64 (x223 + 1))))] (by kernel_rfl) ?_
    refine WL.done rfl ?_
    exact WX.again k232 (Nat.lt_succ_self _) ((x263.1, x263.2.1, l221 ++ [(l215.length : Int)], x263.2.2, w64 (x223 + 1)), A259, c260, A261, c262, A245, c246) [3, 101, 102, 103] rfl ⟨(hS324.subR [0]).sub [0, 1, 2, 3, 4, 5, 6, 7] (by decide), hl235⟩
   refine WC.condF2 (fun fb => by kernel_rfl) h236 ?_
   refine WC.exit ?_
   injection hl235 with hl235
   exact WX.thenX (WX.thenX (WX.blockHere (WX.to Kx230 ((l215, l218, l221, x222), A213, c214, A216, c217, A219, c220) [3] rfl ⟨(hS234.subR [0]).sub [0, 1, 2, 3, 4, 5] (by decide), hl235.symm⟩)))
 rintro ⟨y330, A224, c225, A226, c227, A228, c229⟩ w327 ⟨hS328, hq329⟩
 subst hq329
 refine WX.next (WC.seq ?_)
 refine WC.regionD ([(4, ⟨g10, 3, none⟩, (sv A228 x230.2.2.1 c229)), (8, ⟨g10, 1, none⟩, (sv A224 x230.1 c225))], [0, 1, 2, 3, 4, 5, 6, 7, 8, 9, 12, 13], [[], [], [1], [1, 2], [1, 2, 3], [], [5], [5, 6], [5, 6, 7], [5, 6, 7, 8], [5, 6, 7, 8, 9], [1, 2, 3, 4, 5, 6, 7, 8, 9, 10], e78, [0, 1, 2, 3, 4, 5, 6, 7, 8, 9, 10, 11, 12], [0, 1, 2, 3, 4, 5, 6, 7, 8, 9, 10, 11, 12, 13]]) [[0, 1, 2, 3, 4, 5, 6, 7, 8, 9, 10, 11, 12, 13, 14]] (by kernel_rfl) (by kernel_rfl) (NoPanic.seq (NoPanic.body)) ?_
 have hS332 := hS328.drew
 revert hS332
 generalize World.drew w327 = w331
 intro hS332
 refine ⟨⟨hS332.cell 0 rfl 3 rfl, hS332.cell 0 rfl 1 rfl, trivial⟩, forallC ?_ (forallN)⟩
 refine segF 10 [.v (sv A228 x230.2.2.1 c229), .v (sv A224 x230.1 c225)] [3, 184, 188, 193] [e20, (184, (pt g10)), (188, (sv A228 x230.2.2.1 c229)), (193, (iv (x230.1.length : Int)))] [] [0, 1] [(4, ⟨g10, 3, none⟩, (sv A228 x230.2.2.1 c229)), (8, ⟨g10, 1, none⟩, (sv A224 x230.1 c225))] (fun fb => by kernel_rfl) rfl trivial rfl ?_
 refine WL.new hS332 194 [] (fun g => (.slice (some ⟨g, 0, none⟩) 1 1)) (.cells #[(iv (x230.1.length : Int))] 3 (0, 0)) [] (fun fb g => by kernel_rfl) trivial (fun g333 w334 hS335 => ?_)
 refine ⟨⟨hS335.cell 1 rfl 3 rfl, trivial⟩, ?_⟩
 have hS336 := hS186.go w334 [rowO 3 encInt (some ⟨g333, 0, none⟩) 1 [(x230.1.length : Int)], blk g10 (.cells #[e44, (sv A224 x230.1 c225), (sv A226 x230.2.1 c227), (sv A228 x230.2.2.1 c229), e35, (.map (some g7)), (iv x230.2.2.2)] 82 (0, 0)), rowO 64 enc_Tile A224 c225 x230.1, rowO 3 encInt A226 c227 x230.2.1, rowO 3 encInt A228 c229 x230.2.2.1, rowO 100 enc_Carry A25 c26 t180, blk g7 (mapObj e30 (vI .i64) x189)] (hS335.map1 0 _ (fun h => rowO.ofBlk h rfl (Nat.le_of_ble_eq_true (by kernel_rfl))) (fun _ h => by obtain ⟨_, h1, h2⟩ := h; injection h1 with h1; subst h1; exact h2) [1, 2, 3, 4, 5, 6] (by decide) (by decide))
 obtain ⟨h337, hf⟩ := as_some hf
 refine WL.append hS336 4 (d := 195) (tS := 35) (z := (iv 0)) (bytes := 8) (c2 := 1) rfl (fun fb => by kernel_rfl) (rowO.rd (hS336.own 0).1) (by kernel_rfl) (by kernel_rfl) rfl (by decide) h337 (by decide) [0, 1, 2, 3, 5, 6] (by decide) (by decide) (fun A338 c339 w340 hS341 => ?_)
 refine ⟨trivial, ?_⟩
 refine sg 14 [] [3, 195, 197] [e20, (195, (sv A338 (x230.2.2.1 ++ [(x230.1.length : Int)]) c339)), (197, (.pointer (some ⟨g10, 3, none⟩)))] (by kernel_rfl) ?_
 let e91 := (sv A338 (x230.2.2.1 ++ [(x230.1.length : Int)]) c339)
 refine WL.store hS341 2 rfl [(3, e91)] #[e44, (sv A224 x230.1 c225), (sv A226 x230.2.1 c227), e91, e35, (.map (some g7)), (iv x230.2.2.2)] (fun fb => by kernel_rfl) (by kernel_rfl) rfl [0, 1, 3, 4, 5, 6] (by decide) (by decide) (fun w342 hS343 => ?_)
 refine ⟨trivial, ?_⟩
 refine WL.done rfl (WX.next (WC.seq (WC.region ?_)))
 refine sg 2 [] [2] [(2, (pt g10))] (by kernel_rfl) ?_
 refine WL.done rfl (WX.next ?_)
 refine WC.ret ?_
 injection hf with hf
 subst hf
 exact WX.ret_ [] (pt g10) [] (fun fb => by kernel_rfl) trivial ⟨_, rfl, g10, A224, c225, A226, c227, A338, c339, A25, c26, g7, rfl, (hS343.sub [0, 3, 4, 1, 5, 6] (by decide)).noR⟩
theorem tile_colour_1_calls (p0 : Int)  (r : Bool) (w : World)  (hf : tile_colour_1 p0 = some r) :
  CallsR Tryz.prog 111 #[(iv p0)] w (fun v w' => v = (bv r) ∧ Keeps NoS w w') := by
 have hS : St NoS w w [] [] := St.init (ro_nil _ _)
 refine enter 9 Tryz.func111 rfl Tryz.ntmps111 rfl ?_
 unfold tile_colour_1 at hf
 refine WC.seq (WC.region ?_)
 refine sg 1 [] [0] [(0, (iv p0))] (by kernel_rfl) ?_
 refine WL.done rfl (WX.next (WC.seq (WC.region ?_)))
 refine sg 3 [] [0, 5] [(0, (iv p0)), (5, (bv (decide (p0 < 0))))] (by kernel_rfl) ?_
 refine WL.cutV (T := Bool) 6 (fun t => [(8, (bv t))]) (fun t => ((decide (p0 < 0)) || (decide (p0 ≥ 1000))) = t) (fun K => ?_) ?_
 ·
  rcases Bool.eq_false_or_eq_true (decide (p0 < 0)) with h2 | h2
  ·
   refine WL.setB 5 h2 rfl ?_
   refine sg 6 [] [8] [(8, (bv true))] (by kernel_rfl) ?_
   exact WL.toV K true [8] rfl (by first | (rw [h2]; done) | (rw [h2]; rfl))
  refine WL.setB 5 h2 rfl ?_
  refine sg 6 [] [8] [(8, (bv (decide (p0 ≥ 1000))))] (by kernel_rfl) ?_
  exact WL.toV K (decide (p0 ≥ 1000)) [8] rfl (by first | (rw [h2]; done) | (rw [h2]; rfl))
 rintro b3 rfl
 refine sg 7 [] [2] [(2, (bv ((decide (p0 < 0)) || (decide (p0 ≥ 1000)))))] (by kernel_rfl) ?_
 refine WL.done rfl (WX.next ?_)
 refine WC.ret ?_
 injection hf with hf
 subst hf
 exact WX.ret_ [] (bv ((decide (p0 < 0)) || (decide (p0 ≥ 1000)))) [] (fun fb => by kernel_rfl) trivial ⟨_, rfl, rfl, hS.keep⟩
theorem slices_IndexFunc_int_int_with_tile_colour_1_calls (k : Nat) (p0 : List Int) (Aa : Option Addr) (ca : Nat) (r : Int) (w : World) (hR0 : RO NoS w (rowR encInt Aa ca p0)) (hf : slices_IndexFunc_int_int_with_tile_colour_1 k p0 = some r) :
  CallsR Tryz.prog 95 #[(sv Aa p0 ca), (.func (.func 111) #[] #[])] w (fun v w' => v = (iv r) ∧ Keeps NoS w w') := by
 have hS : St NoS w w [rowR encInt Aa ca p0] [] := St.init (ro_cons hR0 (ro_nil _ _))
 refine enter 19 Tryz.func95 rfl Tryz.ntmps95 rfl ?_
 unfold slices_IndexFunc_int_int_with_tile_colour_1 at hf
 refine WC.seq (WC.region ?_)
 refine sg 1 [] [0, 1] [(0, (sv Aa p0 ca)), (1, (.func (.func 111) #[] #[]))] (by kernel_rfl) ?_
 refine WL.done rfl (WX.next (WC.seq (WC.seq (WC.region ?_))))
 refine sg 3 [] [0, 1, 7, 8] [(0, (sv Aa p0 ca)), (1, (.func (.func 111) #[] #[])), (7, (iv (p0.length : Int))), (8, (iv 0))] (by kernel_rfl) ?_
 refine WL.done rfl (WX.next ?_)
 obtain ⟨x4, hx5, hf⟩ := bind_some hf
 let e1 : Nat × Value := (7, (iv (p0.length : Int)))
 let e2 : Nat × Value := (0, (sv Aa p0 ca))
 refine WC.cutN (T := Unit) (fun t => []) (fun t w1 => St NoS w w1 [rowR encInt Aa ca p0] [] ∧ x4 = .inr t) (fun Kx4 => ?_) ?_
 ·
  refine WC.block ?_
  refine WC.loop (T := Int) (fun t => [e2, (1, (.func (.func 111) #[] #[])), e1, (8, (iv t))]) (fun n t w1 => St NoS w w1 [rowR encInt Aa ca p0] [] ∧ slices_IndexFunc_int_int_with_tile_colour_1.l0 n t p0 = some x4) k 0 [0, 1, 7, 8] rfl ⟨(hS.subR [0]).sub [] (by decide), hx5⟩ ?_
  rintro k6 x3 w7 ⟨hS8, hl9⟩
  cases k6 with
  | zero => rw [slices_IndexFunc_int_int_with_tile_colour_1.l0] at hl9; cases hl9
  | succ k6 =>
   rw [slices_IndexFunc_int_int_with_tile_colour_1.l0] at hl9
   refine WC.seq (WC.region ?_)
   refine sg 1 [] [0, 1, 7, 8, 9] [e2, (1, (.func (.func 111) #[] #[])), e1, (8, (iv x3)), (9, (bv (decide (x3 < (p0.length : Int)))))] (by kernel_rfl) ?_
   refine WL.done rfl (WX.next (WC.seq ?_))
   rcases br_some hl9 with ⟨h10, hl9⟩ | ⟨h10, hl9⟩
   ·refine WC.condT2 (fun fb => by kernel_rfl) h10 ?_
    refine WC.skip (WX.next (WC.seq (WC.block (WC.seq (WC.region ?_)))))
    refine sg 2 [] [0, 1, 5, 7, 8] [e2, (1, (.func (.func 111) #[] #[])), (5, (iv x3)), e1, (8, (iv x3))] (by kernel_rfl) ?_
    refine WL.done rfl (WX.next (WC.seq (WC.region ?_)))
    refine sg 3 [] [0, 1, 5, 7, 8, 11, 12, 13] [e2, (1, (.func (.func 111) #[] #[])), (5, (iv x3)), e1, (8, (iv x3)), (11, (.func (.func 111) #[] #[])), (12, (sv Aa p0 ca)), (13, (iv x3))] (by kernel_rfl) ?_
    obtain ⟨h11, hl9⟩ := as_some hl9
    refine seg 5 [.v (iv (rdD p0 x3 0))] [0, 1, 5, 7, 8, 11, 15] [e2, (1, (.func (.func 111) #[] #[])), (5, (iv x3)), e1, (8, (iv x3)), (11, (.func (.func 111) #[] #[])), (15, (iv (rdD p0 x3 0)))] [.idx Aa x3 p0.length, .cell ((adr Aa).add ((x3).toNat * 1)) (iv (rdD p0 x3 0))] (fun fb => by kernel_rfl) rfl ⟨rowR.adr (hS8.rd 0).1 h11.1 h11.2, rowR.cell (hS8.rd 0).1 0 h11.1 h11.2 0 rfl, trivial⟩ ?_
    obtain ⟨t12, ht13, hl9⟩ := bind_some hl9
    refine WL.call (some 16) 111 #[(iv (rdD p0 x3 0))] (fun fb => by kernel_rfl) (tile_colour_1_calls (rdD p0 x3 0) t12 _ ht13) (fun v w14 hR15 => ?_)
    obtain ⟨rfl, hk_⟩ := hR15
    have hS16 := hS8.keepN hk_
    refine ⟨trivial, ?_⟩
    refine WL.done rfl (WX.next ?_)
    rcases br_some hl9 with ⟨h17, hl9⟩ | ⟨h17, hl9⟩
    ·refine WC.condT2 (fun fb => by kernel_rfl) h17 ?_
     refine WC.seq (WC.region ?_)
     refine sg 2 [] [4] [(4, (iv x3))] (by kernel_rfl) ?_
     refine WL.done rfl (WX.next ?_)
     refine WC.ret ?_
     injection hl9 with hl9
     subst hl9
     injection hf with hf
     subst hf
     exact WX.blockR (WX.thenR (WX.thenR (WX.blockR (WX.thenR (WX.ret_ [] (iv x3) [] (fun fb => by kernel_rfl) trivial ⟨_, rfl, rfl, hS16.keep⟩)))))
    refine WC.condF2 (fun fb => by kernel_rfl) h17 ?_
    refine WC.skip ?_
    refine WX.blockN (WX.next ?_)
    refine WC.region ?_
    refine sg 2 [] [0, 1, 7, 8] [e2, (1, (.func (.func 111) #[] #[])), e1, (8, (iv (w64 (x3 + 1))))] (by kernel_rfl) ?_
    refine WL.done rfl ?_
    exact WX.again k6 (Nat.lt_succ_self _) (w64 (x3 + 1)) [0, 1, 7, 8] rfl ⟨(hS16.subR [0]).sub [] (by decide), hl9⟩
   refine WC.condF2 (fun fb => by kernel_rfl) h10 ?_
   refine WC.exit ?_
   injection hl9 with hl9
   exact WX.thenX (WX.thenX (WX.blockHere (WX.to Kx4 () [] rfl ⟨(hS8.subR [0]).sub [] (by decide), hl9.symm⟩)))
 rintro y21 w18 ⟨hS19, hq20⟩
 subst hq20
 have hf := sum_inr hf
 refine WX.next (WC.seq (WC.region ?_))
 refine sg 1 [] [4] [(4, (iv (-1)))] (by kernel_rfl) ?_
 refine WL.done rfl (WX.next ?_)
 refine WC.ret ?_
 injection hf with hf
 subst hf
 exact WX.ret_ [] (iv (-1)) [] (fun fb => by kernel_rfl) trivial ⟨_, rfl, rfl, hS19.keep⟩
theorem slices_ContainsFunc_int_int_with_tile_colour_1_calls (k : Nat) (p0 : List Int) (Aa : Option Addr) (ca : Nat) (r : Bool) (w : World) (hR0 : RO NoS w (rowR encInt Aa ca p0)) (hf : slices_ContainsFunc_int_int_with_tile_colour_1 k p0 = some r) :
  CallsR Tryz.prog 71 #[(sv Aa p0 ca), (.func (.func 111) #[] #[])] w (fun v w' => v = (bv r) ∧ Keeps NoS w w') := by
 have hS : St NoS w w [rowR encInt Aa ca p0] [] := St.init (ro_cons hR0 (ro_nil _ _))
 refine enter 9 Tryz.func71 rfl Tryz.ntmps71 rfl ?_
 unfold slices_ContainsFunc_int_int_with_tile_colour_1 at hf
 refine WC.seq (WC.region ?_)
 refine sg 1 [] [0, 1] [(0, (sv Aa p0 ca)), (1, (.func (.func 111) #[] #[]))] (by kernel_rfl) ?_
 refine WL.done rfl (WX.next (WC.seq (WC.region ?_)))
 refine sg 2 [] [5, 6] [(5, (sv Aa p0 ca)), (6, (.func (.func 111) #[] #[]))] (by kernel_rfl) ?_
 obtain ⟨t2, ht3, hf⟩ := bind_some hf
 refine WL.call (some 7) 95 #[(sv Aa p0 ca), (.func (.func 111) #[] #[])] (fun fb => by kernel_rfl) (slices_IndexFunc_int_int_with_tile_colour_1_calls _ p0 Aa ca t2 _ (hS.rd 0) ht3) (fun v w4 hR5 => ?_)
 obtain ⟨rfl, hk_⟩ := hR5
 have hS6 := hS.keepN hk_
 refine ⟨trivial, ?_⟩
 refine sg 5 [] [4] [(4, (bv (decide (t2 ≥ 0))))] (by kernel_rfl) ?_
 refine WL.done rfl (WX.next ?_)
 refine WC.ret ?_
 injection hf with hf
 subst hf
 exact WX.ret_ [] (bv (decide (t2 ≥ 0))) [] (fun fb => by kernel_rfl) trivial ⟨_, rfl, rfl, hS6.keep⟩
theorem tile_colour_calls (k : Nat) (p0 : List Int) (Aa : Option Addr) (ca : Nat) (r : Bool) (w : World) (hR0 : RO NoS w (rowR encInt Aa ca p0)) (hf : tile_colour k p0 = some r) :
  CallsR Tryz.prog 92 #[(sv Aa p0 ca)] w (fun v w' => v = (bv r) ∧ Keeps NoS w w') := by
 have hS : St NoS w w [rowR encInt Aa ca p0] [] := St.init (ro_cons hR0 (ro_nil _ _))
 refine enter 6 Tryz.func92 rfl Tryz.ntmps92 rfl ?_
 unfold tile_colour at hf
 refine WC.seq (WC.region ?_)
 refine sg 1 [] [0] [(0, (sv Aa p0 ca))] (by kernel_rfl) ?_
 refine WL.done rfl (WX.next (WC.seq (WC.region ?_)))
 refine sg 1 [] [3] [(3, (sv Aa p0 ca))] (by kernel_rfl) ?_
 obtain ⟨t2, ht3, hf⟩ := bind_some hf
 refine WL.call (some 4) 71 #[(sv Aa p0 ca), (.func (.func 111) #[] #[])] (fun fb => by kernel_rfl) (slices_ContainsFunc_int_int_with_tile_colour_1_calls _ p0 Aa ca t2 _ (hS.rd 0) ht3) (fun v w4 hR5 => ?_)
 obtain ⟨rfl, hk_⟩ := hR5
 have hS6 := hS.keepN hk_
 refine ⟨trivial, ?_⟩
 refine sg 4 [] [2] [(2, (bv (!t2)))] (by kernel_rfl) ?_
 refine WL.done rfl (WX.next ?_)
 refine WC.ret ?_
 injection hf with hf
 subst hf
 exact WX.ret_ [] (bv (!t2)) [] (fun fb => by kernel_rfl) trivial ⟨_, rfl, rfl, hS6.keep⟩
theorem tile_Valid_key64 : KeyK Tryz.prog 64 (aggI ints_Tile) := KeyK.struct (n := 4) (by kernel_rfl) ints_Tile (fun _ => rfl) (fun x y h => by cases x; cases y; simp only [ints_Tile, List.cons.injEq, and_true] at h; obtain ⟨rfl, rfl, rfl, rfl⟩ := h; rfl)
theorem tile_Valid_calls (k : Nat) (p0 : List Tile) (Aa : Option Addr) (ca : Nat) (r : Bool) (w : World) (hR0 : RO NoS w (rowR enc_Tile Aa ca p0)) (hf : tile_Valid k p0 = some r) :
  CallsR Tryz.prog 67 #[(sv Aa p0 ca)] w (fun v w' => v = (bv r) ∧ Keeps NoS w w') := by
 have hS : St NoS w w [rowR enc_Tile Aa ca p0] [] := St.init (ro_cons hR0 (ro_nil _ _))
 refine enter 35 Tryz.func67 rfl Tryz.ntmps67 rfl ?_
 unfold tile_Valid at hf
 refine WC.seq (WC.region ?_)
 refine sg 1 [] [0] [(0, (sv Aa p0 ca))] (by kernel_rfl) ?_
 refine WL.done rfl (WX.next (WC.seq (WC.seq (WC.region ?_))))
 refine sg 3 [] [0, 8] [(0, (sv Aa p0 ca)), (8, (bv (decide ((p0.length : Int) > 1000))))] (by kernel_rfl) ?_
 refine WL.done rfl (WX.next ?_)
 rcases br_some hf with ⟨h3, hf⟩ | ⟨h3, hf⟩
 ·refine WC.condT2 (fun fb => by kernel_rfl) h3 ?_
  refine WC.seq (WC.region ?_)
  refine sg 1 [] [2] [(2, (bv false))] (by kernel_rfl) ?_
  refine WL.done rfl (WX.next ?_)
  refine WC.ret ?_
  injection hf with hf
  subst hf
  exact WX.thenR (WX.ret_ [] (bv false) [] (fun fb => by kernel_rfl) trivial ⟨_, rfl, rfl, hS.keep⟩)
 refine WC.condF2 (fun fb => by kernel_rfl) h3 ?_
 refine WC.skip (WX.next (WC.seq (WC.region ?_)))
 refine WL.new hS 9 [] (fun g => (.map (some g))) (mapObj (aggI ints_Tile) vB ([] : List (Tile × Bool))) [] (fun fb g => by kernel_rfl) trivial (fun g4 w5 hS6 => ?_)
 refine ⟨trivial, ?_⟩
 refine sg 2 [] [0, 3] [(0, (sv Aa p0 ca)), (3, (.map (some g4)))] (by kernel_rfl) ?_
 refine WL.done rfl (WX.next (WC.seq (WC.seq (WC.region ?_))))
 refine sg 3 [] [3, 10, 11, 12] [(3, (.map (some g4))), (10, (sv Aa p0 ca)), (11, (iv (p0.length : Int))), (12, (iv 0))] (by kernel_rfl) ?_
 refine WL.done rfl (WX.next ?_)
 obtain ⟨x9, hx10, hf⟩ := bind_some hf
 let e3 : Nat × Value := (11, (iv (p0.length : Int)))
 let e4 : Nat × Value := (10, (sv Aa p0 ca))
 let e11 : List Nat := [3, 5, 10, 11, 12, 31]
 let e12 := aggI ints_Tile
 refine WC.cutN (T := Unit) (fun t => []) (fun t w1 => St NoS w w1 [rowR enc_Tile Aa ca p0] [] ∧ x9 = .inr t) (fun Kx9 => ?_) ?_
 ·
  refine WC.block ?_
  refine WC.loop (T := (List (Tile × Bool)) × Int) (fun t => [(3, (.map (some g4))), e4, e3, (12, (iv t.2))]) (fun n t w1 => St NoS w w1 [rowR enc_Tile Aa ca p0] [blk g4 (mapObj e12 vB t.1)] ∧ tile_Valid.l0 n t.1 t.2 p0 = some x9) k (([] : List (Tile × Bool)), 0) [3, 10, 11, 12] rfl ⟨(hS6.subR [0]).sub [0] (by decide), hx10⟩ ?_
  rintro k11 ⟨l7, x8⟩ w12 ⟨hS13, hl14⟩
  let e1 := rdD p0 x8 z_Tile
  let e2 : Array Value := #[(iv (e1.N)), (iv (e1.E)), (iv (e1.S)), (iv (e1.W))]
  let e5 := (adr Aa).add ((x8).toNat * 4)
  let e6 : Nat × Value := (12, (iv x8))
  let e7 := iv (e1.N)
  let e8 := iv (e1.E)
  let e9 := iv (e1.S)
  let e10 := iv (e1.W)
  cases k11 with
  | zero => rw [tile_Valid.l0] at hl14; cases hl14
  | succ k11 =>
   rw [tile_Valid.l0] at hl14
   refine WC.seq (WC.region ?_)
   refine sg 1 [] [3, 10, 11, 12, 13] [(3, (.map (some g4))), e4, e3, e6, (13, (bv (decide (x8 < (p0.length : Int)))))] (by kernel_rfl) ?_
   refine WL.done rfl (WX.next (WC.seq ?_))
   rcases br_some hl14 with ⟨h15, hl14⟩ | ⟨h15, hl14⟩
   ·refine WC.condT2 (fun fb => by kernel_rfl) h15 ?_
    refine WC.skip (WX.next (WC.seq (WC.block (WC.seq (WC.region ?_)))))
    obtain ⟨h16, hl14⟩ := as_some hl14
    refine seg 2 [.v e7, .v e8, .v e9, .v e10] [3, 10, 11, 12, 15] [(3, (.map (some g4))), e4, e3, e6, (15, (.agg e2))] [.idx Aa x8 p0.length, .cell e5 e7, .cell (e5.add 1) e8, .cell (e5.add 2) e9, .cell (e5.add 3) e10] (fun fb => by kernel_rfl) rfl ⟨rowR.adr (hS13.rd 0).1 h16.1 h16.2, rowR.cell (hS13.rd 0).1 z_Tile h16.1 h16.2 0 rfl, rowR.cell (hS13.rd 0).1 z_Tile h16.1 h16.2 1 rfl, rowR.cell (hS13.rd 0).1 z_Tile h16.1 h16.2 2 rfl, rowR.cell (hS13.rd 0).1 z_Tile h16.1 h16.2 3 rfl, trivial⟩ ?_
    refine WL.new hS13 5 [] (fun g => (pt g)) (.cells #[(iv 0), (iv 0), (iv 0), (iv 0)] 64 (0, 0)) [] (fun fb g => by kernel_rfl) trivial (fun g17 w18 hS19 => ?_)
    refine ⟨trivial, ?_⟩
    refine WL.store hS19 0 rfl [(0, e7), (1, e8), (2, e9), (3, e10)] e2 (fun fb => by kernel_rfl) (by kernel_rfl) rfl [1] (by decide) (by decide) (fun w20 hS21 => ?_)
    refine ⟨trivial, ?_⟩
    refine WL.done rfl (WX.next (WC.seq (WC.seq (WC.region ?_))))
    refine seg 2 [.v e7, .v e8, .v e9, .v e10] [3, 5, 10, 11, 12, 16, 17] [(3, (.map (some g4))), (5, (pt g17)), e4, e3, e6, (16, (.map (some g4))), (17, (.agg e2))] [.cell ⟨g17, 0, none⟩ e7, .cell ⟨g17, 1, none⟩ e8, .cell ⟨g17, 2, none⟩ e9, .cell ⟨g17, 3, none⟩ e10] (fun fb => by kernel_rfl) rfl ⟨hS21.cell 0 rfl 0 rfl, hS21.cell 0 rfl 1 rfl, hS21.cell 0 rfl 2 rfl, hS21.cell 0 rfl 3 rfl, trivial⟩ ?_
    refine WL.lookup (hS21.own 1).1 e1 (d := 18) (c := false) (t := 140) (kT := 64) (eT := 4) (z := false) (kE := e12) (vE := vB) (l := l7) (bv (mget e1 false l7)) (fun fb => by kernel_rfl) tile_Valid_key64 (by kernel_rfl) (fun _ => by kernel_rfl) rfl ?_
    refine ⟨trivial, ?_⟩
    refine sg 4 [] [3, 5, 10, 11, 12, 19] [(3, (.map (some g4))), (5, (pt g17)), e4, e3, e6, (19, (bv (mget e1 false l7)))] (by kernel_rfl) ?_
    obtain ⟨x22, hx23, hl14⟩ := bind_some hl14
    refine WL.cutW (T := Bool) 16 (fun t => [(3, (.map (some g4))), (5, (pt g17)), e4, e3, e6, (31, (bv t))]) (fun t w1 => (St NoS w w1 [rowR enc_Tile Aa ca p0] [blk g4 (mapObj e12 vB l7), blk g17 (.cells e2 64 (0, 0))] ∧ x22 = t) ∧ CellsOK [] w1) (fun K => ?_) ?_
    ·
     rcases br_some hx23 with ⟨h24, hx23⟩ | ⟨h24, hx23⟩
     ·
      refine WL.setB 19 h24 rfl ?_
      refine sg 16 [] e11 [(3, (.map (some g4))), (5, (pt g17)), e4, e3, e6, (31, (bv true))] (by kernel_rfl) ?_
      injection hx23 with hx23
      exact WL.to K true e11 rfl ⟨⟨(hS21.subR [0]).sub [1, 0] (by decide), hx23.symm⟩, trivial⟩
     refine WL.setB 19 h24 rfl ?_
     refine seg 12 [.v e7, .v e8, .v e9, .v e10] [3, 5, 10, 11, 12, 19, 21, 23, 25, 27] [(3, (.map (some g4))), (5, (pt g17)), e4, e3, e6, (19, (bv false)), (21, e7), (23, e8), (25, e9), (27, e10)] [.cell ⟨g17, 0, none⟩ e7, .cell ⟨g17, 1, none⟩ e8, .cell ⟨g17, 2, none⟩ e9, .cell ⟨g17, 3, none⟩ e10] (fun fb => by kernel_rfl) rfl ⟨hS21.cell 0 rfl 0 rfl, hS21.cell 0 rfl 1 rfl, hS21.cell 0 rfl 2 rfl, hS21.cell 0 rfl 3 rfl, trivial⟩ ?_
     refine WL.new hS21 28 [] (fun g => (.slice (some ⟨g, 0, none⟩) 4 4)) (.cells e2 3 (0, 0)) [] (fun fb g => by kernel_rfl) trivial (fun g25 w26 hS27 => ?_)
     refine ⟨trivial, ?_⟩
     have hS28 := hS.go w26 [rowO 3 encInt (some ⟨g25, 0, none⟩) 4 [e1.N, e1.E, e1.S, e1.W], blk g17 (.cells e2 64 (0, 0)), blk g4 (mapObj e12 vB l7)] (hS27.map1 0 _ (fun h => rowO.ofBlk h rfl (Nat.le_of_ble_eq_true (by kernel_rfl))) (fun _ h => by obtain ⟨_, h1, h2⟩ := h; injection h1 with h1; subst h1; exact h2) [1, 2] (by decide) (by decide))
     obtain ⟨t29, ht30, hx23⟩ := bind_some hx23
     refine WL.call (some 29) 92 #[(sv (some ⟨g25, 0, none⟩) [e1.N, e1.E, e1.S, e1.W] 4)] (fun fb => by kernel_rfl) (tile_colour_calls _ [e1.N, e1.E, e1.S, e1.W] (some ⟨g25, 0, none⟩) 4 t29 _ (hS28.ow 0).ofO ht30) (fun v w31 hR32 => ?_)
     obtain ⟨rfl, hk_⟩ := hR32
     have hS33 := hS28.keepN hk_
     refine ⟨trivial, ?_⟩
     refine sg 16 [] e11 [(3, (.map (some g4))), (5, (pt g17)), e4, e3, e6, (31, (bv (!t29)))] (by kernel_rfl) ?_
     injection hx23 with hx23
     exact WL.to K (!t29) e11 rfl ⟨⟨(hS33.subR [0]).sub [2, 1] (by decide), hx23.symm⟩, trivial⟩
    rintro y34 w36 ⟨⟨hS37, hq35⟩, hF38⟩
    subst hq35
    refine WL.done rfl (WX.next ?_)
    rcases br_some hl14 with ⟨h39, hl14⟩ | ⟨h39, hl14⟩
    ·refine WC.condT2 (fun fb => by kernel_rfl) h39 ?_
     refine WC.seq (WC.region ?_)
     refine sg 1 [] [2] [(2, (bv false))] (by kernel_rfl) ?_
     refine WL.done rfl (WX.next ?_)
     refine WC.ret ?_
     injection hl14 with hl14
     subst hl14
     injection hf with hf
     subst hf
     exact WX.thenR (WX.blockR (WX.thenR (WX.thenR (WX.blockR (WX.thenR (WX.ret_ [] (bv false) [] (fun fb => by kernel_rfl) trivial ⟨_, rfl, rfl, hS37.keep⟩))))))
    refine WC.condF2 (fun fb => by kernel_rfl) h39 ?_
    refine WC.skip (WX.next (WC.region ?_))
    refine seg 2 [.v e7, .v e8, .v e9, .v e10] [3, 10, 11, 12, 32, 33] [(3, (.map (some g4))), e4, e3, e6, (32, (.map (some g4))), (33, (.agg e2))] [.cell ⟨g17, 0, none⟩ e7, .cell ⟨g17, 1, none⟩ e8, .cell ⟨g17, 2, none⟩ e9, .cell ⟨g17, 3, none⟩ e10] (fun fb => by kernel_rfl) rfl ⟨hS37.cell 1 rfl 0 rfl, hS37.cell 1 rfl 1 rfl, hS37.cell 1 rfl 2 rfl, hS37.cell 1 rfl 3 rfl, trivial⟩ ?_
    refine WL.mapput hS37 0 (t := 140) (kT := 64) (eT := 4) (kE := e12) (vE := vB) (l := l7) rfl e1 true (fun fb => by kernel_rfl) tile_Valid_key64 (by kernel_rfl) [1] (by decide) (by decide) (fun w40 hS41 => ?_)
    refine ⟨trivial, ?_⟩
    refine WL.done rfl ?_
    refine WX.blockN (WX.next ?_)
    refine WC.region ?_
    refine sg 2 [] [3, 10, 11, 12] [(3, (.map (some g4))), e4, e3, (12, (iv (w64 (x8 + 1))))] (by kernel_rfl) ?_
    refine WL.done rfl ?_
    exact WX.again k11 (Nat.lt_succ_self _) (mput e1 true l7, w64 (x8 + 1)) [3, 10, 11, 12] rfl ⟨(hS41.subR [0]).sub [0] (by decide), hl14⟩
   refine WC.condF2 (fun fb => by kernel_rfl) h15 ?_
   refine WC.exit ?_
   injection hl14 with hl14
   exact WX.thenX (WX.thenX (WX.blockHere (WX.to Kx9 () [] rfl ⟨(hS13.subR [0]).sub [] (by decide), hl14.symm⟩)))
 rintro y45 w42 ⟨hS43, hq44⟩
 subst hq44
 have hf := sum_inr hf
 refine WX.next (WC.seq (WC.region ?_))
 refine sg 1 [] [2] [(2, (bv true))] (by kernel_rfl) ?_
 refine WL.done rfl (WX.next ?_)
 refine WC.ret ?_
 injection hf with hf
 subst hf
 exact WX.ret_ [] (bv true) [] (fun fb => by kernel_rfl) trivial ⟨_, rfl, rfl, hS43.keep⟩
theorem beatty_made_calls (k : Nat) (p0 : List Piece) (Aa : Option Addr) (ca : Nat) (r : (Option House) × Int) (w : World) (hR0 : RO NoS w (rowR enc_Piece Aa ca p0)) (hf : beatty_made k p0 = some r) :
  CallsR Tryz.prog 35 #[(sv Aa p0 ca)] w (fun v w' => ∃ (g1_ : Nat), ∃ (A2_ : Option Addr), ∃ (c2_ : Nat), ∃ (A3_ : Option Addr), ∃ (c3_ : Nat), ∃ (A4_ : Option Addr), ∃ (c4_ : Nat), ∃ (A5_ : Option Addr), ∃ (c5_ : Nat), ∃ (g6_ : Nat), v = (.tuple #[(optP r.1 g1_), (iv r.2)]) ∧ optS r.1 (Keeps NoS w w') (fun y_ => St NoS w w' [] [blk g1_ (.cells #[(sv Aa p0 ca), (sv A2_ y_.set c2_), (sv A3_ y_.piece c3_), (sv A4_ y_.first c4_), (sv A5_ y_.carries c5_), (.map (some g6_)), (iv y_.most)] 82 (0, 0)), rowO 64 enc_Tile A2_ c2_ y_.set, rowO 3 encInt A3_ c3_ y_.piece, rowO 3 encInt A4_ c4_ y_.first, rowO 100 enc_Carry A5_ c5_ y_.carries, blk g6_ (mapObj (aggI ints_Carry) (vI .i64) y_.colour)])) := by
 have hS : St NoS w w [rowR enc_Piece Aa ca p0] [] := St.init (ro_cons hR0 (ro_nil _ _))
 refine enter 17 Tryz.func35 rfl Tryz.ntmps35 rfl ?_
 unfold beatty_made at hf
 refine WC.seq (WC.region ?_)
 refine sg 2 [] [0] [(0, (sv Aa p0 ca))] (by kernel_rfl) ?_
 refine WL.done rfl (WX.next (WC.seq (WC.seq (WC.region ?_))))
 refine sg 1 [] [0, 5] [(0, (sv Aa p0 ca)), (5, (sv Aa p0 ca))] (by kernel_rfl) ?_
 obtain ⟨t7, ht8, hf⟩ := bind_some hf
 refine WL.call (some 6) 11 #[(sv Aa p0 ca)] (fun fb => by kernel_rfl) (beatty_Valid_calls _ p0 Aa ca t7 _ (hS.rd 0) ht8) (fun v w9 hR10 => ?_)
 obtain ⟨rfl, hk_⟩ := hR10
 have hS11 := hS.keepN hk_
 refine ⟨trivial, ?_⟩
 refine sg 3 [] [0, 7] [(0, (sv Aa p0 ca)), (7, (bv (!t7)))] (by kernel_rfl) ?_
 refine WL.done rfl (WX.next ?_)
 rcases br_some hf with ⟨h12, hf⟩ | ⟨h12, hf⟩
 ·refine WC.condT2 (fun fb => by kernel_rfl) h12 ?_
  refine WC.seq (WC.region ?_)
  refine sg 2 [] [2, 3] [(2, (.pointer none)), (3, (iv 1))] (by kernel_rfl) ?_
  refine WL.done rfl (WX.next ?_)
  refine WC.ret ?_
  injection hf with hf
  subst hf
  exact WX.thenR (WX.ret_ [] (.tuple #[(.pointer none), (iv 1)]) [] (fun fb => by kernel_rfl) trivial ⟨_, rfl, 0, none, 0, none, 0, none, 0, none, 0, 0, rfl, hS11.keep⟩)
 refine WC.condF2 (fun fb => by kernel_rfl) h12 ?_
 refine WC.skip (WX.next (WC.seq (WC.region ?_)))
 refine sg 1 [] [8] [(8, (sv Aa p0 ca))] (by kernel_rfl) ?_
 obtain ⟨t13, ht14, hf⟩ := bind_some hf
 refine WL.call (some 9) 66 #[(sv Aa p0 ca)] (fun fb => by kernel_rfl) (beatty_houseOf_calls _ p0 Aa ca t13 _ (hS11.rd 0) ht14) (fun v w15 hR16 => ?_)
 obtain ⟨g18, A19, c20, A21, c22, A23, c24, A25, c26, g27, rfl, hk_⟩ := hR16
 have hS17 := hS.go w15 [blk g18 (.cells #[(.slice Aa p0.length ca), (.slice A19 t13.set.length c20), (.slice A21 t13.piece.length c22), (.slice A23 t13.first.length c24), (.slice A25 t13.carries.length c26), (.map (some g27)), (iv t13.most)] 82 (0, 0)), rowO 64 enc_Tile A19 c20 t13.set, rowO 3 encInt A21 c22 t13.piece, rowO 3 encInt A23 c24 t13.first, rowO 100 enc_Carry A25 c26 t13.carries, blk g27 (mapObj (aggI ints_Carry) (vI .i64) t13.colour)] (hS11.call hk_ [] [] (fun g hg => hg.elim) (by simp) (by decide))
 refine ⟨trivial, ?_⟩
 refine sg 3 [] [4] [(4, (pt g18))] (by kernel_rfl) ?_
 refine WL.done rfl (WX.next (WC.seq (WC.seq (WC.region ?_))))
 refine seg 4 [.v (sv A19 t13.set c20)] [4, 13] [(4, (pt g18)), (13, (sv A19 t13.set c20))] [.cell ⟨g18, 1, none⟩ (sv A19 t13.set c20)] (fun fb => by kernel_rfl) rfl ⟨hS17.cell 0 rfl 1 rfl, trivial⟩ ?_
 obtain ⟨t28, ht29, hf⟩ := bind_some hf
 refine WL.call (some 14) 67 #[(sv A19 t13.set c20)] (fun fb => by kernel_rfl) (tile_Valid_calls _ t13.set A19 c20 t28 _ (hS17.ow 1).ofO ht29) (fun v w30 hR31 => ?_)
 obtain ⟨rfl, hk_⟩ := hR31
 have hS32 := hS17.keepN hk_
 refine ⟨trivial, ?_⟩
 refine sg 6 [] [4, 15] [(4, (pt g18)), (15, (bv (!t28)))] (by kernel_rfl) ?_
 refine WL.done rfl (WX.next ?_)
 rcases br_some hf with ⟨h33, hf⟩ | ⟨h33, hf⟩
 ·refine WC.condT2 (fun fb => by kernel_rfl) h33 ?_
  refine WC.seq (WC.region ?_)
  refine sg 2 [] [2, 3] [(2, (.pointer none)), (3, (iv 4))] (by kernel_rfl) ?_
  refine WL.done rfl (WX.next ?_)
  refine WC.ret ?_
  injection hf with hf
  subst hf
  exact WX.thenR (WX.ret_ [] (.tuple #[(.pointer none), (iv 4)]) [] (fun fb => by kernel_rfl) trivial ⟨_, rfl, 0, none, 0, none, 0, none, 0, none, 0, 0, rfl, hS32.keep⟩)
 refine WC.condF2 (fun fb => by kernel_rfl) h33 ?_
 refine WC.skip (WX.next (WC.seq (WC.region ?_)))
 refine sg 3 [] [2, 3] [(2, (pt g18)), (3, (iv 0))] (by kernel_rfl) ?_
 refine WL.done rfl (WX.next ?_)
 refine WC.ret ?_
 injection hf with hf
 subst hf
 exact WX.ret_ [] (.tuple #[(pt g18), (iv 0)]) [] (fun fb => by kernel_rfl) trivial ⟨_, rfl, g18, A19, c20, A21, c22, A23, c24, A25, c26, g27, rfl, (hS32.sub [0, 1, 2, 3, 4, 5] (by decide)).noR⟩
theorem beatty_Tiles_calls (k : Nat) (p0 : List Piece) (Aa : Option Addr) (ca : Nat) (r : (List Tile) × Int) (w : World) (hR0 : RO NoS w (rowR enc_Piece Aa ca p0)) (hf : beatty_Tiles k p0 = some r) :
  CallsR Tryz.prog 10 #[(sv Aa p0 ca)] w (fun v w' => ∃ (A1_ : Option Addr), ∃ (c1_ : Nat), v = (.tuple #[(sv A1_ r.1 c1_), (iv r.2)]) ∧ St NoS w w' [] [rowO 64 enc_Tile A1_ c1_ r.1]) := by
 have hS : St NoS w w [rowR enc_Piece Aa ca p0] [] := St.init (ro_cons hR0 (ro_nil _ _))
 refine enter 18 Tryz.func10 rfl Tryz.ntmps10 rfl ?_
 unfold beatty_Tiles at hf
 refine WC.seq (WC.region ?_)
 refine sg 2 [] [0] [(0, (sv Aa p0 ca))] (by kernel_rfl) ?_
 refine WL.done rfl (WX.next (WC.seq (WC.region ?_)))
 refine sg 1 [] [7] [(7, (sv Aa p0 ca))] (by kernel_rfl) ?_
 obtain ⟨t3, ht4, hf⟩ := bind_some hf
 refine WL.call (some 8) 35 #[(sv Aa p0 ca)] (fun fb => by kernel_rfl) (beatty_made_calls _ p0 Aa ca t3 _ (hS.rd 0) ht4) (fun v w5 hR6 => ?_)
 obtain ⟨g8, A9, c11, A12, c13, A14, c15, A16, c17, g18, rfl, hk_⟩ := hR6
 refine ⟨trivial, ?_⟩
 rcases optM_some hf with ⟨ho20, hf⟩ | ⟨y19, ho20, hf⟩
 ·
  have ho20 : t3.1 = none := ho20
  have hS7 := hS.keepN (optS_none ho20 hk_)
  refine WL.reE [7, 8] [(7, (.slice Aa p0.length ca)), (8, (.tuple #[(optP t3.1 g8), (iv t3.2)]))] [(7, (.slice Aa p0.length ca)), (8, (.tuple #[(.pointer none), (iv t3.2)]))] rfl (by rw [ho20]; rfl) ?_
  refine sg 7 [] [4, 5] [(4, (.pointer none)), (5, (iv t3.2))] (by kernel_rfl) ?_
  refine WL.done rfl (WX.next (WC.seq (WC.seq (WC.region ?_))))
  refine sg 2 [] [4, 5, 12] [(4, (.pointer none)), (5, (iv t3.2)), (12, (bv (t3.2 != 0)))] (by kernel_rfl) ?_
  refine WL.done rfl (WX.next ?_)
  rcases br_some hf with ⟨h21, hf⟩ | ⟨h21, hf⟩
  ·refine WC.condT2 (fun fb => by kernel_rfl) h21 ?_
   refine WC.seq (WC.region ?_)
   refine sg 3 [] [2, 3] [(2, (.slice none 0 0)), (3, (iv t3.2))] (by kernel_rfl) ?_
   refine WL.done rfl (WX.next ?_)
   refine WC.ret ?_
   have hS22 := hS7.nilrow 64 enc_Tile
   injection hf with hf
   subst hf
   exact WX.thenR (WX.ret_ [] (.tuple #[(sv none ([] : List Tile) 0), (iv t3.2)]) [] (fun fb => by kernel_rfl) trivial ⟨_, rfl, none, 0, rfl, (hS22.sub [0] (by decide)).noR⟩)
  refine WC.condF2 (fun fb => by kernel_rfl) h21 ?_
  refine WC.skip (WX.next (WC.seq (WC.region ?_)))
  refine sg 1 [] [14] [(14, (.pointer none))] (by kernel_rfl) ?_
  cases hf
 have ho20 : t3.1 = some y19 := ho20
 have hk_ := optS_some ho20 hk_
 have hS7 := hS.go w5 [blk g8 (.cells #[(.slice Aa p0.length ca), (.slice A9 y19.set.length c11), (.slice A12 y19.piece.length c13), (.slice A14 y19.first.length c15), (.slice A16 y19.carries.length c17), (.map (some g18)), (iv y19.most)] 82 (0, 0)), rowO 64 enc_Tile A9 c11 y19.set, rowO 3 encInt A12 c13 y19.piece, rowO 3 encInt A14 c15 y19.first, rowO 100 enc_Carry A16 c17 y19.carries, blk g18 (mapObj (aggI ints_Carry) (vI .i64) y19.colour)] (hS.call hk_ [] [] (fun g hg => hg.elim) (by simp) (by decide))
 refine WL.reE [7, 8] [(7, (.slice Aa p0.length ca)), (8, (.tuple #[(optP t3.1 g8), (iv t3.2)]))] [(7, (.slice Aa p0.length ca)), (8, (.tuple #[(pt g8), (iv t3.2)]))] rfl (by rw [ho20]; rfl) ?_
 refine sg 7 [] [4, 5] [(4, (pt g8)), (5, (iv t3.2))] (by kernel_rfl) ?_
 refine WL.done rfl (WX.next (WC.seq (WC.seq (WC.region ?_))))
 refine sg 2 [] [4, 5, 12] [(4, (pt g8)), (5, (iv t3.2)), (12, (bv (t3.2 != 0)))] (by kernel_rfl) ?_
 refine WL.done rfl (WX.next ?_)
 rcases br_some hf with ⟨h23, hf⟩ | ⟨h23, hf⟩
 ·refine WC.condT2 (fun fb => by kernel_rfl) h23 ?_
  refine WC.seq (WC.region ?_)
  refine sg 3 [] [2, 3] [(2, (.slice none 0 0)), (3, (iv t3.2))] (by kernel_rfl) ?_
  refine WL.done rfl (WX.next ?_)
  refine WC.ret ?_
  have hS24 := hS7.nilrow 64 enc_Tile
  injection hf with hf
  subst hf
  exact WX.thenR (WX.ret_ [] (.tuple #[(sv none ([] : List Tile) 0), (iv t3.2)]) [] (fun fb => by kernel_rfl) trivial ⟨_, rfl, none, 0, rfl, (hS24.sub [0] (by decide)).noR⟩)
 refine WC.condF2 (fun fb => by kernel_rfl) h23 ?_
 refine WC.skip (WX.next (WC.seq (WC.region ?_)))
 refine seg 6 [.v (sv A9 y19.set c11)] [2, 3] [(2, (sv A9 y19.set c11)), (3, (iv 0))] [.cell ⟨g8, 1, none⟩ (sv A9 y19.set c11)] (fun fb => by kernel_rfl) rfl ⟨hS7.cell 0 rfl 1 rfl, trivial⟩ ?_
 refine WL.done rfl (WX.next ?_)
 refine WC.ret ?_
 injection hf with hf
 subst hf
 exact WX.ret_ [] (.tuple #[(sv A9 y19.set c11), (iv 0)]) [] (fun fb => by kernel_rfl) trivial ⟨_, rfl, A9, c11, rfl, (hS7.sub [1] (by decide)).noR⟩
theorem beatty_primesOf_1_calls (p0 : Int) (f0 : Int) (ga : Nat) (r : Bool) (w : World) (hR0 : RO NoS w (blk ga (.cells #[(iv f0)] 3 (0, 0)))) (hf : beatty_primesOf_1 p0 f0 = some r) :
  CallsR Tryz.prog 72 #[(iv p0), (pt ga)] w (fun v w' => v = (bv r) ∧ Keeps NoS w w') := by
 have hS : St NoS w w [blk ga (.cells #[(iv f0)] 3 (0, 0))] [] := St.init (ro_cons hR0 (ro_nil _ _))
 refine enter 8 Tryz.func72 rfl Tryz.ntmps72 rfl ?_
 unfold beatty_primesOf_1 at hf
 refine WC.seq (WC.region ?_)
 refine sg 1 [] [0, 1] [(0, (iv p0)), (1, (pt ga))] (by kernel_rfl) ?_
 refine WL.done rfl (WX.next (WC.seq (WC.region ?_)))
 refine seg 2 [.v (iv f0)] [4, 5] [(4, (iv f0)), (5, (iv p0))] [.cell ⟨ga, 0, none⟩ (iv f0)] (fun fb => by kernel_rfl) rfl ⟨blk_cell (hS.rd 0).1 0 rfl, trivial⟩ ?_
 obtain ⟨h2, hf⟩ := as_some hf
 refine seg 5 [] [3] [(3, (bv ((Int.tmod f0 p0) == 0)))] [.ne p0] (fun fb => by kernel_rfl) rfl ⟨h2, trivial⟩ ?_
 refine WL.done rfl (WX.next ?_)
 refine WC.ret ?_
 injection hf with hf
 subst hf
 exact WX.ret_ [] (bv ((Int.tmod f0 p0) == 0)) [] (fun fb => by kernel_rfl) trivial ⟨_, rfl, rfl, hS.keep⟩
theorem slices_IndexFunc_int_int_with_beatty_primesOf_1_calls (k : Nat) (p0 : List Int) (p1_0 : Int) (Aa : Option Addr) (ca : Nat) (ga : Nat) (r : Int) (w : World) (hR0 : RO NoS w (rowR encInt Aa ca p0)) (hR1 : RO NoS w (blk ga (.cells #[(iv p1_0)] 3 (0, 0)))) (hf : slices_IndexFunc_int_int_with_beatty_primesOf_1 k p0 p1_0 = some r) :
  CallsR Tryz.prog 95 #[(sv Aa p0 ca), (.func (.func 72) #[] #[(pt ga)])] w (fun v w' => v = (iv r) ∧ Keeps NoS w w') := by
 have hS : St NoS w w [rowR encInt Aa ca p0, blk ga (.cells #[(iv p1_0)] 3 (0, 0))] [] := St.init (ro_cons hR0 (ro_cons hR1 (ro_nil _ _)))
 refine enter 19 Tryz.func95 rfl Tryz.ntmps95 rfl ?_
 unfold slices_IndexFunc_int_int_with_beatty_primesOf_1 at hf
 refine WC.seq (WC.region ?_)
 refine sg 1 [] [0, 1] [(0, (sv Aa p0 ca)), (1, (.func (.func 72) #[] #[(pt ga)]))] (by kernel_rfl) ?_
 refine WL.done rfl (WX.next (WC.seq (WC.seq (WC.region ?_))))
 refine sg 3 [] [0, 1, 7, 8] [(0, (sv Aa p0 ca)), (1, (.func (.func 72) #[] #[(pt ga)])), (7, (iv (p0.length : Int))), (8, (iv 0))] (by kernel_rfl) ?_
 refine WL.done rfl (WX.next ?_)
 obtain ⟨x4, hx5, hf⟩ := bind_some hf
 let e1 : Nat × Value := (7, (iv (p0.length : Int)))
 let e2 : Nat × Value := (0, (sv Aa p0 ca))
 refine WC.cutN (T := Unit) (fun t => []) (fun t w1 => St NoS w w1 [rowR encInt Aa ca p0, blk ga (.cells #[(iv p1_0)] 3 (0, 0))] [] ∧ x4 = .inr t) (fun Kx4 => ?_) ?_
 ·
  refine WC.block ?_
  refine WC.loop (T := Int) (fun t => [e2, (1, (.func (.func 72) #[] #[(pt ga)])), e1, (8, (iv t))]) (fun n t w1 => St NoS w w1 [rowR encInt Aa ca p0, blk ga (.cells #[(iv p1_0)] 3 (0, 0))] [] ∧ slices_IndexFunc_int_int_with_beatty_primesOf_1.l0 n t p0 p1_0 = some x4) k 0 [0, 1, 7, 8] rfl ⟨(hS.subR [0, 1]).sub [] (by decide), hx5⟩ ?_
  rintro k6 x3 w7 ⟨hS8, hl9⟩
  cases k6 with
  | zero => rw [slices_IndexFunc_int_int_with_beatty_primesOf_1.l0] at hl9; cases hl9
  | succ k6 =>
   rw [slices_IndexFunc_int_int_with_beatty_primesOf_1.l0] at hl9
   refine WC.seq (WC.region ?_)
   refine sg 1 [] [0, 1, 7, 8, 9] [e2, (1, (.func (.func 72) #[] #[(pt ga)])), e1, (8, (iv x3)), (9, (bv (decide (x3 < (p0.length : Int)))))] (by kernel_rfl) ?_
   refine WL.done rfl (WX.next (WC.seq ?_))
   rcases br_some hl9 with ⟨h10, hl9⟩ | ⟨h10, hl9⟩
   ·refine WC.condT2 (fun fb => by kernel_rfl) h10 ?_
    refine WC.skip (WX.next (WC.seq (WC.block (WC.seq (WC.region ?_)))))
    refine sg 2 [] [0, 1, 5, 7, 8] [e2, (1, (.func (.func 72) #[] #[(pt ga)])), (5, (iv x3)), e1, (8, (iv x3))] (by kernel_rfl) ?_
    refine WL.done rfl (WX.next (WC.seq (WC.region ?_)))
    refine sg 3 [] [0, 1, 5, 7, 8, 11, 12, 13] [e2, (1, (.func (.func 72) #[] #[(pt ga)])), (5, (iv x3)), e1, (8, (iv x3)), (11, (.func (.func 72) #[] #[(pt ga)])), (12, (sv Aa p0 ca)), (13, (iv x3))] (by kernel_rfl) ?_
    obtain ⟨h11, hl9⟩ := as_some hl9
    refine seg 5 [.v (iv (rdD p0 x3 0))] [0, 1, 5, 7, 8, 11, 15] [e2, (1, (.func (.func 72) #[] #[(pt ga)])), (5, (iv x3)), e1, (8, (iv x3)), (11, (.func (.func 72) #[] #[(pt ga)])), (15, (iv (rdD p0 x3 0)))] [.idx Aa x3 p0.length, .cell ((adr Aa).add ((x3).toNat * 1)) (iv (rdD p0 x3 0))] (fun fb => by kernel_rfl) rfl ⟨rowR.adr (hS8.rd 0).1 h11.1 h11.2, rowR.cell (hS8.rd 0).1 0 h11.1 h11.2 0 rfl, trivial⟩ ?_
    obtain ⟨t12, ht13, hl9⟩ := bind_some hl9
    refine WL.call (some 16) 72 #[(iv (rdD p0 x3 0)), (pt ga)] (fun fb => by kernel_rfl) (beatty_primesOf_1_calls (rdD p0 x3 0) p1_0 ga t12 _ (hS8.rd 1) ht13) (fun v w14 hR15 => ?_)
    obtain ⟨rfl, hk_⟩ := hR15
    have hS16 := hS8.keepN hk_
    refine ⟨trivial, ?_⟩
    refine WL.done rfl (WX.next ?_)
    rcases br_some hl9 with ⟨h17, hl9⟩ | ⟨h17, hl9⟩
    ·refine WC.condT2 (fun fb => by kernel_rfl) h17 ?_
     refine WC.seq (WC.region ?_)
     refine sg 2 [] [4] [(4, (iv x3))] (by kernel_rfl) ?_
     refine WL.done rfl (WX.next ?_)
     refine WC.ret ?_
     injection hl9 with hl9
     subst hl9
     injection hf with hf
     subst hf
     exact WX.blockR (WX.thenR (WX.thenR (WX.blockR (WX.thenR (WX.ret_ [] (iv x3) [] (fun fb => by kernel_rfl) trivial ⟨_, rfl, rfl, hS16.keep⟩)))))
    refine WC.condF2 (fun fb => by kernel_rfl) h17 ?_
    refine WC.skip ?_
    refine WX.blockN (WX.next ?_)
    refine WC.region ?_
    refine sg 2 [] [0, 1, 7, 8] [e2, (1, (.func (.func 72) #[] #[(pt ga)])), e1, (8, (iv (w64 (x3 + 1))))] (by kernel_rfl) ?_
    refine WL.done rfl ?_
    exact WX.again k6 (Nat.lt_succ_self _) (w64 (x3 + 1)) [0, 1, 7, 8] rfl ⟨(hS16.subR [0, 1]).sub [] (by decide), hl9⟩
   refine WC.condF2 (fun fb => by kernel_rfl) h10 ?_
   refine WC.exit ?_
   injection hl9 with hl9
   exact WX.thenX (WX.thenX (WX.blockHere (WX.to Kx4 () [] rfl ⟨(hS8.subR [0, 1]).sub [] (by decide), hl9.symm⟩)))
 rintro y21 w18 ⟨hS19, hq20⟩
 subst hq20
 have hf := sum_inr hf
 refine WX.next (WC.seq (WC.region ?_))
 refine sg 1 [] [4] [(4, (iv (-1)))] (by kernel_rfl) ?_
 refine WL.done rfl (WX.next ?_)
 refine WC.ret ?_
 injection hf with hf
 subst hf
 exact WX.ret_ [] (iv (-1)) [] (fun fb => by kernel_rfl) trivial ⟨_, rfl, rfl, hS19.keep⟩
theorem slices_ContainsFunc_int_int_with_beatty_primesOf_1_calls (k : Nat) (p0 : List Int) (p1_0 : Int) (Aa : Option Addr) (ca : Nat) (ga : Nat) (r : Bool) (w : World) (hR0 : RO NoS w (rowR encInt Aa ca p0)) (hR1 : RO NoS w (blk ga (.cells #[(iv p1_0)] 3 (0, 0)))) (hf : slices_ContainsFunc_int_int_with_beatty_primesOf_1 k p0 p1_0 = some r) :
  CallsR Tryz.prog 71 #[(sv Aa p0 ca), (.func (.func 72) #[] #[(pt ga)])] w (fun v w' => v = (bv r) ∧ Keeps NoS w w') := by
 have hS : St NoS w w [rowR encInt Aa ca p0, blk ga (.cells #[(iv p1_0)] 3 (0, 0))] [] := St.init (ro_cons hR0 (ro_cons hR1 (ro_nil _ _)))
 refine enter 9 Tryz.func71 rfl Tryz.ntmps71 rfl ?_
 unfold slices_ContainsFunc_int_int_with_beatty_primesOf_1 at hf
 refine WC.seq (WC.region ?_)
 refine sg 1 [] [0, 1] [(0, (sv Aa p0 ca)), (1, (.func (.func 72) #[] #[(pt ga)]))] (by kernel_rfl) ?_
 refine WL.done rfl (WX.next (WC.seq (WC.region ?_)))
 refine sg 2 [] [5, 6] [(5, (sv Aa p0 ca)), (6, (.func (.func 72) #[] #[(pt ga)]))] (by kernel_rfl) ?_
 obtain ⟨t2, ht3, hf⟩ := bind_some hf
 refine WL.call (some 7) 95 #[(sv Aa p0 ca), (.func (.func 72) #[] #[(pt ga)])] (fun fb => by kernel_rfl) (slices_IndexFunc_int_int_with_beatty_primesOf_1_calls _ p0 p1_0 Aa ca ga t2 _ (hS.rd 0) (hS.rd 1) ht3) (fun v w4 hR5 => ?_)
 obtain ⟨rfl, hk_⟩ := hR5
 have hS6 := hS.keepN hk_
 refine ⟨trivial, ?_⟩
 refine sg 5 [] [4] [(4, (bv (decide (t2 ≥ 0))))] (by kernel_rfl) ?_
 refine WL.done rfl (WX.next ?_)
 refine WC.ret ?_
 injection hf with hf
 subst hf
 exact WX.ret_ [] (bv (decide (t2 ≥ 0))) [] (fun fb => by kernel_rfl) trivial ⟨_, rfl, rfl, hS6.keep⟩
theorem beatty_primesOf_2_calls (p0 : Int) (f0 : Int) (ga : Nat) (r : Bool) (w : World) (hR0 : RO NoS w (blk ga (.cells #[(iv f0)] 3 (0, 0)))) (hf : beatty_primesOf_2 p0 f0 = some r) :
  CallsR Tryz.prog 73 #[(iv p0), (pt ga)] w (fun v w' => v = (bv r) ∧ Keeps NoS w w') := by
 have hS : St NoS w w [blk ga (.cells #[(iv f0)] 3 (0, 0))] [] := St.init (ro_cons hR0 (ro_nil _ _))
 refine enter 8 Tryz.func73 rfl Tryz.ntmps73 rfl ?_
 unfold beatty_primesOf_2 at hf
 refine WC.seq (WC.region ?_)
 refine sg 1 [] [0, 1] [(0, (iv p0)), (1, (pt ga))] (by kernel_rfl) ?_
 refine WL.done rfl (WX.next (WC.seq (WC.region ?_)))
 refine seg 2 [.v (iv f0)] [4, 5] [(4, (iv p0)), (5, (iv f0))] [.cell ⟨ga, 0, none⟩ (iv f0)] (fun fb => by kernel_rfl) rfl ⟨blk_cell (hS.rd 0).1 0 rfl, trivial⟩ ?_
 obtain ⟨h3, hf⟩ := as_some hf
 refine seg 5 [] [3] [(3, (bv ((Int.tmod p0 f0) == 0)))] [.ne f0] (fun fb => by kernel_rfl) rfl ⟨h3, trivial⟩ ?_
 refine WL.done rfl (WX.next ?_)
 refine WC.ret ?_
 injection hf with hf
 subst hf
 exact WX.ret_ [] (bv ((Int.tmod p0 f0) == 0)) [] (fun fb => by kernel_rfl) trivial ⟨_, rfl, rfl, hS.keep⟩
end Gp
