/- Walks: each function of the program computes its plain function. -/
import Derived.Test.YtfehljifahnipaaGreatDoorGx1
set_option linter.unusedVariables false
set_option linter.unusedSimpArgs false
set_option maxHeartbeats 4000000
set_option maxRecDepth 8000
namespace Gp
open Go Gw Go.Proofs
theorem weight_balanced_calls (k : Nat) (p0 : Frac) (p1 : Frac) (p2 : Frac) (p3 : Frac) (p4 : Frac)  (r : Bool) (w : World) (hR0 : RO NoS w (tabO 0 md0)) (hf : weight_balanced k p0 p1 p2 p3 p4 = some r) :
  CallsR Tryz.prog 28 #[(.agg #[(iv p0.Num), (iv p0.Den)]), (.agg #[(iv p1.Num), (iv p1.Den)]), (.agg #[(iv p2.Num), (iv p2.Den)]), (.agg #[(iv p3.Num), (iv p3.Den)]), (.agg #[(iv p4.Num), (iv p4.Den)])] w (fun v w' => v = (bv r) ∧ Keeps NoS w w') := by
 have hS : St NoS w w [tabO 0 md0] [] := St.init (ro_cons hR0 (ro_nil _ _))
 refine enter 87 Tryz.func28 rfl Tryz.ntmps28 rfl ?_
 unfold weight_balanced at hf
 refine WC.seq (WC.region ?_)
 refine WL.new hS 5 [] (fun g => (pt g)) (.cells #[(iv p0.Num), (iv p0.Den)] 33 (0, 0)) [] (fun fb g => by kernel_rfl) trivial (fun g6 w7 hS8 => ?_)
 refine ⟨trivial, ?_⟩
 refine WL.new hS8 6 [] (fun g => (pt g)) (.cells #[(iv p1.Num), (iv p1.Den)] 33 (0, 0)) [] (fun fb g => by kernel_rfl) trivial (fun g9 w12 hS13 => ?_)
 refine ⟨trivial, ?_⟩
 refine WL.new hS13 7 [] (fun g => (pt g)) (.cells #[(iv p2.Num), (iv p2.Den)] 33 (0, 0)) [] (fun fb g => by kernel_rfl) trivial (fun g14 w15 hS16 => ?_)
 refine ⟨trivial, ?_⟩
 refine WL.new hS16 8 [] (fun g => (pt g)) (.cells #[(iv p3.Num), (iv p3.Den)] 33 (0, 0)) [] (fun fb g => by kernel_rfl) trivial (fun g17 w18 hS19 => ?_)
 refine ⟨trivial, ?_⟩
 refine WL.new hS19 9 [] (fun g => (pt g)) (.cells #[(iv p4.Num), (iv p4.Den)] 33 (0, 0)) [] (fun fb g => by kernel_rfl) trivial (fun g75 w76 hS77 => ?_)
 refine ⟨trivial, ?_⟩
 refine sg 6 [] [5, 6, 7, 8, 9] [(5, (pt g6)), (6, (pt g9)), (7, (pt g14)), (8, (pt g17)), (9, (pt g75))] (by kernel_rfl) ?_
 refine WL.done rfl (WX.next (WC.seq (WC.seq (WC.region ?_))))
 refine seg 2 [.v (.int .u64 2305843009213693951), .v (.int .u64 2305843009213693921), .v (.int .u64 2305843009213693907)] [5, 6, 7, 8, 9, 16, 17] [(5, (pt g6)), (6, (pt g9)), (7, (pt g14)), (8, (pt g17)), (9, (pt g75)), (16, (.agg md0)), (17, (iv 0))] [.cell ⟨0, 0, none⟩ (.int .u64 2305843009213693951), .cell ⟨0, 1, none⟩ (.int .u64 2305843009213693921), .cell ⟨0, 2, none⟩ (.int .u64 2305843009213693907)] (fun fb => by kernel_rfl) rfl ⟨tab_cell (hS77.rd 0).1 0 rfl, tab_cell (hS77.rd 0).1 1 rfl, tab_cell (hS77.rd 0).1 2 rfl, trivial⟩ ?_
 refine WL.done rfl (WX.next ?_)
 obtain ⟨x79, hx80, hf⟩ := bind_some hf
 let e1 : List Nat := [20, 21, 22, 23, 24, 25, 26, 27, 28, 29, 30, 31, 32, 33, 34, 35, 36, 37, 38, 39, 40, 41, 42, 43, 44, 45, 46, 47, 48, 49, 50, 51, 52, 53, 54, 55, 56, 57, 58, 59, 60, 61, 62, 63, 64, 65, 66, 67, 68, 69, 70, 71, 72, 73, 74, 5, 6, 7, 8, 9, 12, 13, 16, 17]
 let e2 : List Int := [2305843009213693951, 2305843009213693921, 2305843009213693907]
 let e5 : Nat × Value := (7, (pt g14))
 let e6 : Nat × Value := (8, (pt g17))
 let e7 : Nat × Value := (9, (pt g75))
 let e8 : Nat × Value := (5, (pt g6))
 let e9 : Nat × Value := (6, (pt g9))
 let e10 := [p0.Num, p1.Num, p2.Den, p3.Den, p4.Den]
 let e11 := [p2.Num, p0.Den, p1.Den, p3.Den, p4.Den]
 let e12 := [p3.Num, p0.Den, p1.Den, p2.Den, p4.Den]
 let e13 := [p4.Num, p0.Den, p1.Den, p2.Den, p3.Den]
 let e15 := iv p0.Den
 let e16 := iv p1.Den
 let e17 := iv p2.Den
 let e18 := iv p3.Den
 let e19 := iv p4.Den
 let e21 := iv p0.Num
 let e22 := iv p1.Num
 let e23 := iv p2.Num
 let e24 := iv p3.Num
 let e25 := iv p4.Num
 let e26 : List Nat := [5, 6, 7, 8, 9, 12, 13, 16, 17, 72, 73, 74]
 let e27 : List Nat := [1, 2, 3, 4, 5, 6, 7, 8, 9, 10]
 let e30 : Array Value := #[e21, e15]
 let e31 : Array Value := #[e22, e16]
 let e32 : Array Value := #[e23, e17]
 let e33 : Array Value := #[e24, e18]
 let e34 : Array Value := #[e25, e19]
 refine WC.cutN (T := Unit) (fun t => []) (fun t w1 => St NoS w w1 [tabO 0 md0] [] ∧ x79 = .inr t) (fun Kx79 => ?_) ?_
 ·
  refine WC.block ?_
  refine WC.loop (T := Int) (fun t => [e8, e9, e5, e6, e7, (16, (.agg md0)), (17, (iv t))]) (fun n t w1 => St NoS w w1 [tabO 0 md0] [blk g6 (.cells e30 33 (0, 0)), blk g9 (.cells e31 33 (0, 0)), blk g14 (.cells e32 33 (0, 0)), blk g17 (.cells e33 33 (0, 0)), blk g75 (.cells e34 33 (0, 0))] ∧ weight_balanced.l0 n t p0 p1 p2 p3 p4 = some x79) k 0 [5, 6, 7, 8, 9, 16, 17] rfl ⟨(hS77.subR [0]).sub [4, 3, 2, 1, 0] (by decide), hx80⟩ ?_
  rintro k81 x78 w82 ⟨hS83, hl84⟩
  let e4 : Nat × Value := (17, (iv x78))
  cases k81 with
  | zero => rw [weight_balanced.l0] at hl84; cases hl84
  | succ k81 =>
   rw [weight_balanced.l0] at hl84
   refine WC.seq (WC.region ?_)
   refine sg 1 [] [5, 6, 7, 8, 9, 16, 17, 18] [e8, e9, e5, e6, e7, (16, (.agg md0)), e4, (18, (bv (decide (x78 < 3))))] (by kernel_rfl) ?_
   refine WL.done rfl (WX.next (WC.seq ?_))
   rcases br_some hl84 with ⟨h85, hl84⟩ | ⟨h85, hl84⟩
   ·refine WC.condT2 (fun fb => by kernel_rfl) h85 ?_
    refine WC.skip (WX.next (WC.seq (WC.block (WC.seq (WC.region ?_)))))
    obtain ⟨h86, hl84⟩ := as_some hl84
    refine seg 2 [] [5, 6, 7, 8, 9, 12, 16, 17] [e8, e9, e5, e6, e7, (12, (.int .u64 (getI e2 x78))), (16, (.agg md0)), e4] [.idx (some ⟨0, 0, none⟩) x78 3] (fun fb => by kernel_rfl) rfl ⟨⟨h86.1, h86.2, rfl⟩, trivial⟩ ?_
    refine WL.done rfl (WX.next (WC.seq (WC.region ?_)))
    refine sg 1 [] [5, 6, 7, 8, 9, 12, 13, 16, 17] [e8, e9, e5, e6, e7, (12, (.int .u64 (getI e2 x78))), (13, (.int .u64 0)), (16, (.agg md0)), e4] (by kernel_rfl) ?_
    refine WL.done rfl (WX.next (WC.seq (WC.seq ?_)))
    obtain ⟨t96, ht97, hl84⟩ := bind_some hl84
    obtain ⟨t105, ht106, hl84⟩ := bind_some hl84
    obtain ⟨t114, ht115, hl84⟩ := bind_some hl84
    obtain ⟨t123, ht124, hl84⟩ := bind_some hl84
    let e3 := getI e2 x78
    let e20 := [t96, t105, t114, t123]
    let e35 := (iv (e20.length : Int))
    refine WC.regionJ (fun d_ a_ w_ => ∃ (v20 v21 v22 v23 v24 v25 v26 v27 v28 v29 v30 v31 v32 v33 v34 v35 v36 v37 v38 v39 v40 v41 v42 v43 v44 v45 v46 v47 v48 v49 v50 v51 v52 v53 v54 v55 v56 v57 v58 v59 v60 v61 v62 v63 v64 v65 v66 v67 v68 v69 v70 v71 v72 v73 v74 : Value) (g87 g88 g89 g90 g91 : Nat) (fb_ : Operand → Value), Has 87 [(20, v20), (21, v21), (22, v22), (23, v23), (24, v24), (25, v25), (26, v26), (27, v27), (28, v28), (29, v29), (30, v30), (31, v31), (32, v32), (33, v33), (34, v34), (35, v35), (36, v36), (37, v37), (38, v38), (39, v39), (40, v40), (41, v41), (42, v42), (43, v43), (44, v44), (45, v45), (46, v46), (47, v47), (48, v48), (49, v49), (50, v50), (51, v51), (52, v52), (53, v53), (54, v54), (55, v55), (56, v56), (57, v57), (58, v58), (59, v59), (60, v60), (61, v61), (62, v62), (63, v63), (64, v64), (65, v65), (66, v66), (67, v67), (68, v68), (69, v69), (70, v70), (71, v71), (72, v72), (73, v73), (74, v74), e8, e9, e5, e6, e7, (12, (.int .u64 e3)), (13, (.int .u64 0)), (16, (.agg md0)), e4] fb_ a_ ∧ DoneL d_ [(0, v20, (.int .u64 e3)), (1, v21, (pt g6)), (2, v22, e21), (3, v23, (pt g9)), (4, v24, e22), (5, v25, (.pointer (some ⟨g14, 1, none⟩))), (6, v26, e17), (7, v27, (.pointer (some ⟨g17, 1, none⟩))), (8, v28, e18), (9, v29, (.pointer (some ⟨g75, 1, none⟩))), (10, v30, e19), (11, v31, (sv (some ⟨g87, 0, none⟩) e10 5)), (12, v32, (.int .u64 t96)), (13, v33, (.int .u64 e3)), (14, v34, (pt g14)), (15, v35, e23), (16, v36, (.pointer (some ⟨g6, 1, none⟩))), (17, v37, e15), (18, v38, (.pointer (some ⟨g9, 1, none⟩))), (19, v39, e16), (20, v40, (.pointer (some ⟨g17, 1, none⟩))), (21, v41, e18), (22, v42, (.pointer (some ⟨g75, 1, none⟩))), (23, v43, e19), (24, v44, (sv (some ⟨g88, 0, none⟩) e11 5)), (25, v45, (.int .u64 t105)), (26, v46, (.int .u64 e3)), (27, v47, (pt g17)), (28, v48, e24), (29, v49, (.pointer (some ⟨g6, 1, none⟩))), (30, v50, e15), (31, v51, (.pointer (some ⟨g9, 1, none⟩))), (32, v52, e16), (33, v53, (.pointer (some ⟨g14, 1, none⟩))), (34, v54, e17), (35, v55, (.pointer (some ⟨g75, 1, none⟩))), (36, v56, e19), (37, v57, (sv (some ⟨g89, 0, none⟩) e12 5)), (38, v58, (.int .u64 t114)), (39, v59, (.int .u64 e3)), (40, v60, (pt g75)), (41, v61, e25), (42, v62, (.pointer (some ⟨g6, 1, none⟩))), (43, v63, e15), (44, v64, (.pointer (some ⟨g9, 1, none⟩))), (45, v65, e16), (46, v66, (.pointer (some ⟨g14, 1, none⟩))), (47, v67, e17), (48, v68, (.pointer (some ⟨g17, 1, none⟩))), (49, v69, e18), (50, v70, (sv (some ⟨g90, 0, none⟩) e13 5)), (51, v71, (.int .u64 t123)), (52, v72, (sv (some ⟨g91, 0, none⟩) e20 4)), (53, v73, e35), (54, v74, (iv 0))] ∧ St NoS w w_ [tabO 0 md0] [sO (d_ 11) (rowO 3 encInt (some ⟨g87, 0, none⟩) 5 e10), sO (d_ 24) (rowO 3 encInt (some ⟨g88, 0, none⟩) 5 e11), sO (d_ 37) (rowO 3 encInt (some ⟨g89, 0, none⟩) 5 e12), sO (d_ 50) (rowO 3 encInt (some ⟨g90, 0, none⟩) 5 e13), sO (d_ 52) (rowO 87 encU64 (some ⟨g91, 0, none⟩) 4 e20), blk g6 (.cells e30 33 (0, 0)), blk g9 (.cells e31 33 (0, 0)), blk g14 (.cells e32 33 (0, 0)), blk g17 (.cells e33 33 (0, 0)), blk g75 (.cells e34 33 (0, 0))]) [[], [], [1], [], [3], [], [5], [], [7], [], [9], e27, [0, 1, 2, 3, 4, 5, 6, 7, 8, 9, 10, 11], [], [], [14], [], [16], [], [18], [], [20], [], [22], [14, 15, 16, 17, 18, 19, 20, 21, 22, 23], [0, 1, 2, 3, 4, 5, 6, 7, 8, 9, 10, 11, 12, 13, 14, 15, 16, 17, 18, 19, 20, 21, 22, 23, 24], [], [], [27], [], [29], [], [31], [], [33], [], [35], [27, 28, 29, 30, 31, 32, 33, 34, 35, 36], [0, 1, 2, 3, 4, 5, 6, 7, 8, 9, 10, 11, 12, 13, 14, 15, 16, 17, 18, 19, 20, 21, 22, 23, 24, 25, 26, 27, 28, 29, 30, 31, 32, 33, 34, 35, 36, 37], [], [], [40], [], [42], [], [44], [], [46], [], [48], [40, 41, 42, 43, 44, 45, 46, 47, 48, 49], [0, 1, 2, 3, 4, 5, 6, 7, 8, 9, 10, 11, 12, 13, 14, 15, 16, 17, 18, 19, 20, 21, 22, 23, 24, 25, 26, 27, 28, 29, 30, 31, 32, 33, 34, 35, 36, 37, 38, 39, 40, 41, 42, 43, 44, 45, 46, 47, 48, 49, 50], [0, 1, 2, 3, 4, 5, 6, 7, 8, 9, 10, 11, 12, 13, 14, 15, 16, 17, 18, 19, 20, 21, 22, 23, 24, 25, 26, 27, 28, 29, 30, 31, 32, 33, 34, 35, 36, 37, 38, 39, 40, 41, 42, 43, 44, 45, 46, 47, 48, 49, 50, 51], [0, 1, 2, 3, 4, 5, 6, 7, 8, 9, 10, 11, 12, 13, 14, 15, 16, 17, 18, 19, 20, 21, 22, 23, 24, 25, 26, 27, 28, 29, 30, 31, 32, 33, 34, 35, 36, 37, 38, 39, 40, 41, 42, 43, 44, 45, 46, 47, 48, 49, 50, 51, 52], []] (by kernel_rfl) (by kernel_rfl) 55 rfl ?_ ?_ ?_
    ·intro d_ fb_ a_ hd_ ha_
     have hS_ := hS83.drew
     have e11_ : d_ 11 = false := hd_ 11 (by decide)
     have e24_ : d_ 24 = false := hd_ 24 (by decide)
     have e37_ : d_ 37 = false := hd_ 37 (by decide)
     have e50_ : d_ 50 = false := hd_ 50 (by decide)
     have e52_ : d_ 52 = false := hd_ 52 (by decide)
     exact ⟨(a_.eval (.tmp 20)), (a_.eval (.tmp 21)), (a_.eval (.tmp 22)), (a_.eval (.tmp 23)), (a_.eval (.tmp 24)), (a_.eval (.tmp 25)), (a_.eval (.tmp 26)), (a_.eval (.tmp 27)), (a_.eval (.tmp 28)), (a_.eval (.tmp 29)), (a_.eval (.tmp 30)), (a_.eval (.tmp 31)), (a_.eval (.tmp 32)), (a_.eval (.tmp 33)), (a_.eval (.tmp 34)), (a_.eval (.tmp 35)), (a_.eval (.tmp 36)), (a_.eval (.tmp 37)), (a_.eval (.tmp 38)), (a_.eval (.tmp 39)), (a_.eval (.tmp 40)), (a_.eval (.tmp 41)), (a_.eval (.tmp 42)), (a_.eval (.tmp 43)), (a_.eval (.tmp 44)), (a_.eval (.tmp 45)), (a_.eval (.tmp 46)), (a_.eval (.tmp 47)), (a_.eval (.tmp 48)), (a_.eval (.tmp 49)), (a_.eval (.tmp 50)), (a_.eval (.tmp 51)), (a_.eval (.tmp 52)), (a_.eval (.tmp 53)), (a_.eval (.tmp 54)), (a_.eval (.tmp 55)), (a_.eval (.tmp 56)), (a_.eval (.tmp 57)), (a_.eval (.tmp 58)), (a_.eval (.tmp 59)), (a_.eval (.tmp 60)), (a_.eval (.tmp 61)), (a_.eval (.tmp 62)), (a_.eval (.tmp 63)), (a_.eval (.tmp 64)), (a_.eval (.tmp 65)), (a_.eval (.tmp 66)), (a_.eval (.tmp 67)), (a_.eval (.tmp 68)), (a_.eval (.tmp 69)), (a_.eval (.tmp 70)), (a_.eval (.tmp 71)), (a_.eval (.tmp 72)), (a_.eval (.tmp 73)), (a_.eval (.tmp 74)), 0, 0, 0, 0, 0, _, (Has.peek (Has.peek (Has.peek (Has.peek (Has.peek (Has.peek (Has.peek (Has.peek (Has.peek (Has.peek (Has.peek (Has.peek (Has.peek (Has.peek (Has.peek (Has.peek (Has.peek (Has.peek (Has.peek (Has.peek (Has.peek (Has.peek (Has.peek (Has.peek (Has.peek (Has.peek (Has.peek (Has.peek (Has.peek (Has.peek (Has.peek (Has.peek (Has.peek (Has.peek (Has.peek (Has.peek (Has.peek (Has.peek (Has.peek (Has.peek (Has.peek (Has.peek (Has.peek (Has.peek (Has.peek (Has.peek (Has.peek (Has.peek (Has.peek (Has.peek (Has.peek (Has.peek (Has.peek (Has.peek (Has.peek (ha_.picked (show pick _ [5, 6, 7, 8, 9, 12, 13, 16, 17] = some [(5, (pt g6)), (6, (pt g9)), (7, (pt g14)), (8, (pt g17)), (9, (pt g75)), (12, (.int .u64 (getI [2305843009213693951, 2305843009213693921, 2305843009213693907] x78))), (13, (.int .u64 0)), (16, (.agg md0)), (17, (iv x78))] from rfl)) 74 (by decide)) 73 (by decide)) 72 (by decide)) 71 (by decide)) 70 (by decide)) 69 (by decide)) 68 (by decide)) 67 (by decide)) 66 (by decide)) 65 (by decide)) 64 (by decide)) 63 (by decide)) 62 (by decide)) 61 (by decide)) 60 (by decide)) 59 (by decide)) 58 (by decide)) 57 (by decide)) 56 (by decide)) 55 (by decide)) 54 (by decide)) 53 (by decide)) 52 (by decide)) 51 (by decide)) 50 (by decide)) 49 (by decide)) 48 (by decide)) 47 (by decide)) 46 (by decide)) 45 (by decide)) 44 (by decide)) 43 (by decide)) 42 (by decide)) 41 (by decide)) 40 (by decide)) 39 (by decide)) 38 (by decide)) 37 (by decide)) 36 (by decide)) 35 (by decide)) 34 (by decide)) 33 (by decide)) 32 (by decide)) 31 (by decide)) 30 (by decide)) 29 (by decide)) 28 (by decide)) 27 (by decide)) 26 (by decide)) 25 (by decide)) 24 (by decide)) 23 (by decide)) 22 (by decide)) 21 (by decide)) 20 (by decide)), DoneL.none (fun i hi => hd_ i hi), (by rw [e11_, e24_, e37_, e50_, e52_]; exact hS_.sub [5, 6, 7, 8, 9, 0, 1, 2, 3, 4] (by decide))⟩
    ·refine ((((((((((((((((((((((((((((((((((((((((((((((((((((((StepsI.zero.succ ?_).succ ?_).succ ?_).succ ?_).succ ?_).succ ?_).succ ?_).succ ?_).succ ?_).succ ?_).succ ?_).succ ?_).succ ?_).succ ?_).succ ?_).succ ?_).succ ?_).succ ?_).succ ?_).succ ?_).succ ?_).succ ?_).succ ?_).succ ?_).succ ?_).succ ?_).succ ?_).succ ?_).succ ?_).succ ?_).succ ?_).succ ?_).succ ?_).succ ?_).succ ?_).succ ?_).succ ?_).succ ?_).succ ?_).succ ?_).succ ?_).succ ?_).succ ?_).succ ?_).succ ?_).succ ?_).succ ?_).succ ?_).succ ?_).succ ?_).succ ?_).succ ?_).succ ?_).succ ?_).succ ?_
     ·intro d_ a_ w_ hd_ hj_ hc_ hI_
      have hi_ : 0 < 55 := by decide
      refine ex10 hI_ fun v20 v21 v22 v23 v24 v25 v26 v27 v28 v29 h0 => ex10 h0 fun v30 v31 v32 v33 v34 v35 v36 v37 v38 v39 h1 => ex10 h1 fun v40 v41 v42 v43 v44 v45 v46 v47 v48 v49 h2 => ex10 h2 fun v50 v51 v52 v53 v54 v55 v56 v57 v58 v59 h3 => ex10 h3 fun v60 v61 v62 v63 v64 v65 v66 v67 v68 v69 h4 => ex10 h4 fun v70 v71 v72 v73 v74 g87 g88 g89 g90 g91 h5 => ?_
      obtain ⟨fb_, ha_, H_, hS_⟩ := h5
      clear hI_ h0 h1 h2 h3 h4
      refine op_WL hi_ ha_ ?_
      refine sg 1 [] e1 [(20, (.int .u64 e3)), (21, v21), (22, v22), (23, v23), (24, v24), (25, v25), (26, v26), (27, v27), (28, v28), (29, v29), (30, v30), (31, v31), (32, v32), (33, v33), (34, v34), (35, v35), (36, v36), (37, v37), (38, v38), (39, v39), (40, v40), (41, v41), (42, v42), (43, v43), (44, v44), (45, v45), (46, v46), (47, v47), (48, v48), (49, v49), (50, v50), (51, v51), (52, v52), (53, v53), (54, v54), (55, v55), (56, v56), (57, v57), (58, v58), (59, v59), (60, v60), (61, v61), (62, v62), (63, v63), (64, v64), (65, v65), (66, v66), (67, v67), (68, v68), (69, v69), (70, v70), (71, v71), (72, v72), (73, v73), (74, v74), e8, e9, e5, e6, e7, (12, (.int .u64 e3)), (13, (.int .u64 0)), (16, (.agg md0)), e4] (by kernel_rfl) ?_
      refine WL.done rfl ?_
      exact fun fb_ a_ ha_ => ⟨(.int .u64 e3), v21, v22, v23, v24, v25, v26, v27, v28, v29, v30, v31, v32, v33, v34, v35, v36, v37, v38, v39, v40, v41, v42, v43, v44, v45, v46, v47, v48, v49, v50, v51, v52, v53, v54, v55, v56, v57, v58, v59, v60, v61, v62, v63, v64, v65, v66, v67, v68, v69, v70, v71, v72, v73, v74, g87, g88, g89, g90, g91, fb_, ha_, (H_.upd 0 (.int .u64 e3) rfl), hS_⟩
     ·intro d_ a_ w_ hd_ hj_ hc_ hI_
      have hi_ : 1 < 55 := by decide
      refine ex10 hI_ fun v20 v21 v22 v23 v24 v25 v26 v27 v28 v29 h0 => ex10 h0 fun v30 v31 v32 v33 v34 v35 v36 v37 v38 v39 h1 => ex10 h1 fun v40 v41 v42 v43 v44 v45 v46 v47 v48 v49 h2 => ex10 h2 fun v50 v51 v52 v53 v54 v55 v56 v57 v58 v59 h3 => ex10 h3 fun v60 v61 v62 v63 v64 v65 v66 v67 v68 v69 h4 => ex10 h4 fun v70 v71 v72 v73 v74 g87 g88 g89 g90 g91 h5 => ?_
      obtain ⟨fb_, ha_, H_, hS_⟩ := h5
      clear hI_ h0 h1 h2 h3 h4
      refine op_WL hi_ ha_ ?_
      refine sg 1 [] e1 [(20, v20), (21, (pt g6)), (22, v22), (23, v23), (24, v24), (25, v25), (26, v26), (27, v27), (28, v28), (29, v29), (30, v30), (31, v31), (32, v32), (33, v33), (34, v34), (35, v35), (36, v36), (37, v37), (38, v38), (39, v39), (40, v40), (41, v41), (42, v42), (43, v43), (44, v44), (45, v45), (46, v46), (47, v47), (48, v48), (49, v49), (50, v50), (51, v51), (52, v52), (53, v53), (54, v54), (55, v55), (56, v56), (57, v57), (58, v58), (59, v59), (60, v60), (61, v61), (62, v62), (63, v63), (64, v64), (65, v65), (66, v66), (67, v67), (68, v68), (69, v69), (70, v70), (71, v71), (72, v72), (73, v73), (74, v74), e8, e9, e5, e6, e7, (12, (.int .u64 e3)), (13, (.int .u64 0)), (16, (.agg md0)), e4] (by kernel_rfl) ?_
      refine WL.done rfl ?_
      exact fun fb_ a_ ha_ => ⟨v20, (pt g6), v22, v23, v24, v25, v26, v27, v28, v29, v30, v31, v32, v33, v34, v35, v36, v37, v38, v39, v40, v41, v42, v43, v44, v45, v46, v47, v48, v49, v50, v51, v52, v53, v54, v55, v56, v57, v58, v59, v60, v61, v62, v63, v64, v65, v66, v67, v68, v69, v70, v71, v72, v73, v74, g87, g88, g89, g90, g91, fb_, ha_, (H_.upd 1 (pt g6) rfl), hS_⟩
     ·intro d_ a_ w_ hd_ hj_ hc_ hI_
      have hi_ : 2 < 55 := by decide
      refine ex10 hI_ fun v20 v21 v22 v23 v24 v25 v26 v27 v28 v29 h0 => ex10 h0 fun v30 v31 v32 v33 v34 v35 v36 v37 v38 v39 h1 => ex10 h1 fun v40 v41 v42 v43 v44 v45 v46 v47 v48 v49 h2 => ex10 h2 fun v50 v51 v52 v53 v54 v55 v56 v57 v58 v59 h3 => ex10 h3 fun v60 v61 v62 v63 v64 v65 v66 v67 v68 v69 h4 => ex10 h4 fun v70 v71 v72 v73 v74 g87 g88 g89 g90 g91 h5 => ?_
      obtain ⟨fb_, ha_, H_, hS_⟩ := h5
      clear hI_ h0 h1 h2 h3 h4
      obtain rfl : v21 = (pt g6) := H_ 1 _ rfl (hj_ 1 (memN_iff.1 (by kernel_rfl)))
      refine op_WL hi_ ha_ ?_
      refine seg 1 [.v e21] e1 [(20, v20), (21, (pt g6)), (22, e21), (23, v23), (24, v24), (25, v25), (26, v26), (27, v27), (28, v28), (29, v29), (30, v30), (31, v31), (32, v32), (33, v33), (34, v34), (35, v35), (36, v36), (37, v37), (38, v38), (39, v39), (40, v40), (41, v41), (42, v42), (43, v43), (44, v44), (45, v45), (46, v46), (47, v47), (48, v48), (49, v49), (50, v50), (51, v51), (52, v52), (53, v53), (54, v54), (55, v55), (56, v56), (57, v57), (58, v58), (59, v59), (60, v60), (61, v61), (62, v62), (63, v63), (64, v64), (65, v65), (66, v66), (67, v67), (68, v68), (69, v69), (70, v70), (71, v71), (72, v72), (73, v73), (74, v74), e8, e9, e5, e6, e7, (12, (.int .u64 e3)), (13, (.int .u64 0)), (16, (.agg md0)), e4] [.cell ⟨g6, 0, none⟩ e21] (fun fb => by kernel_rfl) rfl ⟨hS_.cell 5 rfl 0 rfl, trivial⟩ ?_
      refine WL.done rfl ?_
      exact fun fb_ a_ ha_ => ⟨v20, (pt g6), e21, v23, v24, v25, v26, v27, v28, v29, v30, v31, v32, v33, v34, v35, v36, v37, v38, v39, v40, v41, v42, v43, v44, v45, v46, v47, v48, v49, v50, v51, v52, v53, v54, v55, v56, v57, v58, v59, v60, v61, v62, v63, v64, v65, v66, v67, v68, v69, v70, v71, v72, v73, v74, g87, g88, g89, g90, g91, fb_, ha_, (H_.upd 2 e21 rfl), hS_⟩
     ·intro d_ a_ w_ hd_ hj_ hc_ hI_
      have hi_ : 3 < 55 := by decide
      refine ex10 hI_ fun v20 v21 v22 v23 v24 v25 v26 v27 v28 v29 h0 => ex10 h0 fun v30 v31 v32 v33 v34 v35 v36 v37 v38 v39 h1 => ex10 h1 fun v40 v41 v42 v43 v44 v45 v46 v47 v48 v49 h2 => ex10 h2 fun v50 v51 v52 v53 v54 v55 v56 v57 v58 v59 h3 => ex10 h3 fun v60 v61 v62 v63 v64 v65 v66 v67 v68 v69 h4 => ex10 h4 fun v70 v71 v72 v73 v74 g87 g88 g89 g90 g91 h5 => ?_
      obtain ⟨fb_, ha_, H_, hS_⟩ := h5
      clear hI_ h0 h1 h2 h3 h4
      refine op_WL hi_ ha_ ?_
      refine sg 1 [] e1 [(20, v20), (21, v21), (22, v22), (23, (pt g9)), (24, v24), (25, v25), (26, v26), (27, v27), (28, v28), (29, v29), (30, v30), (31, v31), (32, v32), (33, v33), (34, v34), (35, v35), (36, v36), (37, v37), (38, v38), (39, v39), (40, v40), (41, v41), (42, v42), (43, v43), (44, v44), (45, v45), (46, v46), (47, v47), (48, v48), (49, v49), (50, v50), (51, v51), (52, v52), (53, v53), (54, v54), (55, v55), (56, v56), (57, v57), (58, v58), (59, v59), (60, v60), (61, v61), (62, v62), (63, v63), (64, v64), (65, v65), (66, v66), (67, v67), (68, v68), (69, v69), (70, v70), (71, v71), (72, v72), (73, v73), (74, v74), e8, e9, e5, e6, e7, (12, (.int .u64 e3)), (13, (.int .u64 0)), (16, (.agg md0)), e4] (by kernel_rfl) ?_
      refine WL.done rfl ?_
      exact fun fb_ a_ ha_ => ⟨v20, v21, v22, (pt g9), v24, v25, v26, v27, v28, v29, v30, v31, v32, v33, v34, v35, v36, v37, v38, v39, v40, v41, v42, v43, v44, v45, v46, v47, v48, v49, v50, v51, v52, v53, v54, v55, v56, v57, v58, v59, v60, v61, v62, v63, v64, v65, v66, v67, v68, v69, v70, v71, v72, v73, v74, g87, g88, g89, g90, g91, fb_, ha_, (H_.upd 3 (pt g9) rfl), hS_⟩
     ·intro d_ a_ w_ hd_ hj_ hc_ hI_
      have hi_ : 4 < 55 := by decide
      refine ex10 hI_ fun v20 v21 v22 v23 v24 v25 v26 v27 v28 v29 h0 => ex10 h0 fun v30 v31 v32 v33 v34 v35 v36 v37 v38 v39 h1 => ex10 h1 fun v40 v41 v42 v43 v44 v45 v46 v47 v48 v49 h2 => ex10 h2 fun v50 v51 v52 v53 v54 v55 v56 v57 v58 v59 h3 => ex10 h3 fun v60 v61 v62 v63 v64 v65 v66 v67 v68 v69 h4 => ex10 h4 fun v70 v71 v72 v73 v74 g87 g88 g89 g90 g91 h5 => ?_
      obtain ⟨fb_, ha_, H_, hS_⟩ := h5
      clear hI_ h0 h1 h2 h3 h4
      obtain rfl : v23 = (pt g9) := H_ 3 _ rfl (hj_ 3 (memN_iff.1 (by kernel_rfl)))
      refine op_WL hi_ ha_ ?_
      refine seg 1 [.v e22] e1 [(20, v20), (21, v21), (22, v22), (23, (pt g9)), (24, e22), (25, v25), (26, v26), (27, v27), (28, v28), (29, v29), (30, v30), (31, v31), (32, v32), (33, v33), (34, v34), (35, v35), (36, v36), (37, v37), (38, v38), (39, v39), (40, v40), (41, v41), (42, v42), (43, v43), (44, v44), (45, v45), (46, v46), (47, v47), (48, v48), (49, v49), (50, v50), (51, v51), (52, v52), (53, v53), (54, v54), (55, v55), (56, v56), (57, v57), (58, v58), (59, v59), (60, v60), (61, v61), (62, v62), (63, v63), (64, v64), (65, v65), (66, v66), (67, v67), (68, v68), (69, v69), (70, v70), (71, v71), (72, v72), (73, v73), (74, v74), e8, e9, e5, e6, e7, (12, (.int .u64 e3)), (13, (.int .u64 0)), (16, (.agg md0)), e4] [.cell ⟨g9, 0, none⟩ e22] (fun fb => by kernel_rfl) rfl ⟨hS_.cell 6 rfl 0 rfl, trivial⟩ ?_
      refine WL.done rfl ?_
      exact fun fb_ a_ ha_ => ⟨v20, v21, v22, (pt g9), e22, v25, v26, v27, v28, v29, v30, v31, v32, v33, v34, v35, v36, v37, v38, v39, v40, v41, v42, v43, v44, v45, v46, v47, v48, v49, v50, v51, v52, v53, v54, v55, v56, v57, v58, v59, v60, v61, v62, v63, v64, v65, v66, v67, v68, v69, v70, v71, v72, v73, v74, g87, g88, g89, g90, g91, fb_, ha_, (H_.upd 4 e22 rfl), hS_⟩
     ·intro d_ a_ w_ hd_ hj_ hc_ hI_
      have hi_ : 5 < 55 := by decide
      refine ex10 hI_ fun v20 v21 v22 v23 v24 v25 v26 v27 v28 v29 h0 => ex10 h0 fun v30 v31 v32 v33 v34 v35 v36 v37 v38 v39 h1 => ex10 h1 fun v40 v41 v42 v43 v44 v45 v46 v47 v48 v49 h2 => ex10 h2 fun v50 v51 v52 v53 v54 v55 v56 v57 v58 v59 h3 => ex10 h3 fun v60 v61 v62 v63 v64 v65 v66 v67 v68 v69 h4 => ex10 h4 fun v70 v71 v72 v73 v74 g87 g88 g89 g90 g91 h5 => ?_
      obtain ⟨fb_, ha_, H_, hS_⟩ := h5
      clear hI_ h0 h1 h2 h3 h4
      refine op_WL hi_ ha_ ?_
      refine sg 1 [] e1 [(20, v20), (21, v21), (22, v22), (23, v23), (24, v24), (25, (.pointer (some ⟨g14, 1, none⟩))), (26, v26), (27, v27), (28, v28), (29, v29), (30, v30), (31, v31), (32, v32), (33, v33), (34, v34), (35, v35), (36, v36), (37, v37), (38, v38), (39, v39), (40, v40), (41, v41), (42, v42), (43, v43), (44, v44), (45, v45), (46, v46), (47, v47), (48, v48), (49, v49), (50, v50), (51, v51), (52, v52), (53, v53), (54, v54), (55, v55), (56, v56), (57, v57), (58, v58), (59, v59), (60, v60), (61, v61), (62, v62), (63, v63), (64, v64), (65, v65), (66, v66), (67, v67), (68, v68), (69, v69), (70, v70), (71, v71), (72, v72), (73, v73), (74, v74), e8, e9, e5, e6, e7, (12, (.int .u64 e3)), (13, (.int .u64 0)), (16, (.agg md0)), e4] (by kernel_rfl) ?_
      refine WL.done rfl ?_
      exact fun fb_ a_ ha_ => ⟨v20, v21, v22, v23, v24, (.pointer (some ⟨g14, 1, none⟩)), v26, v27, v28, v29, v30, v31, v32, v33, v34, v35, v36, v37, v38, v39, v40, v41, v42, v43, v44, v45, v46, v47, v48, v49, v50, v51, v52, v53, v54, v55, v56, v57, v58, v59, v60, v61, v62, v63, v64, v65, v66, v67, v68, v69, v70, v71, v72, v73, v74, g87, g88, g89, g90, g91, fb_, ha_, (H_.upd 5 (.pointer (some ⟨g14, 1, none⟩)) rfl), hS_⟩
     ·intro d_ a_ w_ hd_ hj_ hc_ hI_
      have hi_ : 6 < 55 := by decide
      refine ex10 hI_ fun v20 v21 v22 v23 v24 v25 v26 v27 v28 v29 h0 => ex10 h0 fun v30 v31 v32 v33 v34 v35 v36 v37 v38 v39 h1 => ex10 h1 fun v40 v41 v42 v43 v44 v45 v46 v47 v48 v49 h2 => ex10 h2 fun v50 v51 v52 v53 v54 v55 v56 v57 v58 v59 h3 => ex10 h3 fun v60 v61 v62 v63 v64 v65 v66 v67 v68 v69 h4 => ex10 h4 fun v70 v71 v72 v73 v74 g87 g88 g89 g90 g91 h5 => ?_
      obtain ⟨fb_, ha_, H_, hS_⟩ := h5
      clear hI_ h0 h1 h2 h3 h4
      obtain rfl : v25 = (.pointer (some ⟨g14, 1, none⟩)) := H_ 5 _ rfl (hj_ 5 (memN_iff.1 (by kernel_rfl)))
      refine op_WL hi_ ha_ ?_
      refine seg 1 [.v e17] e1 [(20, v20), (21, v21), (22, v22), (23, v23), (24, v24), (25, (.pointer (some ⟨g14, 1, none⟩))), (26, e17), (27, v27), (28, v28), (29, v29), (30, v30), (31, v31), (32, v32), (33, v33), (34, v34), (35, v35), (36, v36), (37, v37), (38, v38), (39, v39), (40, v40), (41, v41), (42, v42), (43, v43), (44, v44), (45, v45), (46, v46), (47, v47), (48, v48), (49, v49), (50, v50), (51, v51), (52, v52), (53, v53), (54, v54), (55, v55), (56, v56), (57, v57), (58, v58), (59, v59), (60, v60), (61, v61), (62, v62), (63, v63), (64, v64), (65, v65), (66, v66), (67, v67), (68, v68), (69, v69), (70, v70), (71, v71), (72, v72), (73, v73), (74, v74), e8, e9, e5, e6, e7, (12, (.int .u64 e3)), (13, (.int .u64 0)), (16, (.agg md0)), e4] [.cell ⟨g14, 1, none⟩ e17] (fun fb => by kernel_rfl) rfl ⟨hS_.cell 7 rfl 1 rfl, trivial⟩ ?_
      refine WL.done rfl ?_
      exact fun fb_ a_ ha_ => ⟨v20, v21, v22, v23, v24, (.pointer (some ⟨g14, 1, none⟩)), e17, v27, v28, v29, v30, v31, v32, v33, v34, v35, v36, v37, v38, v39, v40, v41, v42, v43, v44, v45, v46, v47, v48, v49, v50, v51, v52, v53, v54, v55, v56, v57, v58, v59, v60, v61, v62, v63, v64, v65, v66, v67, v68, v69, v70, v71, v72, v73, v74, g87, g88, g89, g90, g91, fb_, ha_, (H_.upd 6 e17 rfl), hS_⟩
     ·intro d_ a_ w_ hd_ hj_ hc_ hI_
      have hi_ : 7 < 55 := by decide
      refine ex10 hI_ fun v20 v21 v22 v23 v24 v25 v26 v27 v28 v29 h0 => ex10 h0 fun v30 v31 v32 v33 v34 v35 v36 v37 v38 v39 h1 => ex10 h1 fun v40 v41 v42 v43 v44 v45 v46 v47 v48 v49 h2 => ex10 h2 fun v50 v51 v52 v53 v54 v55 v56 v57 v58 v59 h3 => ex10 h3 fun v60 v61 v62 v63 v64 v65 v66 v67 v68 v69 h4 => ex10 h4 fun v70 v71 v72 v73 v74 g87 g88 g89 g90 g91 h5 => ?_
      obtain ⟨fb_, ha_, H_, hS_⟩ := h5
      clear hI_ h0 h1 h2 h3 h4
      refine op_WL hi_ ha_ ?_
      refine sg 1 [] e1 [(20, v20), (21, v21), (22, v22), (23, v23), (24, v24), (25, v25), (26, v26), (27, (.pointer (some ⟨g17, 1, none⟩))), (28, v28), (29, v29), (30, v30), (31, v31), (32, v32), (33, v33), (34, v34), (35, v35), (36, v36), (37, v37), (38, v38), (39, v39), (40, v40), (41, v41), (42, v42), (43, v43), (44, v44), (45, v45), (46, v46), (47, v47), (48, v48), (49, v49), (50, v50), (51, v51), (52, v52), (53, v53), (54, v54), (55, v55), (56, v56), (57, v57), (58, v58), (59, v59), (60, v60), (61, v61), (62, v62), (63, v63), (64, v64), (65, v65), (66, v66), (67, v67), (68, v68), (69, v69), (70, v70), (71, v71), (72, v72), (73, v73), (74, v74), e8, e9, e5, e6, e7, (12, (.int .u64 e3)), (13, (.int .u64 0)), (16, (.agg md0)), e4] (by kernel_rfl) ?_
      refine WL.done rfl ?_
      exact fun fb_ a_ ha_ => ⟨v20, v21, v22, v23, v24, v25, v26, (.pointer (some ⟨g17, 1, none⟩)), v28, v29, v30, v31, v32, v33, v34, v35, v36, v37, v38, v39, v40, v41, v42, v43, v44, v45, v46, v47, v48, v49, v50, v51, v52, v53, v54, v55, v56, v57, v58, v59, v60, v61, v62, v63, v64, v65, v66, v67, v68, v69, v70, v71, v72, v73, v74, g87, g88, g89, g90, g91, fb_, ha_, (H_.upd 7 (.pointer (some ⟨g17, 1, none⟩)) rfl), hS_⟩
     ·intro d_ a_ w_ hd_ hj_ hc_ hI_
      have hi_ : 8 < 55 := by decide
      refine ex10 hI_ fun v20 v21 v22 v23 v24 v25 v26 v27 v28 v29 h0 => ex10 h0 fun v30 v31 v32 v33 v34 v35 v36 v37 v38 v39 h1 => ex10 h1 fun v40 v41 v42 v43 v44 v45 v46 v47 v48 v49 h2 => ex10 h2 fun v50 v51 v52 v53 v54 v55 v56 v57 v58 v59 h3 => ex10 h3 fun v60 v61 v62 v63 v64 v65 v66 v67 v68 v69 h4 => ex10 h4 fun v70 v71 v72 v73 v74 g87 g88 g89 g90 g91 h5 => ?_
      obtain ⟨fb_, ha_, H_, hS_⟩ := h5
      clear hI_ h0 h1 h2 h3 h4
      obtain rfl : v27 = (.pointer (some ⟨g17, 1, none⟩)) := H_ 7 _ rfl (hj_ 7 (memN_iff.1 (by kernel_rfl)))
      refine op_WL hi_ ha_ ?_
      refine seg 1 [.v e18] e1 [(20, v20), (21, v21), (22, v22), (23, v23), (24, v24), (25, v25), (26, v26), (27, (.pointer (some ⟨g17, 1, none⟩))), (28, e18), (29, v29), (30, v30), (31, v31), (32, v32), (33, v33), (34, v34), (35, v35), (36, v36), (37, v37), (38, v38), (39, v39), (40, v40), (41, v41), (42, v42), (43, v43), (44, v44), (45, v45), (46, v46), (47, v47), (48, v48), (49, v49), (50, v50), (51, v51), (52, v52), (53, v53), (54, v54), (55, v55), (56, v56), (57, v57), (58, v58), (59, v59), (60, v60), (61, v61), (62, v62), (63, v63), (64, v64), (65, v65), (66, v66), (67, v67), (68, v68), (69, v69), (70, v70), (71, v71), (72, v72), (73, v73), (74, v74), e8, e9, e5, e6, e7, (12, (.int .u64 e3)), (13, (.int .u64 0)), (16, (.agg md0)), e4] [.cell ⟨g17, 1, none⟩ e18] (fun fb => by kernel_rfl) rfl ⟨hS_.cell 8 rfl 1 rfl, trivial⟩ ?_
      refine WL.done rfl ?_
      exact fun fb_ a_ ha_ => ⟨v20, v21, v22, v23, v24, v25, v26, (.pointer (some ⟨g17, 1, none⟩)), e18, v29, v30, v31, v32, v33, v34, v35, v36, v37, v38, v39, v40, v41, v42, v43, v44, v45, v46, v47, v48, v49, v50, v51, v52, v53, v54, v55, v56, v57, v58, v59, v60, v61, v62, v63, v64, v65, v66, v67, v68, v69, v70, v71, v72, v73, v74, g87, g88, g89, g90, g91, fb_, ha_, (H_.upd 8 e18 rfl), hS_⟩
     ·intro d_ a_ w_ hd_ hj_ hc_ hI_
      have hi_ : 9 < 55 := by decide
      refine ex10 hI_ fun v20 v21 v22 v23 v24 v25 v26 v27 v28 v29 h0 => ex10 h0 fun v30 v31 v32 v33 v34 v35 v36 v37 v38 v39 h1 => ex10 h1 fun v40 v41 v42 v43 v44 v45 v46 v47 v48 v49 h2 => ex10 h2 fun v50 v51 v52 v53 v54 v55 v56 v57 v58 v59 h3 => ex10 h3 fun v60 v61 v62 v63 v64 v65 v66 v67 v68 v69 h4 => ex10 h4 fun v70 v71 v72 v73 v74 g87 g88 g89 g90 g91 h5 => ?_
      obtain ⟨fb_, ha_, H_, hS_⟩ := h5
      clear hI_ h0 h1 h2 h3 h4
      refine op_WL hi_ ha_ ?_
      refine sg 1 [] e1 [(20, v20), (21, v21), (22, v22), (23, v23), (24, v24), (25, v25), (26, v26), (27, v27), (28, v28), (29, (.pointer (some ⟨g75, 1, none⟩))), (30, v30), (31, v31), (32, v32), (33, v33), (34, v34), (35, v35), (36, v36), (37, v37), (38, v38), (39, v39), (40, v40), (41, v41), (42, v42), (43, v43), (44, v44), (45, v45), (46, v46), (47, v47), (48, v48), (49, v49), (50, v50), (51, v51), (52, v52), (53, v53), (54, v54), (55, v55), (56, v56), (57, v57), (58, v58), (59, v59), (60, v60), (61, v61), (62, v62), (63, v63), (64, v64), (65, v65), (66, v66), (67, v67), (68, v68), (69, v69), (70, v70), (71, v71), (72, v72), (73, v73), (74, v74), e8, e9, e5, e6, e7, (12, (.int .u64 e3)), (13, (.int .u64 0)), (16, (.agg md0)), e4] (by kernel_rfl) ?_
      refine WL.done rfl ?_
      exact fun fb_ a_ ha_ => ⟨v20, v21, v22, v23, v24, v25, v26, v27, v28, (.pointer (some ⟨g75, 1, none⟩)), v30, v31, v32, v33, v34, v35, v36, v37, v38, v39, v40, v41, v42, v43, v44, v45, v46, v47, v48, v49, v50, v51, v52, v53, v54, v55, v56, v57, v58, v59, v60, v61, v62, v63, v64, v65, v66, v67, v68, v69, v70, v71, v72, v73, v74, g87, g88, g89, g90, g91, fb_, ha_, (H_.upd 9 (.pointer (some ⟨g75, 1, none⟩)) rfl), hS_⟩
     ·intro d_ a_ w_ hd_ hj_ hc_ hI_
      have hi_ : 10 < 55 := by decide
      refine ex10 hI_ fun v20 v21 v22 v23 v24 v25 v26 v27 v28 v29 h0 => ex10 h0 fun v30 v31 v32 v33 v34 v35 v36 v37 v38 v39 h1 => ex10 h1 fun v40 v41 v42 v43 v44 v45 v46 v47 v48 v49 h2 => ex10 h2 fun v50 v51 v52 v53 v54 v55 v56 v57 v58 v59 h3 => ex10 h3 fun v60 v61 v62 v63 v64 v65 v66 v67 v68 v69 h4 => ex10 h4 fun v70 v71 v72 v73 v74 g87 g88 g89 g90 g91 h5 => ?_
      obtain ⟨fb_, ha_, H_, hS_⟩ := h5
      clear hI_ h0 h1 h2 h3 h4
      obtain rfl : v29 = (.pointer (some ⟨g75, 1, none⟩)) := H_ 9 _ rfl (hj_ 9 (memN_iff.1 (by kernel_rfl)))
      refine op_WL hi_ ha_ ?_
      refine seg 1 [.v e19] e1 [(20, v20), (21, v21), (22, v22), (23, v23), (24, v24), (25, v25), (26, v26), (27, v27), (28, v28), (29, (.pointer (some ⟨g75, 1, none⟩))), (30, e19), (31, v31), (32, v32), (33, v33), (34, v34), (35, v35), (36, v36), (37, v37), (38, v38), (39, v39), (40, v40), (41, v41), (42, v42), (43, v43), (44, v44), (45, v45), (46, v46), (47, v47), (48, v48), (49, v49), (50, v50), (51, v51), (52, v52), (53, v53), (54, v54), (55, v55), (56, v56), (57, v57), (58, v58), (59, v59), (60, v60), (61, v61), (62, v62), (63, v63), (64, v64), (65, v65), (66, v66), (67, v67), (68, v68), (69, v69), (70, v70), (71, v71), (72, v72), (73, v73), (74, v74), e8, e9, e5, e6, e7, (12, (.int .u64 e3)), (13, (.int .u64 0)), (16, (.agg md0)), e4] [.cell ⟨g75, 1, none⟩ e19] (fun fb => by kernel_rfl) rfl ⟨hS_.cell 9 rfl 1 rfl, trivial⟩ ?_
      refine WL.done rfl ?_
      exact fun fb_ a_ ha_ => ⟨v20, v21, v22, v23, v24, v25, v26, v27, v28, (.pointer (some ⟨g75, 1, none⟩)), e19, v31, v32, v33, v34, v35, v36, v37, v38, v39, v40, v41, v42, v43, v44, v45, v46, v47, v48, v49, v50, v51, v52, v53, v54, v55, v56, v57, v58, v59, v60, v61, v62, v63, v64, v65, v66, v67, v68, v69, v70, v71, v72, v73, v74, g87, g88, g89, g90, g91, fb_, ha_, (H_.upd 10 e19 rfl), hS_⟩
     ·intro d_ a_ w_ hd_ hj_ hc_ hI_
      have hi_ : 11 < 55 := by decide
      refine ex10 hI_ fun v20 v21 v22 v23 v24 v25 v26 v27 v28 v29 h0 => ex10 h0 fun v30 v31 v32 v33 v34 v35 v36 v37 v38 v39 h1 => ex10 h1 fun v40 v41 v42 v43 v44 v45 v46 v47 v48 v49 h2 => ex10 h2 fun v50 v51 v52 v53 v54 v55 v56 v57 v58 v59 h3 => ex10 h3 fun v60 v61 v62 v63 v64 v65 v66 v67 v68 v69 h4 => ex10 h4 fun v70 v71 v72 v73 v74 g87 g88 g89 g90 g91 h5 => ?_
      obtain ⟨fb_, ha_, H_, hS_⟩ := h5
      clear hI_ h0 h1 h2 h3 h4
      obtain rfl : v22 = e21 := H_ 2 _ rfl (hj_ 2 (memN_iff.1 (by kernel_rfl)))
      obtain rfl : v24 = e22 := H_ 4 _ rfl (hj_ 4 (memN_iff.1 (by kernel_rfl)))
      obtain rfl : v26 = e17 := H_ 6 _ rfl (hj_ 6 (memN_iff.1 (by kernel_rfl)))
      obtain rfl : v28 = e18 := H_ 8 _ rfl (hj_ 8 (memN_iff.1 (by kernel_rfl)))
      obtain rfl : v30 = e19 := H_ 10 _ rfl (hj_ 10 (memN_iff.1 (by kernel_rfl)))
      refine op_WL hi_ ha_ ?_
      refine WL.new hS_ 31 [] (fun g => (.slice (some ⟨g, 0, none⟩) 5 5)) (.cells #[e21, e22, e17, e18, e19] 3 (0, 0)) [] (fun fb g => by kernel_rfl) trivial (fun g92 w93 hS94 => ?_)
      refine ⟨trivial, ?_⟩
      have hS95 := hS.go w93 [rowO 3 encInt (some ⟨g92, 0, none⟩) 5 e10, sO (d_ 11) (rowO 3 encInt (some ⟨g87, 0, none⟩) 5 e10), sO (d_ 24) (rowO 3 encInt (some ⟨g88, 0, none⟩) 5 e11), sO (d_ 37) (rowO 3 encInt (some ⟨g89, 0, none⟩) 5 e12), sO (d_ 50) (rowO 3 encInt (some ⟨g90, 0, none⟩) 5 e13), sO (d_ 52) (rowO 87 encU64 (some ⟨g91, 0, none⟩) 4 e20), blk g6 (.cells e30 33 (0, 0)), blk g9 (.cells e31 33 (0, 0)), blk g14 (.cells e32 33 (0, 0)), blk g17 (.cells e33 33 (0, 0)), blk g75 (.cells e34 33 (0, 0))] (hS94.map1 0 _ (fun h => rowO.ofBlk h rfl (Nat.le_of_ble_eq_true (by kernel_rfl))) (fun _ h => by obtain ⟨_, h1, h2⟩ := h; injection h1 with h1; subst h1; exact h2) e27 (by decide) (by decide))
      refine WL.reE e1 [(20, v20), (21, v21), (22, e21), (23, v23), (24, e22), (25, v25), (26, e17), (27, v27), (28, e18), (29, v29), (30, e19), (31, (.slice (some ⟨g92, 0, none⟩) e10.length 5)), (32, v32), (33, v33), (34, v34), (35, v35), (36, v36), (37, v37), (38, v38), (39, v39), (40, v40), (41, v41), (42, v42), (43, v43), (44, v44), (45, v45), (46, v46), (47, v47), (48, v48), (49, v49), (50, v50), (51, v51), (52, v52), (53, v53), (54, v54), (55, v55), (56, v56), (57, v57), (58, v58), (59, v59), (60, v60), (61, v61), (62, v62), (63, v63), (64, v64), (65, v65), (66, v66), (67, v67), (68, v68), (69, v69), (70, v70), (71, v71), (72, v72), (73, v73), (74, v74), e8, e9, e5, e6, e7, (12, (.int .u64 e3)), (13, (.int .u64 0)), (16, (.agg md0)), e4] [(20, v20), (21, v21), (22, e21), (23, v23), (24, e22), (25, v25), (26, e17), (27, v27), (28, e18), (29, v29), (30, e19), (31, (.slice (some ⟨g92, 0, none⟩) e10.length 5)), (32, v32), (33, v33), (34, v34), (35, v35), (36, v36), (37, v37), (38, v38), (39, v39), (40, v40), (41, v41), (42, v42), (43, v43), (44, v44), (45, v45), (46, v46), (47, v47), (48, v48), (49, v49), (50, v50), (51, v51), (52, v52), (53, v53), (54, v54), (55, v55), (56, v56), (57, v57), (58, v58), (59, v59), (60, v60), (61, v61), (62, v62), (63, v63), (64, v64), (65, v65), (66, v66), (67, v67), (68, v68), (69, v69), (70, v70), (71, v71), (72, v72), (73, v73), (74, v74), e8, e9, e5, e6, e7, (12, (.int .u64 e3)), (13, (.int .u64 0)), (16, (.agg md0)), e4] rfl rfl ?_
      refine WL.done rfl ?_
      exact fun fb_ a_ ha_ => ⟨v20, v21, e21, v23, e22, v25, e17, v27, e18, v29, e19, (sv (some ⟨g92, 0, none⟩) e10 5), v32, v33, v34, v35, v36, v37, v38, v39, v40, v41, v42, v43, v44, v45, v46, v47, v48, v49, v50, v51, v52, v53, v54, v55, v56, v57, v58, v59, v60, v61, v62, v63, v64, v65, v66, v67, v68, v69, v70, v71, v72, v73, v74, g92, g88, g89, g90, g91, fb_, ha_, (H_.upd 11 (sv (some ⟨g92, 0, none⟩) e10 5) rfl), (hS95.sub [0, 2, 3, 4, 5, 6, 7, 8, 9, 10] (by decide))⟩
     ·intro d_ a_ w_ hd_ hj_ hc_ hI_
      have hi_ : 12 < 55 := by decide
      refine ex10 hI_ fun v20 v21 v22 v23 v24 v25 v26 v27 v28 v29 h0 => ex10 h0 fun v30 v31 v32 v33 v34 v35 v36 v37 v38 v39 h1 => ex10 h1 fun v40 v41 v42 v43 v44 v45 v46 v47 v48 v49 h2 => ex10 h2 fun v50 v51 v52 v53 v54 v55 v56 v57 v58 v59 h3 => ex10 h3 fun v60 v61 v62 v63 v64 v65 v66 v67 v68 v69 h4 => ex10 h4 fun v70 v71 v72 v73 v74 g87 g88 g89 g90 g91 h5 => ?_
      obtain ⟨fb_, ha_, H_, hS_⟩ := h5
      clear hI_ h0 h1 h2 h3 h4
      obtain rfl : v20 = (.int .u64 e3) := H_ 0 _ rfl (hj_ 0 (memN_iff.1 (by kernel_rfl)))
      obtain rfl : v31 = (sv (some ⟨g87, 0, none⟩) e10 5) := H_ 11 _ rfl (hj_ 11 (memN_iff.1 (by kernel_rfl)))
      have e11_ : d_ 11 = true := hj_ 11 (memN_iff.1 (by kernel_rfl))
      rw [e11_] at hS_
      refine op_WL hi_ ha_ ?_
      refine WL.call (some 32) 63 #[(.int .u64 e3), (iv 1), (sv (some ⟨g87, 0, none⟩) e10 5)] (fun fb => by kernel_rfl) (weight_product_calls _ e3 1 e10 (some ⟨g87, 0, none⟩) 5 t96 _ (hS_.ow 0).ofO ht97) (fun v w98 hR99 => ?_)
      obtain ⟨rfl, hk_⟩ := hR99
      have hS100 := hS_.keepN hk_
      refine ⟨trivial, ?_⟩
      refine WL.reE e1 [(20, (.int .u64 e3)), (21, v21), (22, v22), (23, v23), (24, v24), (25, v25), (26, v26), (27, v27), (28, v28), (29, v29), (30, v30), (31, (.slice (some ⟨g87, 0, none⟩) e10.length 5)), (32, (.int .u64 t96)), (33, v33), (34, v34), (35, v35), (36, v36), (37, v37), (38, v38), (39, v39), (40, v40), (41, v41), (42, v42), (43, v43), (44, v44), (45, v45), (46, v46), (47, v47), (48, v48), (49, v49), (50, v50), (51, v51), (52, v52), (53, v53), (54, v54), (55, v55), (56, v56), (57, v57), (58, v58), (59, v59), (60, v60), (61, v61), (62, v62), (63, v63), (64, v64), (65, v65), (66, v66), (67, v67), (68, v68), (69, v69), (70, v70), (71, v71), (72, v72), (73, v73), (74, v74), e8, e9, e5, e6, e7, (12, (.int .u64 e3)), (13, (.int .u64 0)), (16, (.agg md0)), e4] [(20, (.int .u64 e3)), (21, v21), (22, v22), (23, v23), (24, v24), (25, v25), (26, v26), (27, v27), (28, v28), (29, v29), (30, v30), (31, (.slice (some ⟨g87, 0, none⟩) e10.length 5)), (32, (.int .u64 t96)), (33, v33), (34, v34), (35, v35), (36, v36), (37, v37), (38, v38), (39, v39), (40, v40), (41, v41), (42, v42), (43, v43), (44, v44), (45, v45), (46, v46), (47, v47), (48, v48), (49, v49), (50, v50), (51, v51), (52, v52), (53, v53), (54, v54), (55, v55), (56, v56), (57, v57), (58, v58), (59, v59), (60, v60), (61, v61), (62, v62), (63, v63), (64, v64), (65, v65), (66, v66), (67, v67), (68, v68), (69, v69), (70, v70), (71, v71), (72, v72), (73, v73), (74, v74), e8, e9, e5, e6, e7, (12, (.int .u64 e3)), (13, (.int .u64 0)), (16, (.agg md0)), e4] rfl rfl ?_
      refine WL.done rfl ?_
      exact fun fb_ a_ ha_ => ⟨(.int .u64 (getI [2305843009213693951, 2305843009213693921, 2305843009213693907] x78)), v21, v22, v23, v24, v25, v26, v27, v28, v29, v30, (.slice (some ⟨g87, 0, none⟩) [p0.Num, p1.Num, p2.Den, p3.Den, p4.Den].length 5), (.int .u64 t96), v33, v34, v35, v36, v37, v38, v39, v40, v41, v42, v43, v44, v45, v46, v47, v48, v49, v50, v51, v52, v53, v54, v55, v56, v57, v58, v59, v60, v61, v62, v63, v64, v65, v66, v67, v68, v69, v70, v71, v72, v73, v74, g87, g88, g89, g90, g91, fb_, ha_, (H_.upd 12 (.int .u64 t96) rfl), (by rw [show upd d_ 12 11 = true from e11_]; exact hS100)⟩
     ·intro d_ a_ w_ hd_ hj_ hc_ hI_
      have hi_ : 13 < 55 := by decide
      refine ex10 hI_ fun v20 v21 v22 v23 v24 v25 v26 v27 v28 v29 h0 => ex10 h0 fun v30 v31 v32 v33 v34 v35 v36 v37 v38 v39 h1 => ex10 h1 fun v40 v41 v42 v43 v44 v45 v46 v47 v48 v49 h2 => ex10 h2 fun v50 v51 v52 v53 v54 v55 v56 v57 v58 v59 h3 => ex10 h3 fun v60 v61 v62 v63 v64 v65 v66 v67 v68 v69 h4 => ex10 h4 fun v70 v71 v72 v73 v74 g87 g88 g89 g90 g91 h5 => ?_
      obtain ⟨fb_, ha_, H_, hS_⟩ := h5
      clear hI_ h0 h1 h2 h3 h4
      refine op_WL hi_ ha_ ?_
      refine sg 1 [] e1 [(20, v20), (21, v21), (22, v22), (23, v23), (24, v24), (25, v25), (26, v26), (27, v27), (28, v28), (29, v29), (30, v30), (31, v31), (32, v32), (33, (.int .u64 e3)), (34, v34), (35, v35), (36, v36), (37, v37), (38, v38), (39, v39), (40, v40), (41, v41), (42, v42), (43, v43), (44, v44), (45, v45), (46, v46), (47, v47), (48, v48), (49, v49), (50, v50), (51, v51), (52, v52), (53, v53), (54, v54), (55, v55), (56, v56), (57, v57), (58, v58), (59, v59), (60, v60), (61, v61), (62, v62), (63, v63), (64, v64), (65, v65), (66, v66), (67, v67), (68, v68), (69, v69), (70, v70), (71, v71), (72, v72), (73, v73), (74, v74), e8, e9, e5, e6, e7, (12, (.int .u64 e3)), (13, (.int .u64 0)), (16, (.agg md0)), e4] (by kernel_rfl) ?_
      refine WL.done rfl ?_
      exact fun fb_ a_ ha_ => ⟨v20, v21, v22, v23, v24, v25, v26, v27, v28, v29, v30, v31, v32, (.int .u64 e3), v34, v35, v36, v37, v38, v39, v40, v41, v42, v43, v44, v45, v46, v47, v48, v49, v50, v51, v52, v53, v54, v55, v56, v57, v58, v59, v60, v61, v62, v63, v64, v65, v66, v67, v68, v69, v70, v71, v72, v73, v74, g87, g88, g89, g90, g91, fb_, ha_, (H_.upd 13 (.int .u64 e3) rfl), hS_⟩
     ·intro d_ a_ w_ hd_ hj_ hc_ hI_
      have hi_ : 14 < 55 := by decide
      refine ex10 hI_ fun v20 v21 v22 v23 v24 v25 v26 v27 v28 v29 h0 => ex10 h0 fun v30 v31 v32 v33 v34 v35 v36 v37 v38 v39 h1 => ex10 h1 fun v40 v41 v42 v43 v44 v45 v46 v47 v48 v49 h2 => ex10 h2 fun v50 v51 v52 v53 v54 v55 v56 v57 v58 v59 h3 => ex10 h3 fun v60 v61 v62 v63 v64 v65 v66 v67 v68 v69 h4 => ex10 h4 fun v70 v71 v72 v73 v74 g87 g88 g89 g90 g91 h5 => ?_
      obtain ⟨fb_, ha_, H_, hS_⟩ := h5
      clear hI_ h0 h1 h2 h3 h4
      refine op_WL hi_ ha_ ?_
      refine sg 1 [] e1 [(20, v20), (21, v21), (22, v22), (23, v23), (24, v24), (25, v25), (26, v26), (27, v27), (28, v28), (29, v29), (30, v30), (31, v31), (32, v32), (33, v33), (34, (pt g14)), (35, v35), (36, v36), (37, v37), (38, v38), (39, v39), (40, v40), (41, v41), (42, v42), (43, v43), (44, v44), (45, v45), (46, v46), (47, v47), (48, v48), (49, v49), (50, v50), (51, v51), (52, v52), (53, v53), (54, v54), (55, v55), (56, v56), (57, v57), (58, v58), (59, v59), (60, v60), (61, v61), (62, v62), (63, v63), (64, v64), (65, v65), (66, v66), (67, v67), (68, v68), (69, v69), (70, v70), (71, v71), (72, v72), (73, v73), (74, v74), e8, e9, e5, e6, e7, (12, (.int .u64 e3)), (13, (.int .u64 0)), (16, (.agg md0)), e4] (by kernel_rfl) ?_
      refine WL.done rfl ?_
      exact fun fb_ a_ ha_ => ⟨v20, v21, v22, v23, v24, v25, v26, v27, v28, v29, v30, v31, v32, v33, (pt g14), v35, v36, v37, v38, v39, v40, v41, v42, v43, v44, v45, v46, v47, v48, v49, v50, v51, v52, v53, v54, v55, v56, v57, v58, v59, v60, v61, v62, v63, v64, v65, v66, v67, v68, v69, v70, v71, v72, v73, v74, g87, g88, g89, g90, g91, fb_, ha_, (H_.upd 14 (pt g14) rfl), hS_⟩
     ·intro d_ a_ w_ hd_ hj_ hc_ hI_
      have hi_ : 15 < 55 := by decide
      refine ex10 hI_ fun v20 v21 v22 v23 v24 v25 v26 v27 v28 v29 h0 => ex10 h0 fun v30 v31 v32 v33 v34 v35 v36 v37 v38 v39 h1 => ex10 h1 fun v40 v41 v42 v43 v44 v45 v46 v47 v48 v49 h2 => ex10 h2 fun v50 v51 v52 v53 v54 v55 v56 v57 v58 v59 h3 => ex10 h3 fun v60 v61 v62 v63 v64 v65 v66 v67 v68 v69 h4 => ex10 h4 fun v70 v71 v72 v73 v74 g87 g88 g89 g90 g91 h5 => ?_
      obtain ⟨fb_, ha_, H_, hS_⟩ := h5
      clear hI_ h0 h1 h2 h3 h4
      obtain rfl : v34 = (pt g14) := H_ 14 _ rfl (hj_ 14 (memN_iff.1 (by kernel_rfl)))
      refine op_WL hi_ ha_ ?_
      refine seg 1 [.v e23] e1 [(20, v20), (21, v21), (22, v22), (23, v23), (24, v24), (25, v25), (26, v26), (27, v27), (28, v28), (29, v29), (30, v30), (31, v31), (32, v32), (33, v33), (34, (pt g14)), (35, e23), (36, v36), (37, v37), (38, v38), (39, v39), (40, v40), (41, v41), (42, v42), (43, v43), (44, v44), (45, v45), (46, v46), (47, v47), (48, v48), (49, v49), (50, v50), (51, v51), (52, v52), (53, v53), (54, v54), (55, v55), (56, v56), (57, v57), (58, v58), (59, v59), (60, v60), (61, v61), (62, v62), (63, v63), (64, v64), (65, v65), (66, v66), (67, v67), (68, v68), (69, v69), (70, v70), (71, v71), (72, v72), (73, v73), (74, v74), e8, e9, e5, e6, e7, (12, (.int .u64 e3)), (13, (.int .u64 0)), (16, (.agg md0)), e4] [.cell ⟨g14, 0, none⟩ e23] (fun fb => by kernel_rfl) rfl ⟨hS_.cell 7 rfl 0 rfl, trivial⟩ ?_
      refine WL.done rfl ?_
      exact fun fb_ a_ ha_ => ⟨v20, v21, v22, v23, v24, v25, v26, v27, v28, v29, v30, v31, v32, v33, (pt g14), e23, v36, v37, v38, v39, v40, v41, v42, v43, v44, v45, v46, v47, v48, v49, v50, v51, v52, v53, v54, v55, v56, v57, v58, v59, v60, v61, v62, v63, v64, v65, v66, v67, v68, v69, v70, v71, v72, v73, v74, g87, g88, g89, g90, g91, fb_, ha_, (H_.upd 15 e23 rfl), hS_⟩
     ·intro d_ a_ w_ hd_ hj_ hc_ hI_
      have hi_ : 16 < 55 := by decide
      refine ex10 hI_ fun v20 v21 v22 v23 v24 v25 v26 v27 v28 v29 h0 => ex10 h0 fun v30 v31 v32 v33 v34 v35 v36 v37 v38 v39 h1 => ex10 h1 fun v40 v41 v42 v43 v44 v45 v46 v47 v48 v49 h2 => ex10 h2 fun v50 v51 v52 v53 v54 v55 v56 v57 v58 v59 h3 => ex10 h3 fun v60 v61 v62 v63 v64 v65 v66 v67 v68 v69 h4 => ex10 h4 fun v70 v71 v72 v73 v74 g87 g88 g89 g90 g91 h5 => ?_
      obtain ⟨fb_, ha_, H_, hS_⟩ := h5
      clear hI_ h0 h1 h2 h3 h4
      refine op_WL hi_ ha_ ?_
      refine sg 1 [] e1 [(20, v20), (21, v21), (22, v22), (23, v23), (24, v24), (25, v25), (26, v26), (27, v27), (28, v28), (29, v29), (30, v30), (31, v31), (32, v32), (33, v33), (34, v34), (35, v35), (36, (.pointer (some ⟨g6, 1, none⟩))), (37, v37), (38, v38), (39, v39), (40, v40), (41, v41), (42, v42), (43, v43), (44, v44), (45, v45), (46, v46), (47, v47), (48, v48), (49, v49), (50, v50), (51, v51), (52, v52), (53, v53), (54, v54), (55, v55), (56, v56), (57, v57), (58, v58), (59, v59), (60, v60), (61, v61), (62, v62), (63, v63), (64, v64), (65, v65), (66, v66), (67, v67), (68, v68), (69, v69), (70, v70), (71, v71), (72, v72), (73, v73), (74, v74), e8, e9, e5, e6, e7, (12, (.int .u64 e3)), (13, (.int .u64 0)), (16, (.agg md0)), e4] (by kernel_rfl) ?_
      refine WL.done rfl ?_
      exact fun fb_ a_ ha_ => ⟨v20, v21, v22, v23, v24, v25, v26, v27, v28, v29, v30, v31, v32, v33, v34, v35, (.pointer (some ⟨g6, 1, none⟩)), v37, v38, v39, v40, v41, v42, v43, v44, v45, v46, v47, v48, v49, v50, v51, v52, v53, v54, v55, v56, v57, v58, v59, v60, v61, v62, v63, v64, v65, v66, v67, v68, v69, v70, v71, v72, v73, v74, g87, g88, g89, g90, g91, fb_, ha_, (H_.upd 16 (.pointer (some ⟨g6, 1, none⟩)) rfl), hS_⟩
     ·intro d_ a_ w_ hd_ hj_ hc_ hI_
      have hi_ : 17 < 55 := by decide
      refine ex10 hI_ fun v20 v21 v22 v23 v24 v25 v26 v27 v28 v29 h0 => ex10 h0 fun v30 v31 v32 v33 v34 v35 v36 v37 v38 v39 h1 => ex10 h1 fun v40 v41 v42 v43 v44 v45 v46 v47 v48 v49 h2 => ex10 h2 fun v50 v51 v52 v53 v54 v55 v56 v57 v58 v59 h3 => ex10 h3 fun v60 v61 v62 v63 v64 v65 v66 v67 v68 v69 h4 => ex10 h4 fun v70 v71 v72 v73 v74 g87 g88 g89 g90 g91 h5 => ?_
      obtain ⟨fb_, ha_, H_, hS_⟩ := h5
      clear hI_ h0 h1 h2 h3 h4
      obtain rfl : v36 = (.pointer (some ⟨g6, 1, none⟩)) := H_ 16 _ rfl (hj_ 16 (memN_iff.1 (by kernel_rfl)))
      refine op_WL hi_ ha_ ?_
      refine seg 1 [.v e15] e1 [(20, v20), (21, v21), (22, v22), (23, v23), (24, v24), (25, v25), (26, v26), (27, v27), (28, v28), (29, v29), (30, v30), (31, v31), (32, v32), (33, v33), (34, v34), (35, v35), (36, (.pointer (some ⟨g6, 1, none⟩))), (37, e15), (38, v38), (39, v39), (40, v40), (41, v41), (42, v42), (43, v43), (44, v44), (45, v45), (46, v46), (47, v47), (48, v48), (49, v49), (50, v50), (51, v51), (52, v52), (53, v53), (54, v54), (55, v55), (56, v56), (57, v57), (58, v58), (59, v59), (60, v60), (61, v61), (62, v62), (63, v63), (64, v64), (65, v65), (66, v66), (67, v67), (68, v68), (69, v69), (70, v70), (71, v71), (72, v72), (73, v73), (74, v74), e8, e9, e5, e6, e7, (12, (.int .u64 e3)), (13, (.int .u64 0)), (16, (.agg md0)), e4] [.cell ⟨g6, 1, none⟩ e15] (fun fb => by kernel_rfl) rfl ⟨hS_.cell 5 rfl 1 rfl, trivial⟩ ?_
      refine WL.done rfl ?_
      exact fun fb_ a_ ha_ => ⟨v20, v21, v22, v23, v24, v25, v26, v27, v28, v29, v30, v31, v32, v33, v34, v35, (.pointer (some ⟨g6, 1, none⟩)), e15, v38, v39, v40, v41, v42, v43, v44, v45, v46, v47, v48, v49, v50, v51, v52, v53, v54, v55, v56, v57, v58, v59, v60, v61, v62, v63, v64, v65, v66, v67, v68, v69, v70, v71, v72, v73, v74, g87, g88, g89, g90, g91, fb_, ha_, (H_.upd 17 e15 rfl), hS_⟩
     ·intro d_ a_ w_ hd_ hj_ hc_ hI_
      have hi_ : 18 < 55 := by decide
      refine ex10 hI_ fun v20 v21 v22 v23 v24 v25 v26 v27 v28 v29 h0 => ex10 h0 fun v30 v31 v32 v33 v34 v35 v36 v37 v38 v39 h1 => ex10 h1 fun v40 v41 v42 v43 v44 v45 v46 v47 v48 v49 h2 => ex10 h2 fun v50 v51 v52 v53 v54 v55 v56 v57 v58 v59 h3 => ex10 h3 fun v60 v61 v62 v63 v64 v65 v66 v67 v68 v69 h4 => ex10 h4 fun v70 v71 v72 v73 v74 g87 g88 g89 g90 g91 h5 => ?_
      obtain ⟨fb_, ha_, H_, hS_⟩ := h5
      clear hI_ h0 h1 h2 h3 h4
      refine op_WL hi_ ha_ ?_
      refine sg 1 [] e1 [(20, v20), (21, v21), (22, v22), (23, v23), (24, v24), (25, v25), (26, v26), (27, v27), (28, v28), (29, v29), (30, v30), (31, v31), (32, v32), (33, v33), (34, v34), (35, v35), (36, v36), (37, v37), (38, (.pointer (some ⟨g9, 1, none⟩))), (39, v39), (40, v40), (41, v41), (42, v42), (43, v43), (44, v44), (45, v45), (46, v46), (47, v47), (48, v48), (49, v49), (50, v50), (51, v51), (52, v52), (53, v53), (54, v54), (55, v55), (56, v56), (57, v57), (58, v58), (59, v59), (60, v60), (61, v61), (62, v62), (63, v63), (64, v64), (65, v65), (66, v66), (67, v67), (68, v68), (69, v69), (70, v70), (71, v71), (72, v72), (73, v73), (74, v74), e8, e9, e5, e6, e7, (12, (.int .u64 e3)), (13, (.int .u64 0)), (16, (.agg md0)), e4] (by kernel_rfl) ?_
      refine WL.done rfl ?_
      exact fun fb_ a_ ha_ => ⟨v20, v21, v22, v23, v24, v25, v26, v27, v28, v29, v30, v31, v32, v33, v34, v35, v36, v37, (.pointer (some ⟨g9, 1, none⟩)), v39, v40, v41, v42, v43, v44, v45, v46, v47, v48, v49, v50, v51, v52, v53, v54, v55, v56, v57, v58, v59, v60, v61, v62, v63, v64, v65, v66, v67, v68, v69, v70, v71, v72, v73, v74, g87, g88, g89, g90, g91, fb_, ha_, (H_.upd 18 (.pointer (some ⟨g9, 1, none⟩)) rfl), hS_⟩
     ·intro d_ a_ w_ hd_ hj_ hc_ hI_
      have hi_ : 19 < 55 := by decide
      refine ex10 hI_ fun v20 v21 v22 v23 v24 v25 v26 v27 v28 v29 h0 => ex10 h0 fun v30 v31 v32 v33 v34 v35 v36 v37 v38 v39 h1 => ex10 h1 fun v40 v41 v42 v43 v44 v45 v46 v47 v48 v49 h2 => ex10 h2 fun v50 v51 v52 v53 v54 v55 v56 v57 v58 v59 h3 => ex10 h3 fun v60 v61 v62 v63 v64 v65 v66 v67 v68 v69 h4 => ex10 h4 fun v70 v71 v72 v73 v74 g87 g88 g89 g90 g91 h5 => ?_
      obtain ⟨fb_, ha_, H_, hS_⟩ := h5
      clear hI_ h0 h1 h2 h3 h4
      obtain rfl : v38 = (.pointer (some ⟨g9, 1, none⟩)) := H_ 18 _ rfl (hj_ 18 (memN_iff.1 (by kernel_rfl)))
      refine op_WL hi_ ha_ ?_
      refine seg 1 [.v e16] e1 [(20, v20), (21, v21), (22, v22), (23, v23), (24, v24), (25, v25), (26, v26), (27, v27), (28, v28), (29, v29), (30, v30), (31, v31), (32, v32), (33, v33), (34, v34), (35, v35), (36, v36), (37, v37), (38, (.pointer (some ⟨g9, 1, none⟩))), (39, e16), (40, v40), (41, v41), (42, v42), (43, v43), (44, v44), (45, v45), (46, v46), (47, v47), (48, v48), (49, v49), (50, v50), (51, v51), (52, v52), (53, v53), (54, v54), (55, v55), (56, v56), (57, v57), (58, v58), (59, v59), (60, v60), (61, v61), (62, v62), (63, v63), (64, v64), (65, v65), (66, v66), (67, v67), (68, v68), (69, v69), (70, v70), (71, v71), (72, v72), (73, v73), (74, v74), e8, e9, e5, e6, e7, (12, (.int .u64 e3)), (13, (.int .u64 0)), (16, (.agg md0)), e4] [.cell ⟨g9, 1, none⟩ e16] (fun fb => by kernel_rfl) rfl ⟨hS_.cell 6 rfl 1 rfl, trivial⟩ ?_
      refine WL.done rfl ?_
      exact fun fb_ a_ ha_ => ⟨v20, v21, v22, v23, v24, v25, v26, v27, v28, v29, v30, v31, v32, v33, v34, v35, v36, v37, (.pointer (some ⟨g9, 1, none⟩)), e16, v40, v41, v42, v43, v44, v45, v46, v47, v48, v49, v50, v51, v52, v53, v54, v55, v56, v57, v58, v59, v60, v61, v62, v63, v64, v65, v66, v67, v68, v69, v70, v71, v72, v73, v74, g87, g88, g89, g90, g91, fb_, ha_, (H_.upd 19 e16 rfl), hS_⟩
     ·intro d_ a_ w_ hd_ hj_ hc_ hI_
      have hi_ : 20 < 55 := by decide
      refine ex10 hI_ fun v20 v21 v22 v23 v24 v25 v26 v27 v28 v29 h0 => ex10 h0 fun v30 v31 v32 v33 v34 v35 v36 v37 v38 v39 h1 => ex10 h1 fun v40 v41 v42 v43 v44 v45 v46 v47 v48 v49 h2 => ex10 h2 fun v50 v51 v52 v53 v54 v55 v56 v57 v58 v59 h3 => ex10 h3 fun v60 v61 v62 v63 v64 v65 v66 v67 v68 v69 h4 => ex10 h4 fun v70 v71 v72 v73 v74 g87 g88 g89 g90 g91 h5 => ?_
      obtain ⟨fb_, ha_, H_, hS_⟩ := h5
      clear hI_ h0 h1 h2 h3 h4
      refine op_WL hi_ ha_ ?_
      refine sg 1 [] e1 [(20, v20), (21, v21), (22, v22), (23, v23), (24, v24), (25, v25), (26, v26), (27, v27), (28, v28), (29, v29), (30, v30), (31, v31), (32, v32), (33, v33), (34, v34), (35, v35), (36, v36), (37, v37), (38, v38), (39, v39), (40, (.pointer (some ⟨g17, 1, none⟩))), (41, v41), (42, v42), (43, v43), (44, v44), (45, v45), (46, v46), (47, v47), (48, v48), (49, v49), (50, v50), (51, v51), (52, v52), (53, v53), (54, v54), (55, v55), (56, v56), (57, v57), (58, v58), (59, v59), (60, v60), (61, v61), (62, v62), (63, v63), (64, v64), (65, v65), (66, v66), (67, v67), (68, v68), (69, v69), (70, v70), (71, v71), (72, v72), (73, v73), (74, v74), e8, e9, e5, e6, e7, (12, (.int .u64 e3)), (13, (.int .u64 0)), (16, (.agg md0)), e4] (by kernel_rfl) ?_
      refine WL.done rfl ?_
      exact fun fb_ a_ ha_ => ⟨v20, v21, v22, v23, v24, v25, v26, v27, v28, v29, v30, v31, v32, v33, v34, v35, v36, v37, v38, v39, (.pointer (some ⟨g17, 1, none⟩)), v41, v42, v43, v44, v45, v46, v47, v48, v49, v50, v51, v52, v53, v54, v55, v56, v57, v58, v59, v60, v61, v62, v63, v64, v65, v66, v67, v68, v69, v70, v71, v72, v73, v74, g87, g88, g89, g90, g91, fb_, ha_, (H_.upd 20 (.pointer (some ⟨g17, 1, none⟩)) rfl), hS_⟩
     ·intro d_ a_ w_ hd_ hj_ hc_ hI_
      have hi_ : 21 < 55 := by decide
      refine ex10 hI_ fun v20 v21 v22 v23 v24 v25 v26 v27 v28 v29 h0 => ex10 h0 fun v30 v31 v32 v33 v34 v35 v36 v37 v38 v39 h1 => ex10 h1 fun v40 v41 v42 v43 v44 v45 v46 v47 v48 v49 h2 => ex10 h2 fun v50 v51 v52 v53 v54 v55 v56 v57 v58 v59 h3 => ex10 h3 fun v60 v61 v62 v63 v64 v65 v66 v67 v68 v69 h4 => ex10 h4 fun v70 v71 v72 v73 v74 g87 g88 g89 g90 g91 h5 => ?_
      obtain ⟨fb_, ha_, H_, hS_⟩ := h5
      clear hI_ h0 h1 h2 h3 h4
      obtain rfl : v40 = (.pointer (some ⟨g17, 1, none⟩)) := H_ 20 _ rfl (hj_ 20 (memN_iff.1 (by kernel_rfl)))
      refine op_WL hi_ ha_ ?_
      refine seg 1 [.v e18] e1 [(20, v20), (21, v21), (22, v22), (23, v23), (24, v24), (25, v25), (26, v26), (27, v27), (28, v28), (29, v29), (30, v30), (31, v31), (32, v32), (33, v33), (34, v34), (35, v35), (36, v36), (37, v37), (38, v38), (39, v39), (40, (.pointer (some ⟨g17, 1, none⟩))), (41, e18), (42, v42), (43, v43), (44, v44), (45, v45), (46, v46), (47, v47), (48, v48), (49, v49), (50, v50), (51, v51), (52, v52), (53, v53), (54, v54), (55, v55), (56, v56), (57, v57), (58, v58), (59, v59), (60, v60), (61, v61), (62, v62), (63, v63), (64, v64), (65, v65), (66, v66), (67, v67), (68, v68), (69, v69), (70, v70), (71, v71), (72, v72), (73, v73), (74, v74), e8, e9, e5, e6, e7, (12, (.int .u64 e3)), (13, (.int .u64 0)), (16, (.agg md0)), e4] [.cell ⟨g17, 1, none⟩ e18] (fun fb => by kernel_rfl) rfl ⟨hS_.cell 8 rfl 1 rfl, trivial⟩ ?_
      refine WL.done rfl ?_
      exact fun fb_ a_ ha_ => ⟨v20, v21, v22, v23, v24, v25, v26, v27, v28, v29, v30, v31, v32, v33, v34, v35, v36, v37, v38, v39, (.pointer (some ⟨g17, 1, none⟩)), e18, v42, v43, v44, v45, v46, v47, v48, v49, v50, v51, v52, v53, v54, v55, v56, v57, v58, v59, v60, v61, v62, v63, v64, v65, v66, v67, v68, v69, v70, v71, v72, v73, v74, g87, g88, g89, g90, g91, fb_, ha_, (H_.upd 21 e18 rfl), hS_⟩
     ·intro d_ a_ w_ hd_ hj_ hc_ hI_
      have hi_ : 22 < 55 := by decide
      refine ex10 hI_ fun v20 v21 v22 v23 v24 v25 v26 v27 v28 v29 h0 => ex10 h0 fun v30 v31 v32 v33 v34 v35 v36 v37 v38 v39 h1 => ex10 h1 fun v40 v41 v42 v43 v44 v45 v46 v47 v48 v49 h2 => ex10 h2 fun v50 v51 v52 v53 v54 v55 v56 v57 v58 v59 h3 => ex10 h3 fun v60 v61 v62 v63 v64 v65 v66 v67 v68 v69 h4 => ex10 h4 fun v70 v71 v72 v73 v74 g87 g88 g89 g90 g91 h5 => ?_
      obtain ⟨fb_, ha_, H_, hS_⟩ := h5
      clear hI_ h0 h1 h2 h3 h4
      refine op_WL hi_ ha_ ?_
      refine sg 1 [] e1 [(20, v20), (21, v21), (22, v22), (23, v23), (24, v24), (25, v25), (26, v26), (27, v27), (28, v28), (29, v29), (30, v30), (31, v31), (32, v32), (33, v33), (34, v34), (35, v35), (36, v36), (37, v37), (38, v38), (39, v39), (40, v40), (41, v41), (42, (.pointer (some ⟨g75, 1, none⟩))), (43, v43), (44, v44), (45, v45), (46, v46), (47, v47), (48, v48), (49, v49), (50, v50), (51, v51), (52, v52), (53, v53), (54, v54), (55, v55), (56, v56), (57, v57), (58, v58), (59, v59), (60, v60), (61, v61), (62, v62), (63, v63), (64, v64), (65, v65), (66, v66), (67, v67), (68, v68), (69, v69), (70, v70), (71, v71), (72, v72), (73, v73), (74, v74), e8, e9, e5, e6, e7, (12, (.int .u64 e3)), (13, (.int .u64 0)), (16, (.agg md0)), e4] (by kernel_rfl) ?_
      refine WL.done rfl ?_
      exact fun fb_ a_ ha_ => ⟨v20, v21, v22, v23, v24, v25, v26, v27, v28, v29, v30, v31, v32, v33, v34, v35, v36, v37, v38, v39, v40, v41, (.pointer (some ⟨g75, 1, none⟩)), v43, v44, v45, v46, v47, v48, v49, v50, v51, v52, v53, v54, v55, v56, v57, v58, v59, v60, v61, v62, v63, v64, v65, v66, v67, v68, v69, v70, v71, v72, v73, v74, g87, g88, g89, g90, g91, fb_, ha_, (H_.upd 22 (.pointer (some ⟨g75, 1, none⟩)) rfl), hS_⟩
     ·intro d_ a_ w_ hd_ hj_ hc_ hI_
      have hi_ : 23 < 55 := by decide
      refine ex10 hI_ fun v20 v21 v22 v23 v24 v25 v26 v27 v28 v29 h0 => ex10 h0 fun v30 v31 v32 v33 v34 v35 v36 v37 v38 v39 h1 => ex10 h1 fun v40 v41 v42 v43 v44 v45 v46 v47 v48 v49 h2 => ex10 h2 fun v50 v51 v52 v53 v54 v55 v56 v57 v58 v59 h3 => ex10 h3 fun v60 v61 v62 v63 v64 v65 v66 v67 v68 v69 h4 => ex10 h4 fun v70 v71 v72 v73 v74 g87 g88 g89 g90 g91 h5 => ?_
      obtain ⟨fb_, ha_, H_, hS_⟩ := h5
      clear hI_ h0 h1 h2 h3 h4
      obtain rfl : v42 = (.pointer (some ⟨g75, 1, none⟩)) := H_ 22 _ rfl (hj_ 22 (memN_iff.1 (by kernel_rfl)))
      refine op_WL hi_ ha_ ?_
      refine seg 1 [.v e19] e1 [(20, v20), (21, v21), (22, v22), (23, v23), (24, v24), (25, v25), (26, v26), (27, v27), (28, v28), (29, v29), (30, v30), (31, v31), (32, v32), (33, v33), (34, v34), (35, v35), (36, v36), (37, v37), (38, v38), (39, v39), (40, v40), (41, v41), (42, (.pointer (some ⟨g75, 1, none⟩))), (43, e19), (44, v44), (45, v45), (46, v46), (47, v47), (48, v48), (49, v49), (50, v50), (51, v51), (52, v52), (53, v53), (54, v54), (55, v55), (56, v56), (57, v57), (58, v58), (59, v59), (60, v60), (61, v61), (62, v62), (63, v63), (64, v64), (65, v65), (66, v66), (67, v67), (68, v68), (69, v69), (70, v70), (71, v71), (72, v72), (73, v73), (74, v74), e8, e9, e5, e6, e7, (12, (.int .u64 e3)), (13, (.int .u64 0)), (16, (.agg md0)), e4] [.cell ⟨g75, 1, none⟩ e19] (fun fb => by kernel_rfl) rfl ⟨hS_.cell 9 rfl 1 rfl, trivial⟩ ?_
      refine WL.done rfl ?_
      exact fun fb_ a_ ha_ => ⟨v20, v21, v22, v23, v24, v25, v26, v27, v28, v29, v30, v31, v32, v33, v34, v35, v36, v37, v38, v39, v40, v41, (.pointer (some ⟨g75, 1, none⟩)), e19, v44, v45, v46, v47, v48, v49, v50, v51, v52, v53, v54, v55, v56, v57, v58, v59, v60, v61, v62, v63, v64, v65, v66, v67, v68, v69, v70, v71, v72, v73, v74, g87, g88, g89, g90, g91, fb_, ha_, (H_.upd 23 e19 rfl), hS_⟩
     ·intro d_ a_ w_ hd_ hj_ hc_ hI_
      have hi_ : 24 < 55 := by decide
      refine ex10 hI_ fun v20 v21 v22 v23 v24 v25 v26 v27 v28 v29 h0 => ex10 h0 fun v30 v31 v32 v33 v34 v35 v36 v37 v38 v39 h1 => ex10 h1 fun v40 v41 v42 v43 v44 v45 v46 v47 v48 v49 h2 => ex10 h2 fun v50 v51 v52 v53 v54 v55 v56 v57 v58 v59 h3 => ex10 h3 fun v60 v61 v62 v63 v64 v65 v66 v67 v68 v69 h4 => ex10 h4 fun v70 v71 v72 v73 v74 g87 g88 g89 g90 g91 h5 => ?_
      obtain ⟨fb_, ha_, H_, hS_⟩ := h5
      clear hI_ h0 h1 h2 h3 h4
      obtain rfl : v35 = e23 := H_ 15 _ rfl (hj_ 15 (memN_iff.1 (by kernel_rfl)))
      obtain rfl : v37 = e15 := H_ 17 _ rfl (hj_ 17 (memN_iff.1 (by kernel_rfl)))
      obtain rfl : v39 = e16 := H_ 19 _ rfl (hj_ 19 (memN_iff.1 (by kernel_rfl)))
      obtain rfl : v41 = e18 := H_ 21 _ rfl (hj_ 21 (memN_iff.1 (by kernel_rfl)))
      obtain rfl : v43 = e19 := H_ 23 _ rfl (hj_ 23 (memN_iff.1 (by kernel_rfl)))
      refine op_WL hi_ ha_ ?_
      refine WL.new hS_ 44 [] (fun g => (.slice (some ⟨g, 0, none⟩) 5 5)) (.cells #[e23, e15, e16, e18, e19] 3 (0, 0)) [] (fun fb g => by kernel_rfl) trivial (fun g101 w102 hS103 => ?_)
      refine ⟨trivial, ?_⟩
      have hS104 := hS.go w102 [rowO 3 encInt (some ⟨g101, 0, none⟩) 5 e11, sO (d_ 11) (rowO 3 encInt (some ⟨g87, 0, none⟩) 5 e10), sO (d_ 24) (rowO 3 encInt (some ⟨g88, 0, none⟩) 5 e11), sO (d_ 37) (rowO 3 encInt (some ⟨g89, 0, none⟩) 5 e12), sO (d_ 50) (rowO 3 encInt (some ⟨g90, 0, none⟩) 5 e13), sO (d_ 52) (rowO 87 encU64 (some ⟨g91, 0, none⟩) 4 e20), blk g6 (.cells e30 33 (0, 0)), blk g9 (.cells e31 33 (0, 0)), blk g14 (.cells e32 33 (0, 0)), blk g17 (.cells e33 33 (0, 0)), blk g75 (.cells e34 33 (0, 0))] (hS103.map1 0 _ (fun h => rowO.ofBlk h rfl (Nat.le_of_ble_eq_true (by kernel_rfl))) (fun _ h => by obtain ⟨_, h1, h2⟩ := h; injection h1 with h1; subst h1; exact h2) e27 (by decide) (by decide))
      refine WL.reE e1 [(20, v20), (21, v21), (22, v22), (23, v23), (24, v24), (25, v25), (26, v26), (27, v27), (28, v28), (29, v29), (30, v30), (31, v31), (32, v32), (33, v33), (34, v34), (35, e23), (36, v36), (37, e15), (38, v38), (39, e16), (40, v40), (41, e18), (42, v42), (43, e19), (44, (.slice (some ⟨g101, 0, none⟩) e11.length 5)), (45, v45), (46, v46), (47, v47), (48, v48), (49, v49), (50, v50), (51, v51), (52, v52), (53, v53), (54, v54), (55, v55), (56, v56), (57, v57), (58, v58), (59, v59), (60, v60), (61, v61), (62, v62), (63, v63), (64, v64), (65, v65), (66, v66), (67, v67), (68, v68), (69, v69), (70, v70), (71, v71), (72, v72), (73, v73), (74, v74), e8, e9, e5, e6, e7, (12, (.int .u64 e3)), (13, (.int .u64 0)), (16, (.agg md0)), e4] [(20, v20), (21, v21), (22, v22), (23, v23), (24, v24), (25, v25), (26, v26), (27, v27), (28, v28), (29, v29), (30, v30), (31, v31), (32, v32), (33, v33), (34, v34), (35, e23), (36, v36), (37, e15), (38, v38), (39, e16), (40, v40), (41, e18), (42, v42), (43, e19), (44, (.slice (some ⟨g101, 0, none⟩) e11.length 5)), (45, v45), (46, v46), (47, v47), (48, v48), (49, v49), (50, v50), (51, v51), (52, v52), (53, v53), (54, v54), (55, v55), (56, v56), (57, v57), (58, v58), (59, v59), (60, v60), (61, v61), (62, v62), (63, v63), (64, v64), (65, v65), (66, v66), (67, v67), (68, v68), (69, v69), (70, v70), (71, v71), (72, v72), (73, v73), (74, v74), e8, e9, e5, e6, e7, (12, (.int .u64 e3)), (13, (.int .u64 0)), (16, (.agg md0)), e4] rfl rfl ?_
      refine WL.done rfl ?_
      exact fun fb_ a_ ha_ => ⟨v20, v21, v22, v23, v24, v25, v26, v27, v28, v29, v30, v31, v32, v33, v34, e23, v36, e15, v38, e16, v40, e18, v42, e19, (sv (some ⟨g101, 0, none⟩) e11 5), v45, v46, v47, v48, v49, v50, v51, v52, v53, v54, v55, v56, v57, v58, v59, v60, v61, v62, v63, v64, v65, v66, v67, v68, v69, v70, v71, v72, v73, v74, g87, g101, g89, g90, g91, fb_, ha_, (H_.upd 24 (sv (some ⟨g101, 0, none⟩) e11 5) rfl), (hS104.sub [1, 0, 3, 4, 5, 6, 7, 8, 9, 10] (by decide))⟩
     ·intro d_ a_ w_ hd_ hj_ hc_ hI_
      have hi_ : 25 < 55 := by decide
      refine ex10 hI_ fun v20 v21 v22 v23 v24 v25 v26 v27 v28 v29 h0 => ex10 h0 fun v30 v31 v32 v33 v34 v35 v36 v37 v38 v39 h1 => ex10 h1 fun v40 v41 v42 v43 v44 v45 v46 v47 v48 v49 h2 => ex10 h2 fun v50 v51 v52 v53 v54 v55 v56 v57 v58 v59 h3 => ex10 h3 fun v60 v61 v62 v63 v64 v65 v66 v67 v68 v69 h4 => ex10 h4 fun v70 v71 v72 v73 v74 g87 g88 g89 g90 g91 h5 => ?_
      obtain ⟨fb_, ha_, H_, hS_⟩ := h5
      clear hI_ h0 h1 h2 h3 h4
      obtain rfl : v33 = (.int .u64 e3) := H_ 13 _ rfl (hj_ 13 (memN_iff.1 (by kernel_rfl)))
      obtain rfl : v44 = (sv (some ⟨g88, 0, none⟩) e11 5) := H_ 24 _ rfl (hj_ 24 (memN_iff.1 (by kernel_rfl)))
      have e24_ : d_ 24 = true := hj_ 24 (memN_iff.1 (by kernel_rfl))
      rw [e24_] at hS_
      refine op_WL hi_ ha_ ?_
      refine WL.call (some 45) 63 #[(.int .u64 e3), (iv 1), (sv (some ⟨g88, 0, none⟩) e11 5)] (fun fb => by kernel_rfl) (weight_product_calls _ e3 1 e11 (some ⟨g88, 0, none⟩) 5 t105 _ (hS_.ow 1).ofO ht106) (fun v w107 hR108 => ?_)
      obtain ⟨rfl, hk_⟩ := hR108
      have hS109 := hS_.keepN hk_
      refine ⟨trivial, ?_⟩
      refine WL.reE e1 [(20, v20), (21, v21), (22, v22), (23, v23), (24, v24), (25, v25), (26, v26), (27, v27), (28, v28), (29, v29), (30, v30), (31, v31), (32, v32), (33, (.int .u64 e3)), (34, v34), (35, v35), (36, v36), (37, v37), (38, v38), (39, v39), (40, v40), (41, v41), (42, v42), (43, v43), (44, (.slice (some ⟨g88, 0, none⟩) e11.length 5)), (45, (.int .u64 t105)), (46, v46), (47, v47), (48, v48), (49, v49), (50, v50), (51, v51), (52, v52), (53, v53), (54, v54), (55, v55), (56, v56), (57, v57), (58, v58), (59, v59), (60, v60), (61, v61), (62, v62), (63, v63), (64, v64), (65, v65), (66, v66), (67, v67), (68, v68), (69, v69), (70, v70), (71, v71), (72, v72), (73, v73), (74, v74), e8, e9, e5, e6, e7, (12, (.int .u64 e3)), (13, (.int .u64 0)), (16, (.agg md0)), e4] [(20, v20), (21, v21), (22, v22), (23, v23), (24, v24), (25, v25), (26, v26), (27, v27), (28, v28), (29, v29), (30, v30), (31, v31), (32, v32), (33, (.int .u64 e3)), (34, v34), (35, v35), (36, v36), (37, v37), (38, v38), (39, v39), (40, v40), (41, v41), (42, v42), (43, v43), (44, (.slice (some ⟨g88, 0, none⟩) e11.length 5)), (45, (.int .u64 t105)), (46, v46), (47, v47), (48, v48), (49, v49), (50, v50), (51, v51), (52, v52), (53, v53), (54, v54), (55, v55), (56, v56), (57, v57), (58, v58), (59, v59), (60, v60), (61, v61), (62, v62), (63, v63), (64, v64), (65, v65), (66, v66), (67, v67), (68, v68), (69, v69), (70, v70), (71, v71), (72, v72), (73, v73), (74, v74), e8, e9, e5, e6, e7, (12, (.int .u64 e3)), (13, (.int .u64 0)), (16, (.agg md0)), e4] rfl rfl ?_
      refine WL.done rfl ?_
      exact fun fb_ a_ ha_ => ⟨v20, v21, v22, v23, v24, v25, v26, v27, v28, v29, v30, v31, v32, (.int .u64 (getI [2305843009213693951, 2305843009213693921, 2305843009213693907] x78)), v34, v35, v36, v37, v38, v39, v40, v41, v42, v43, (.slice (some ⟨g88, 0, none⟩) [p2.Num, p0.Den, p1.Den, p3.Den, p4.Den].length 5), (.int .u64 t105), v46, v47, v48, v49, v50, v51, v52, v53, v54, v55, v56, v57, v58, v59, v60, v61, v62, v63, v64, v65, v66, v67, v68, v69, v70, v71, v72, v73, v74, g87, g88, g89, g90, g91, fb_, ha_, (H_.upd 25 (.int .u64 t105) rfl), (by rw [show upd d_ 25 24 = true from e24_]; exact hS109)⟩
     ·intro d_ a_ w_ hd_ hj_ hc_ hI_
      have hi_ : 26 < 55 := by decide
      refine ex10 hI_ fun v20 v21 v22 v23 v24 v25 v26 v27 v28 v29 h0 => ex10 h0 fun v30 v31 v32 v33 v34 v35 v36 v37 v38 v39 h1 => ex10 h1 fun v40 v41 v42 v43 v44 v45 v46 v47 v48 v49 h2 => ex10 h2 fun v50 v51 v52 v53 v54 v55 v56 v57 v58 v59 h3 => ex10 h3 fun v60 v61 v62 v63 v64 v65 v66 v67 v68 v69 h4 => ex10 h4 fun v70 v71 v72 v73 v74 g87 g88 g89 g90 g91 h5 => ?_
      obtain ⟨fb_, ha_, H_, hS_⟩ := h5
      clear hI_ h0 h1 h2 h3 h4
      refine op_WL hi_ ha_ ?_
      refine sg 1 [] e1 [(20, v20), (21, v21), (22, v22), (23, v23), (24, v24), (25, v25), (26, v26), (27, v27), (28, v28), (29, v29), (30, v30), (31, v31), (32, v32), (33, v33), (34, v34), (35, v35), (36, v36), (37, v37), (38, v38), (39, v39), (40, v40), (41, v41), (42, v42), (43, v43), (44, v44), (45, v45), (46, (.int .u64 e3)), (47, v47), (48, v48), (49, v49), (50, v50), (51, v51), (52, v52), (53, v53), (54, v54), (55, v55), (56, v56), (57, v57), (58, v58), (59, v59), (60, v60), (61, v61), (62, v62), (63, v63), (64, v64), (65, v65), (66, v66), (67, v67), (68, v68), (69, v69), (70, v70), (71, v71), (72, v72), (73, v73), (74, v74), e8, e9, e5, e6, e7, (12, (.int .u64 e3)), (13, (.int .u64 0)), (16, (.agg md0)), e4] (by kernel_rfl) ?_
      refine WL.done rfl ?_
      exact fun fb_ a_ ha_ => ⟨v20, v21, v22, v23, v24, v25, v26, v27, v28, v29, v30, v31, v32, v33, v34, v35, v36, v37, v38, v39, v40, v41, v42, v43, v44, v45, (.int .u64 e3), v47, v48, v49, v50, v51, v52, v53, v54, v55, v56, v57, v58, v59, v60, v61, v62, v63, v64, v65, v66, v67, v68, v69, v70, v71, v72, v73, v74, g87, g88, g89, g90, g91, fb_, ha_, (H_.upd 26 (.int .u64 e3) rfl), hS_⟩
     ·intro d_ a_ w_ hd_ hj_ hc_ hI_
      have hi_ : 27 < 55 := by decide
      refine ex10 hI_ fun v20 v21 v22 v23 v24 v25 v26 v27 v28 v29 h0 => ex10 h0 fun v30 v31 v32 v33 v34 v35 v36 v37 v38 v39 h1 => ex10 h1 fun v40 v41 v42 v43 v44 v45 v46 v47 v48 v49 h2 => ex10 h2 fun v50 v51 v52 v53 v54 v55 v56 v57 v58 v59 h3 => ex10 h3 fun v60 v61 v62 v63 v64 v65 v66 v67 v68 v69 h4 => ex10 h4 fun v70 v71 v72 v73 v74 g87 g88 g89 g90 g91 h5 => ?_
      obtain ⟨fb_, ha_, H_, hS_⟩ := h5
      clear hI_ h0 h1 h2 h3 h4
      refine op_WL hi_ ha_ ?_
      refine sg 1 [] e1 [(20, v20), (21, v21), (22, v22), (23, v23), (24, v24), (25, v25), (26, v26), (27, v27), (28, v28), (29, v29), (30, v30), (31, v31), (32, v32), (33, v33), (34, v34), (35, v35), (36, v36), (37, v37), (38, v38), (39, v39), (40, v40), (41, v41), (42, v42), (43, v43), (44, v44), (45, v45), (46, v46), (47, (pt g17)), (48, v48), (49, v49), (50, v50), (51, v51), (52, v52), (53, v53), (54, v54), (55, v55), (56, v56), (57, v57), (58, v58), (59, v59), (60, v60), (61, v61), (62, v62), (63, v63), (64, v64), (65, v65), (66, v66), (67, v67), (68, v68), (69, v69), (70, v70), (71, v71), (72, v72), (73, v73), (74, v74), e8, e9, e5, e6, e7, (12, (.int .u64 e3)), (13, (.int .u64 0)), (16, (.agg md0)), e4] (by kernel_rfl) ?_
      refine WL.done rfl ?_
      exact fun fb_ a_ ha_ => ⟨v20, v21, v22, v23, v24, v25, v26, v27, v28, v29, v30, v31, v32, v33, v34, v35, v36, v37, v38, v39, v40, v41, v42, v43, v44, v45, v46, (pt g17), v48, v49, v50, v51, v52, v53, v54, v55, v56, v57, v58, v59, v60, v61, v62, v63, v64, v65, v66, v67, v68, v69, v70, v71, v72, v73, v74, g87, g88, g89, g90, g91, fb_, ha_, (H_.upd 27 (pt g17) rfl), hS_⟩
     ·intro d_ a_ w_ hd_ hj_ hc_ hI_
      have hi_ : 28 < 55 := by decide
      refine ex10 hI_ fun v20 v21 v22 v23 v24 v25 v26 v27 v28 v29 h0 => ex10 h0 fun v30 v31 v32 v33 v34 v35 v36 v37 v38 v39 h1 => ex10 h1 fun v40 v41 v42 v43 v44 v45 v46 v47 v48 v49 h2 => ex10 h2 fun v50 v51 v52 v53 v54 v55 v56 v57 v58 v59 h3 => ex10 h3 fun v60 v61 v62 v63 v64 v65 v66 v67 v68 v69 h4 => ex10 h4 fun v70 v71 v72 v73 v74 g87 g88 g89 g90 g91 h5 => ?_
      obtain ⟨fb_, ha_, H_, hS_⟩ := h5
      clear hI_ h0 h1 h2 h3 h4
      obtain rfl : v47 = (pt g17) := H_ 27 _ rfl (hj_ 27 (memN_iff.1 (by kernel_rfl)))
      refine op_WL hi_ ha_ ?_
      refine seg 1 [.v e24] e1 [(20, v20), (21, v21), (22, v22), (23, v23), (24, v24), (25, v25), (26, v26), (27, v27), (28, v28), (29, v29), (30, v30), (31, v31), (32, v32), (33, v33), (34, v34), (35, v35), (36, v36), (37, v37), (38, v38), (39, v39), (40, v40), (41, v41), (42, v42), (43, v43), (44, v44), (45, v45), (46, v46), (47, (pt g17)), (48, e24), (49, v49), (50, v50), (51, v51), (52, v52), (53, v53), (54, v54), (55, v55), (56, v56), (57, v57), (58, v58), (59, v59), (60, v60), (61, v61), (62, v62), (63, v63), (64, v64), (65, v65), (66, v66), (67, v67), (68, v68), (69, v69), (70, v70), (71, v71), (72, v72), (73, v73), (74, v74), e8, e9, e5, e6, e7, (12, (.int .u64 e3)), (13, (.int .u64 0)), (16, (.agg md0)), e4] [.cell ⟨g17, 0, none⟩ e24] (fun fb => by kernel_rfl) rfl ⟨hS_.cell 8 rfl 0 rfl, trivial⟩ ?_
      refine WL.done rfl ?_
      exact fun fb_ a_ ha_ => ⟨v20, v21, v22, v23, v24, v25, v26, v27, v28, v29, v30, v31, v32, v33, v34, v35, v36, v37, v38, v39, v40, v41, v42, v43, v44, v45, v46, (pt g17), e24, v49, v50, v51, v52, v53, v54, v55, v56, v57, v58, v59, v60, v61, v62, v63, v64, v65, v66, v67, v68, v69, v70, v71, v72, v73, v74, g87, g88, g89, g90, g91, fb_, ha_, (H_.upd 28 e24 rfl), hS_⟩
     ·intro d_ a_ w_ hd_ hj_ hc_ hI_
      have hi_ : 29 < 55 := by decide
      refine ex10 hI_ fun v20 v21 v22 v23 v24 v25 v26 v27 v28 v29 h0 => ex10 h0 fun v30 v31 v32 v33 v34 v35 v36 v37 v38 v39 h1 => ex10 h1 fun v40 v41 v42 v43 v44 v45 v46 v47 v48 v49 h2 => ex10 h2 fun v50 v51 v52 v53 v54 v55 v56 v57 v58 v59 h3 => ex10 h3 fun v60 v61 v62 v63 v64 v65 v66 v67 v68 v69 h4 => ex10 h4 fun v70 v71 v72 v73 v74 g87 g88 g89 g90 g91 h5 => ?_
      obtain ⟨fb_, ha_, H_, hS_⟩ := h5
      clear hI_ h0 h1 h2 h3 h4
      refine op_WL hi_ ha_ ?_
      refine sg 1 [] e1 [(20, v20), (21, v21), (22, v22), (23, v23), (24, v24), (25, v25), (26, v26), (27, v27), (28, v28), (29, v29), (30, v30), (31, v31), (32, v32), (33, v33), (34, v34), (35, v35), (36, v36), (37, v37), (38, v38), (39, v39), (40, v40), (41, v41), (42, v42), (43, v43), (44, v44), (45, v45), (46, v46), (47, v47), (48, v48), (49, (.pointer (some ⟨g6, 1, none⟩))), (50, v50), (51, v51), (52, v52), (53, v53), (54, v54), (55, v55), (56, v56), (57, v57), (58, v58), (59, v59), (60, v60), (61, v61), (62, v62), (63, v63), (64, v64), (65, v65), (66, v66), (67, v67), (68, v68), (69, v69), (70, v70), (71, v71), (72, v72), (73, v73), (74, v74), e8, e9, e5, e6, e7, (12, (.int .u64 e3)), (13, (.int .u64 0)), (16, (.agg md0)), e4] (by kernel_rfl) ?_
      refine WL.done rfl ?_
      exact fun fb_ a_ ha_ => ⟨v20, v21, v22, v23, v24, v25, v26, v27, v28, v29, v30, v31, v32, v33, v34, v35, v36, v37, v38, v39, v40, v41, v42, v43, v44, v45, v46, v47, v48, (.pointer (some ⟨g6, 1, none⟩)), v50, v51, v52, v53, v54, v55, v56, v57, v58, v59, v60, v61, v62, v63, v64, v65, v66, v67, v68, v69, v70, v71, v72, v73, v74, g87, g88, g89, g90, g91, fb_, ha_, (H_.upd 29 (.pointer (some ⟨g6, 1, none⟩)) rfl), hS_⟩
     ·intro d_ a_ w_ hd_ hj_ hc_ hI_
      have hi_ : 30 < 55 := by decide
      refine ex10 hI_ fun v20 v21 v22 v23 v24 v25 v26 v27 v28 v29 h0 => ex10 h0 fun v30 v31 v32 v33 v34 v35 v36 v37 v38 v39 h1 => ex10 h1 fun v40 v41 v42 v43 v44 v45 v46 v47 v48 v49 h2 => ex10 h2 fun v50 v51 v52 v53 v54 v55 v56 v57 v58 v59 h3 => ex10 h3 fun v60 v61 v62 v63 v64 v65 v66 v67 v68 v69 h4 => ex10 h4 fun v70 v71 v72 v73 v74 g87 g88 g89 g90 g91 h5 => ?_
      obtain ⟨fb_, ha_, H_, hS_⟩ := h5
      clear hI_ h0 h1 h2 h3 h4
      obtain rfl : v49 = (.pointer (some ⟨g6, 1, none⟩)) := H_ 29 _ rfl (hj_ 29 (memN_iff.1 (by kernel_rfl)))
      refine op_WL hi_ ha_ ?_
      refine seg 1 [.v e15] e1 [(20, v20), (21, v21), (22, v22), (23, v23), (24, v24), (25, v25), (26, v26), (27, v27), (28, v28), (29, v29), (30, v30), (31, v31), (32, v32), (33, v33), (34, v34), (35, v35), (36, v36), (37, v37), (38, v38), (39, v39), (40, v40), (41, v41), (42, v42), (43, v43), (44, v44), (45, v45), (46, v46), (47, v47), (48, v48), (49, (.pointer (some ⟨g6, 1, none⟩))), (50, e15), (51, v51), (52, v52), (53, v53), (54, v54), (55, v55), (56, v56), (57, v57), (58, v58), (59, v59), (60, v60), (61, v61), (62, v62), (63, v63), (64, v64), (65, v65), (66, v66), (67, v67), (68, v68), (69, v69), (70, v70), (71, v71), (72, v72), (73, v73), (74, v74), e8, e9, e5, e6, e7, (12, (.int .u64 e3)), (13, (.int .u64 0)), (16, (.agg md0)), e4] [.cell ⟨g6, 1, none⟩ e15] (fun fb => by kernel_rfl) rfl ⟨hS_.cell 5 rfl 1 rfl, trivial⟩ ?_
      refine WL.done rfl ?_
      exact fun fb_ a_ ha_ => ⟨v20, v21, v22, v23, v24, v25, v26, v27, v28, v29, v30, v31, v32, v33, v34, v35, v36, v37, v38, v39, v40, v41, v42, v43, v44, v45, v46, v47, v48, (.pointer (some ⟨g6, 1, none⟩)), e15, v51, v52, v53, v54, v55, v56, v57, v58, v59, v60, v61, v62, v63, v64, v65, v66, v67, v68, v69, v70, v71, v72, v73, v74, g87, g88, g89, g90, g91, fb_, ha_, (H_.upd 30 e15 rfl), hS_⟩
     ·intro d_ a_ w_ hd_ hj_ hc_ hI_
      have hi_ : 31 < 55 := by decide
      refine ex10 hI_ fun v20 v21 v22 v23 v24 v25 v26 v27 v28 v29 h0 => ex10 h0 fun v30 v31 v32 v33 v34 v35 v36 v37 v38 v39 h1 => ex10 h1 fun v40 v41 v42 v43 v44 v45 v46 v47 v48 v49 h2 => ex10 h2 fun v50 v51 v52 v53 v54 v55 v56 v57 v58 v59 h3 => ex10 h3 fun v60 v61 v62 v63 v64 v65 v66 v67 v68 v69 h4 => ex10 h4 fun v70 v71 v72 v73 v74 g87 g88 g89 g90 g91 h5 => ?_
      obtain ⟨fb_, ha_, H_, hS_⟩ := h5
      clear hI_ h0 h1 h2 h3 h4
      refine op_WL hi_ ha_ ?_
      refine sg 1 [] e1 [(20, v20), (21, v21), (22, v22), (23, v23), (24, v24), (25, v25), (26, v26), (27, v27), (28, v28), (29, v29), (30, v30), (31, v31), (32, v32), (33, v33), (34, v34), (35, v35), (36, v36), (37, v37), (38, v38), (39, v39), (40, v40), (41, v41), (42, v42), (43, v43), (44, v44), (45, v45), (46, v46), (47, v47), (48, v48), (49, v49), (50, v50), (51, (.pointer (some ⟨g9, 1, none⟩))), (52, v52), (53, v53), (54, v54), (55, v55), (56, v56), (57, v57), (58, v58), (59, v59), (60, v60), (61, v61), (62, v62), (63, v63), (64, v64), (65, v65), (66, v66), (67, v67), (68, v68), (69, v69), (70, v70), (71, v71), (72, v72), (73, v73), (74, v74), e8, e9, e5, e6, e7, (12, (.int .u64 e3)), (13, (.int .u64 0)), (16, (.agg md0)), e4] (by kernel_rfl) ?_
      refine WL.done rfl ?_
      exact fun fb_ a_ ha_ => ⟨v20, v21, v22, v23, v24, v25, v26, v27, v28, v29, v30, v31, v32, v33, v34, v35, v36, v37, v38, v39, v40, v41, v42, v43, v44, v45, v46, v47, v48, v49, v50, (.pointer (some ⟨g9, 1, none⟩)), v52, v53, v54, v55, v56, v57, v58, v59, v60, v61, v62, v63, v64, v65, v66, v67, v68, v69, v70, v71, v72, v73, v74, g87, g88, g89, g90, g91, fb_, ha_, (H_.upd 31 (.pointer (some ⟨g9, 1, none⟩)) rfl), hS_⟩
     ·intro d_ a_ w_ hd_ hj_ hc_ hI_
      have hi_ : 32 < 55 := by decide
      refine ex10 hI_ fun v20 v21 v22 v23 v24 v25 v26 v27 v28 v29 h0 => ex10 h0 fun v30 v31 v32 v33 v34 v35 v36 v37 v38 v39 h1 => ex10 h1 fun v40 v41 v42 v43 v44 v45 v46 v47 v48 v49 h2 => ex10 h2 fun v50 v51 v52 v53 v54 v55 v56 v57 v58 v59 h3 => ex10 h3 fun v60 v61 v62 v63 v64 v65 v66 v67 v68 v69 h4 => ex10 h4 fun v70 v71 v72 v73 v74 g87 g88 g89 g90 g91 h5 => ?_
      obtain ⟨fb_, ha_, H_, hS_⟩ := h5
      clear hI_ h0 h1 h2 h3 h4
      obtain rfl : v51 = (.pointer (some ⟨g9, 1, none⟩)) := H_ 31 _ rfl (hj_ 31 (memN_iff.1 (by kernel_rfl)))
      refine op_WL hi_ ha_ ?_
      refine seg 1 [.v e16] e1 [(20, v20), (21, v21), (22, v22), (23, v23), (24, v24), (25, v25), (26, v26), (27, v27), (28, v28), (29, v29), (30, v30), (31, v31), (32, v32), (33, v33), (34, v34), (35, v35), (36, v36), (37, v37), (38, v38), (39, v39), (40, v40), (41, v41), (42, v42), (43, v43), (44, v44), (45, v45), (46, v46), (47, v47), (48, v48), (49, v49), (50, v50), (51, (.pointer (some ⟨g9, 1, none⟩))), (52, e16), (53, v53), (54, v54), (55, v55), (56, v56), (57, v57), (58, v58), (59, v59), (60, v60), (61, v61), (62, v62), (63, v63), (64, v64), (65, v65), (66, v66), (67, v67), (68, v68), (69, v69), (70, v70), (71, v71), (72, v72), (73, v73), (74, v74), e8, e9, e5, e6, e7, (12, (.int .u64 e3)), (13, (.int .u64 0)), (16, (.agg md0)), e4] [.cell ⟨g9, 1, none⟩ e16] (fun fb => by kernel_rfl) rfl ⟨hS_.cell 6 rfl 1 rfl, trivial⟩ ?_
      refine WL.done rfl ?_
      exact fun fb_ a_ ha_ => ⟨v20, v21, v22, v23, v24, v25, v26, v27, v28, v29, v30, v31, v32, v33, v34, v35, v36, v37, v38, v39, v40, v41, v42, v43, v44, v45, v46, v47, v48, v49, v50, (.pointer (some ⟨g9, 1, none⟩)), e16, v53, v54, v55, v56, v57, v58, v59, v60, v61, v62, v63, v64, v65, v66, v67, v68, v69, v70, v71, v72, v73, v74, g87, g88, g89, g90, g91, fb_, ha_, (H_.upd 32 e16 rfl), hS_⟩
     ·intro d_ a_ w_ hd_ hj_ hc_ hI_
      have hi_ : 33 < 55 := by decide
      refine ex10 hI_ fun v20 v21 v22 v23 v24 v25 v26 v27 v28 v29 h0 => ex10 h0 fun v30 v31 v32 v33 v34 v35 v36 v37 v38 v39 h1 => ex10 h1 fun v40 v41 v42 v43 v44 v45 v46 v47 v48 v49 h2 => ex10 h2 fun v50 v51 v52 v53 v54 v55 v56 v57 v58 v59 h3 => ex10 h3 fun v60 v61 v62 v63 v64 v65 v66 v67 v68 v69 h4 => ex10 h4 fun v70 v71 v72 v73 v74 g87 g88 g89 g90 g91 h5 => ?_
      obtain ⟨fb_, ha_, H_, hS_⟩ := h5
      clear hI_ h0 h1 h2 h3 h4
      refine op_WL hi_ ha_ ?_
      refine sg 1 [] e1 [(20, v20), (21, v21), (22, v22), (23, v23), (24, v24), (25, v25), (26, v26), (27, v27), (28, v28), (29, v29), (30, v30), (31, v31), (32, v32), (33, v33), (34, v34), (35, v35), (36, v36), (37, v37), (38, v38), (39, v39), (40, v40), (41, v41), (42, v42), (43, v43), (44, v44), (45, v45), (46, v46), (47, v47), (48, v48), (49, v49), (50, v50), (51, v51), (52, v52), (53, (.pointer (some ⟨g14, 1, none⟩))), (54, v54), (55, v55), (56, v56), (57, v57), (58, v58), (59, v59), (60, v60), (61, v61), (62, v62), (63, v63), (64, v64), (65, v65), (66, v66), (67, v67), (68, v68), (69, v69), (70, v70), (71, v71), (72, v72), (73, v73), (74, v74), e8, e9, e5, e6, e7, (12, (.int .u64 e3)), (13, (.int .u64 0)), (16, (.agg md0)), e4] (by kernel_rfl) ?_
      refine WL.done rfl ?_
      exact fun fb_ a_ ha_ => ⟨v20, v21, v22, v23, v24, v25, v26, v27, v28, v29, v30, v31, v32, v33, v34, v35, v36, v37, v38, v39, v40, v41, v42, v43, v44, v45, v46, v47, v48, v49, v50, v51, v52, (.pointer (some ⟨g14, 1, none⟩)), v54, v55, v56, v57, v58, v59, v60, v61, v62, v63, v64, v65, v66, v67, v68, v69, v70, v71, v72, v73, v74, g87, g88, g89, g90, g91, fb_, ha_, (H_.upd 33 (.pointer (some ⟨g14, 1, none⟩)) rfl), hS_⟩
     ·intro d_ a_ w_ hd_ hj_ hc_ hI_
      have hi_ : 34 < 55 := by decide
      refine ex10 hI_ fun v20 v21 v22 v23 v24 v25 v26 v27 v28 v29 h0 => ex10 h0 fun v30 v31 v32 v33 v34 v35 v36 v37 v38 v39 h1 => ex10 h1 fun v40 v41 v42 v43 v44 v45 v46 v47 v48 v49 h2 => ex10 h2 fun v50 v51 v52 v53 v54 v55 v56 v57 v58 v59 h3 => ex10 h3 fun v60 v61 v62 v63 v64 v65 v66 v67 v68 v69 h4 => ex10 h4 fun v70 v71 v72 v73 v74 g87 g88 g89 g90 g91 h5 => ?_
      obtain ⟨fb_, ha_, H_, hS_⟩ := h5
      clear hI_ h0 h1 h2 h3 h4
      obtain rfl : v53 = (.pointer (some ⟨g14, 1, none⟩)) := H_ 33 _ rfl (hj_ 33 (memN_iff.1 (by kernel_rfl)))
      refine op_WL hi_ ha_ ?_
      refine seg 1 [.v e17] e1 [(20, v20), (21, v21), (22, v22), (23, v23), (24, v24), (25, v25), (26, v26), (27, v27), (28, v28), (29, v29), (30, v30), (31, v31), (32, v32), (33, v33), (34, v34), (35, v35), (36, v36), (37, v37), (38, v38), (39, v39), (40, v40), (41, v41), (42, v42), (43, v43), (44, v44), (45, v45), (46, v46), (47, v47), (48, v48), (49, v49), (50, v50), (51, v51), (52, v52), (53, (.pointer (some ⟨g14, 1, none⟩))), (54, e17), (55, v55), (56, v56), (57, v57), (58, v58), (59, v59), (60, v60), (61, v61), (62, v62), (63, v63), (64, v64), (65, v65), (66, v66), (67, v67), (68, v68), (69, v69), (70, v70), (71, v71), (72, v72), (73, v73), (74, v74), e8, e9, e5, e6, e7, (12, (.int .u64 e3)), (13, (.int .u64 0)), (16, (.agg md0)), e4] [.cell ⟨g14, 1, none⟩ e17] (fun fb => by kernel_rfl) rfl ⟨hS_.cell 7 rfl 1 rfl, trivial⟩ ?_
      refine WL.done rfl ?_
      exact fun fb_ a_ ha_ => ⟨v20, v21, v22, v23, v24, v25, v26, v27, v28, v29, v30, v31, v32, v33, v34, v35, v36, v37, v38, v39, v40, v41, v42, v43, v44, v45, v46, v47, v48, v49, v50, v51, v52, (.pointer (some ⟨g14, 1, none⟩)), e17, v55, v56, v57, v58, v59, v60, v61, v62, v63, v64, v65, v66, v67, v68, v69, v70, v71, v72, v73, v74, g87, g88, g89, g90, g91, fb_, ha_, (H_.upd 34 e17 rfl), hS_⟩
     ·intro d_ a_ w_ hd_ hj_ hc_ hI_
      have hi_ : 35 < 55 := by decide
      refine ex10 hI_ fun v20 v21 v22 v23 v24 v25 v26 v27 v28 v29 h0 => ex10 h0 fun v30 v31 v32 v33 v34 v35 v36 v37 v38 v39 h1 => ex10 h1 fun v40 v41 v42 v43 v44 v45 v46 v47 v48 v49 h2 => ex10 h2 fun v50 v51 v52 v53 v54 v55 v56 v57 v58 v59 h3 => ex10 h3 fun v60 v61 v62 v63 v64 v65 v66 v67 v68 v69 h4 => ex10 h4 fun v70 v71 v72 v73 v74 g87 g88 g89 g90 g91 h5 => ?_
      obtain ⟨fb_, ha_, H_, hS_⟩ := h5
      clear hI_ h0 h1 h2 h3 h4
      refine op_WL hi_ ha_ ?_
      refine sg 1 [] e1 [(20, v20), (21, v21), (22, v22), (23, v23), (24, v24), (25, v25), (26, v26), (27, v27), (28, v28), (29, v29), (30, v30), (31, v31), (32, v32), (33, v33), (34, v34), (35, v35), (36, v36), (37, v37), (38, v38), (39, v39), (40, v40), (41, v41), (42, v42), (43, v43), (44, v44), (45, v45), (46, v46), (47, v47), (48, v48), (49, v49), (50, v50), (51, v51), (52, v52), (53, v53), (54, v54), (55, (.pointer (some ⟨g75, 1, none⟩))), (56, v56), (57, v57), (58, v58), (59, v59), (60, v60), (61, v61), (62, v62), (63, v63), (64, v64), (65, v65), (66, v66), (67, v67), (68, v68), (69, v69), (70, v70), (71, v71), (72, v72), (73, v73), (74, v74), e8, e9, e5, e6, e7, (12, (.int .u64 e3)), (13, (.int .u64 0)), (16, (.agg md0)), e4] (by kernel_rfl) ?_
      refine WL.done rfl ?_
      exact fun fb_ a_ ha_ => ⟨v20, v21, v22, v23, v24, v25, v26, v27, v28, v29, v30, v31, v32, v33, v34, v35, v36, v37, v38, v39, v40, v41, v42, v43, v44, v45, v46, v47, v48, v49, v50, v51, v52, v53, v54, (.pointer (some ⟨g75, 1, none⟩)), v56, v57, v58, v59, v60, v61, v62, v63, v64, v65, v66, v67, v68, v69, v70, v71, v72, v73, v74, g87, g88, g89, g90, g91, fb_, ha_, (H_.upd 35 (.pointer (some ⟨g75, 1, none⟩)) rfl), hS_⟩
     ·intro d_ a_ w_ hd_ hj_ hc_ hI_
      have hi_ : 36 < 55 := by decide
      refine ex10 hI_ fun v20 v21 v22 v23 v24 v25 v26 v27 v28 v29 h0 => ex10 h0 fun v30 v31 v32 v33 v34 v35 v36 v37 v38 v39 h1 => ex10 h1 fun v40 v41 v42 v43 v44 v45 v46 v47 v48 v49 h2 => ex10 h2 fun v50 v51 v52 v53 v54 v55 v56 v57 v58 v59 h3 => ex10 h3 fun v60 v61 v62 v63 v64 v65 v66 v67 v68 v69 h4 => ex10 h4 fun v70 v71 v72 v73 v74 g87 g88 g89 g90 g91 h5 => ?_
      obtain ⟨fb_, ha_, H_, hS_⟩ := h5
      clear hI_ h0 h1 h2 h3 h4
      obtain rfl : v55 = (.pointer (some ⟨g75, 1, none⟩)) := H_ 35 _ rfl (hj_ 35 (memN_iff.1 (by kernel_rfl)))
      refine op_WL hi_ ha_ ?_
      refine seg 1 [.v e19] e1 [(20, v20), (21, v21), (22, v22), (23, v23), (24, v24), (25, v25), (26, v26), (27, v27), (28, v28), (29, v29), (30, v30), (31, v31), (32, v32), (33, v33), (34, v34), (35, v35), (36, v36), (37, v37), (38, v38), (39, v39), (40, v40), (41, v41), (42, v42), (43, v43), (44, v44), (45, v45), (46, v46), (47, v47), (48, v48), (49, v49), (50, v50), (51, v51), (52, v52), (53, v53), (54, v54), (55, (.pointer (some ⟨g75, 1, none⟩))), (56, e19), (57, v57), (58, v58), (59, v59), (60, v60), (61, v61), (62, v62), (63, v63), (64, v64), (65, v65), (66, v66), (67, v67), (68, v68), (69, v69), (70, v70), (71, v71), (72, v72), (73, v73), (74, v74), e8, e9, e5, e6, e7, (12, (.int .u64 e3)), (13, (.int .u64 0)), (16, (.agg md0)), e4] [.cell ⟨g75, 1, none⟩ e19] (fun fb => by kernel_rfl) rfl ⟨hS_.cell 9 rfl 1 rfl, trivial⟩ ?_
      refine WL.done rfl ?_
      exact fun fb_ a_ ha_ => ⟨v20, v21, v22, v23, v24, v25, v26, v27, v28, v29, v30, v31, v32, v33, v34, v35, v36, v37, v38, v39, v40, v41, v42, v43, v44, v45, v46, v47, v48, v49, v50, v51, v52, v53, v54, (.pointer (some ⟨g75, 1, none⟩)), e19, v57, v58, v59, v60, v61, v62, v63, v64, v65, v66, v67, v68, v69, v70, v71, v72, v73, v74, g87, g88, g89, g90, g91, fb_, ha_, (H_.upd 36 e19 rfl), hS_⟩
     ·intro d_ a_ w_ hd_ hj_ hc_ hI_
      have hi_ : 37 < 55 := by decide
      refine ex10 hI_ fun v20 v21 v22 v23 v24 v25 v26 v27 v28 v29 h0 => ex10 h0 fun v30 v31 v32 v33 v34 v35 v36 v37 v38 v39 h1 => ex10 h1 fun v40 v41 v42 v43 v44 v45 v46 v47 v48 v49 h2 => ex10 h2 fun v50 v51 v52 v53 v54 v55 v56 v57 v58 v59 h3 => ex10 h3 fun v60 v61 v62 v63 v64 v65 v66 v67 v68 v69 h4 => ex10 h4 fun v70 v71 v72 v73 v74 g87 g88 g89 g90 g91 h5 => ?_
      obtain ⟨fb_, ha_, H_, hS_⟩ := h5
      clear hI_ h0 h1 h2 h3 h4
      obtain rfl : v48 = e24 := H_ 28 _ rfl (hj_ 28 (memN_iff.1 (by kernel_rfl)))
      obtain rfl : v50 = e15 := H_ 30 _ rfl (hj_ 30 (memN_iff.1 (by kernel_rfl)))
      obtain rfl : v52 = e16 := H_ 32 _ rfl (hj_ 32 (memN_iff.1 (by kernel_rfl)))
      obtain rfl : v54 = e17 := H_ 34 _ rfl (hj_ 34 (memN_iff.1 (by kernel_rfl)))
      obtain rfl : v56 = e19 := H_ 36 _ rfl (hj_ 36 (memN_iff.1 (by kernel_rfl)))
      refine op_WL hi_ ha_ ?_
      refine WL.new hS_ 57 [] (fun g => (.slice (some ⟨g, 0, none⟩) 5 5)) (.cells #[e24, e15, e16, e17, e19] 3 (0, 0)) [] (fun fb g => by kernel_rfl) trivial (fun g110 w111 hS112 => ?_)
      refine ⟨trivial, ?_⟩
      have hS113 := hS.go w111 [rowO 3 encInt (some ⟨g110, 0, none⟩) 5 e12, sO (d_ 11) (rowO 3 encInt (some ⟨g87, 0, none⟩) 5 e10), sO (d_ 24) (rowO 3 encInt (some ⟨g88, 0, none⟩) 5 e11), sO (d_ 37) (rowO 3 encInt (some ⟨g89, 0, none⟩) 5 e12), sO (d_ 50) (rowO 3 encInt (some ⟨g90, 0, none⟩) 5 e13), sO (d_ 52) (rowO 87 encU64 (some ⟨g91, 0, none⟩) 4 e20), blk g6 (.cells e30 33 (0, 0)), blk g9 (.cells e31 33 (0, 0)), blk g14 (.cells e32 33 (0, 0)), blk g17 (.cells e33 33 (0, 0)), blk g75 (.cells e34 33 (0, 0))] (hS112.map1 0 _ (fun h => rowO.ofBlk h rfl (Nat.le_of_ble_eq_true (by kernel_rfl))) (fun _ h => by obtain ⟨_, h1, h2⟩ := h; injection h1 with h1; subst h1; exact h2) e27 (by decide) (by decide))
      refine WL.reE e1 [(20, v20), (21, v21), (22, v22), (23, v23), (24, v24), (25, v25), (26, v26), (27, v27), (28, v28), (29, v29), (30, v30), (31, v31), (32, v32), (33, v33), (34, v34), (35, v35), (36, v36), (37, v37), (38, v38), (39, v39), (40, v40), (41, v41), (42, v42), (43, v43), (44, v44), (45, v45), (46, v46), (47, v47), (48, e24), (49, v49), (50, e15), (51, v51), (52, e16), (53, v53), (54, e17), (55, v55), (56, e19), (57, (.slice (some ⟨g110, 0, none⟩) e12.length 5)), (58, v58), (59, v59), (60, v60), (61, v61), (62, v62), (63, v63), (64, v64), (65, v65), (66, v66), (67, v67), (68, v68), (69, v69), (70, v70), (71, v71), (72, v72), (73, v73), (74, v74), e8, e9, e5, e6, e7, (12, (.int .u64 e3)), (13, (.int .u64 0)), (16, (.agg md0)), e4] [(20, v20), (21, v21), (22, v22), (23, v23), (24, v24), (25, v25), (26, v26), (27, v27), (28, v28), (29, v29), (30, v30), (31, v31), (32, v32), (33, v33), (34, v34), (35, v35), (36, v36), (37, v37), (38, v38), (39, v39), (40, v40), (41, v41), (42, v42), (43, v43), (44, v44), (45, v45), (46, v46), (47, v47), (48, e24), (49, v49), (50, e15), (51, v51), (52, e16), (53, v53), (54, e17), (55, v55), (56, e19), (57, (.slice (some ⟨g110, 0, none⟩) e12.length 5)), (58, v58), (59, v59), (60, v60), (61, v61), (62, v62), (63, v63), (64, v64), (65, v65), (66, v66), (67, v67), (68, v68), (69, v69), (70, v70), (71, v71), (72, v72), (73, v73), (74, v74), e8, e9, e5, e6, e7, (12, (.int .u64 e3)), (13, (.int .u64 0)), (16, (.agg md0)), e4] rfl rfl ?_
      refine WL.done rfl ?_
      exact fun fb_ a_ ha_ => ⟨v20, v21, v22, v23, v24, v25, v26, v27, v28, v29, v30, v31, v32, v33, v34, v35, v36, v37, v38, v39, v40, v41, v42, v43, v44, v45, v46, v47, e24, v49, e15, v51, e16, v53, e17, v55, e19, (sv (some ⟨g110, 0, none⟩) e12 5), v58, v59, v60, v61, v62, v63, v64, v65, v66, v67, v68, v69, v70, v71, v72, v73, v74, g87, g88, g110, g90, g91, fb_, ha_, (H_.upd 37 (sv (some ⟨g110, 0, none⟩) e12 5) rfl), (hS113.sub [1, 2, 0, 4, 5, 6, 7, 8, 9, 10] (by decide))⟩
     ·intro d_ a_ w_ hd_ hj_ hc_ hI_
      have hi_ : 38 < 55 := by decide
      refine ex10 hI_ fun v20 v21 v22 v23 v24 v25 v26 v27 v28 v29 h0 => ex10 h0 fun v30 v31 v32 v33 v34 v35 v36 v37 v38 v39 h1 => ex10 h1 fun v40 v41 v42 v43 v44 v45 v46 v47 v48 v49 h2 => ex10 h2 fun v50 v51 v52 v53 v54 v55 v56 v57 v58 v59 h3 => ex10 h3 fun v60 v61 v62 v63 v64 v65 v66 v67 v68 v69 h4 => ex10 h4 fun v70 v71 v72 v73 v74 g87 g88 g89 g90 g91 h5 => ?_
      obtain ⟨fb_, ha_, H_, hS_⟩ := h5
      clear hI_ h0 h1 h2 h3 h4
      obtain rfl : v46 = (.int .u64 e3) := H_ 26 _ rfl (hj_ 26 (memN_iff.1 (by kernel_rfl)))
      obtain rfl : v57 = (sv (some ⟨g89, 0, none⟩) e12 5) := H_ 37 _ rfl (hj_ 37 (memN_iff.1 (by kernel_rfl)))
      have e37_ : d_ 37 = true := hj_ 37 (memN_iff.1 (by kernel_rfl))
      rw [e37_] at hS_
      refine op_WL hi_ ha_ ?_
      refine WL.call (some 58) 63 #[(.int .u64 e3), (iv (-1)), (sv (some ⟨g89, 0, none⟩) e12 5)] (fun fb => by kernel_rfl) (weight_product_calls _ e3 (-1) e12 (some ⟨g89, 0, none⟩) 5 t114 _ (hS_.ow 2).ofO ht115) (fun v w116 hR117 => ?_)
      obtain ⟨rfl, hk_⟩ := hR117
      have hS118 := hS_.keepN hk_
      refine ⟨trivial, ?_⟩
      refine WL.reE e1 [(20, v20), (21, v21), (22, v22), (23, v23), (24, v24), (25, v25), (26, v26), (27, v27), (28, v28), (29, v29), (30, v30), (31, v31), (32, v32), (33, v33), (34, v34), (35, v35), (36, v36), (37, v37), (38, v38), (39, v39), (40, v40), (41, v41), (42, v42), (43, v43), (44, v44), (45, v45), (46, (.int .u64 e3)), (47, v47), (48, v48), (49, v49), (50, v50), (51, v51), (52, v52), (53, v53), (54, v54), (55, v55), (56, v56), (57, (.slice (some ⟨g89, 0, none⟩) e12.length 5)), (58, (.int .u64 t114)), (59, v59), (60, v60), (61, v61), (62, v62), (63, v63), (64, v64), (65, v65), (66, v66), (67, v67), (68, v68), (69, v69), (70, v70), (71, v71), (72, v72), (73, v73), (74, v74), e8, e9, e5, e6, e7, (12, (.int .u64 e3)), (13, (.int .u64 0)), (16, (.agg md0)), e4] [(20, v20), (21, v21), (22, v22), (23, v23), (24, v24), (25, v25), (26, v26), (27, v27), (28, v28), (29, v29), (30, v30), (31, v31), (32, v32), (33, v33), (34, v34), (35, v35), (36, v36), (37, v37), (38, v38), (39, v39), (40, v40), (41, v41), (42, v42), (43, v43), (44, v44), (45, v45), (46, (.int .u64 e3)), (47, v47), (48, v48), (49, v49), (50, v50), (51, v51), (52, v52), (53, v53), (54, v54), (55, v55), (56, v56), (57, (.slice (some ⟨g89, 0, none⟩) e12.length 5)), (58, (.int .u64 t114)), (59, v59), (60, v60), (61, v61), (62, v62), (63, v63), (64, v64), (65, v65), (66, v66), (67, v67), (68, v68), (69, v69), (70, v70), (71, v71), (72, v72), (73, v73), (74, v74), e8, e9, e5, e6, e7, (12, (.int .u64 e3)), (13, (.int .u64 0)), (16, (.agg md0)), e4] rfl rfl ?_
      refine WL.done rfl ?_
      exact fun fb_ a_ ha_ => ⟨v20, v21, v22, v23, v24, v25, v26, v27, v28, v29, v30, v31, v32, v33, v34, v35, v36, v37, v38, v39, v40, v41, v42, v43, v44, v45, (.int .u64 (getI [2305843009213693951, 2305843009213693921, 2305843009213693907] x78)), v47, v48, v49, v50, v51, v52, v53, v54, v55, v56, (.slice (some ⟨g89, 0, none⟩) [p3.Num, p0.Den, p1.Den, p2.Den, p4.Den].length 5), (.int .u64 t114), v59, v60, v61, v62, v63, v64, v65, v66, v67, v68, v69, v70, v71, v72, v73, v74, g87, g88, g89, g90, g91, fb_, ha_, (H_.upd 38 (.int .u64 t114) rfl), (by rw [show upd d_ 38 37 = true from e37_]; exact hS118)⟩
     ·intro d_ a_ w_ hd_ hj_ hc_ hI_
      have hi_ : 39 < 55 := by decide
      refine ex10 hI_ fun v20 v21 v22 v23 v24 v25 v26 v27 v28 v29 h0 => ex10 h0 fun v30 v31 v32 v33 v34 v35 v36 v37 v38 v39 h1 => ex10 h1 fun v40 v41 v42 v43 v44 v45 v46 v47 v48 v49 h2 => ex10 h2 fun v50 v51 v52 v53 v54 v55 v56 v57 v58 v59 h3 => ex10 h3 fun v60 v61 v62 v63 v64 v65 v66 v67 v68 v69 h4 => ex10 h4 fun v70 v71 v72 v73 v74 g87 g88 g89 g90 g91 h5 => ?_
      obtain ⟨fb_, ha_, H_, hS_⟩ := h5
      clear hI_ h0 h1 h2 h3 h4
      refine op_WL hi_ ha_ ?_
      refine sg 1 [] e1 [(20, v20), (21, v21), (22, v22), (23, v23), (24, v24), (25, v25), (26, v26), (27, v27), (28, v28), (29, v29), (30, v30), (31, v31), (32, v32), (33, v33), (34, v34), (35, v35), (36, v36), (37, v37), (38, v38), (39, v39), (40, v40), (41, v41), (42, v42), (43, v43), (44, v44), (45, v45), (46, v46), (47, v47), (48, v48), (49, v49), (50, v50), (51, v51), (52, v52), (53, v53), (54, v54), (55, v55), (56, v56), (57, v57), (58, v58), (59, (.int .u64 e3)), (60, v60), (61, v61), (62, v62), (63, v63), (64, v64), (65, v65), (66, v66), (67, v67), (68, v68), (69, v69), (70, v70), (71, v71), (72, v72), (73, v73), (74, v74), e8, e9, e5, e6, e7, (12, (.int .u64 e3)), (13, (.int .u64 0)), (16, (.agg md0)), e4] (by kernel_rfl) ?_
      refine WL.done rfl ?_
      exact fun fb_ a_ ha_ => ⟨v20, v21, v22, v23, v24, v25, v26, v27, v28, v29, v30, v31, v32, v33, v34, v35, v36, v37, v38, v39, v40, v41, v42, v43, v44, v45, v46, v47, v48, v49, v50, v51, v52, v53, v54, v55, v56, v57, v58, (.int .u64 e3), v60, v61, v62, v63, v64, v65, v66, v67, v68, v69, v70, v71, v72, v73, v74, g87, g88, g89, g90, g91, fb_, ha_, (H_.upd 39 (.int .u64 e3) rfl), hS_⟩
     ·intro d_ a_ w_ hd_ hj_ hc_ hI_
      have hi_ : 40 < 55 := by decide
      refine ex10 hI_ fun v20 v21 v22 v23 v24 v25 v26 v27 v28 v29 h0 => ex10 h0 fun v30 v31 v32 v33 v34 v35 v36 v37 v38 v39 h1 => ex10 h1 fun v40 v41 v42 v43 v44 v45 v46 v47 v48 v49 h2 => ex10 h2 fun v50 v51 v52 v53 v54 v55 v56 v57 v58 v59 h3 => ex10 h3 fun v60 v61 v62 v63 v64 v65 v66 v67 v68 v69 h4 => ex10 h4 fun v70 v71 v72 v73 v74 g87 g88 g89 g90 g91 h5 => ?_
      obtain ⟨fb_, ha_, H_, hS_⟩ := h5
      clear hI_ h0 h1 h2 h3 h4
      refine op_WL hi_ ha_ ?_
      refine sg 1 [] e1 [(20, v20), (21, v21), (22, v22), (23, v23), (24, v24), (25, v25), (26, v26), (27, v27), (28, v28), (29, v29), (30, v30), (31, v31), (32, v32), (33, v33), (34, v34), (35, v35), (36, v36), (37, v37), (38, v38), (39, v39), (40, v40), (41, v41), (42, v42), (43, v43), (44, v44), (45, v45), (46, v46), (47, v47), (48, v48), (49, v49), (50, v50), (51, v51), (52, v52), (53, v53), (54, v54), (55, v55), (56, v56), (57, v57), (58, v58), (59, v59), (60, (pt g75)), (61, v61), (62, v62), (63, v63), (64, v64), (65, v65), (66, v66), (67, v67), (68, v68), (69, v69), (70, v70), (71, v71), (72, v72), (73, v73), (74, v74), e8, e9, e5, e6, e7, (12, (.int .u64 e3)), (13, (.int .u64 0)), (16, (.agg md0)), e4] (by kernel_rfl) ?_
      refine WL.done rfl ?_
      exact fun fb_ a_ ha_ => ⟨v20, v21, v22, v23, v24, v25, v26, v27, v28, v29, v30, v31, v32, v33, v34, v35, v36, v37, v38, v39, v40, v41, v42, v43, v44, v45, v46, v47, v48, v49, v50, v51, v52, v53, v54, v55, v56, v57, v58, v59, (pt g75), v61, v62, v63, v64, v65, v66, v67, v68, v69, v70, v71, v72, v73, v74, g87, g88, g89, g90, g91, fb_, ha_, (H_.upd 40 (pt g75) rfl), hS_⟩
     ·intro d_ a_ w_ hd_ hj_ hc_ hI_
      have hi_ : 41 < 55 := by decide
      refine ex10 hI_ fun v20 v21 v22 v23 v24 v25 v26 v27 v28 v29 h0 => ex10 h0 fun v30 v31 v32 v33 v34 v35 v36 v37 v38 v39 h1 => ex10 h1 fun v40 v41 v42 v43 v44 v45 v46 v47 v48 v49 h2 => ex10 h2 fun v50 v51 v52 v53 v54 v55 v56 v57 v58 v59 h3 => ex10 h3 fun v60 v61 v62 v63 v64 v65 v66 v67 v68 v69 h4 => ex10 h4 fun v70 v71 v72 v73 v74 g87 g88 g89 g90 g91 h5 => ?_
      obtain ⟨fb_, ha_, H_, hS_⟩ := h5
      clear hI_ h0 h1 h2 h3 h4
      obtain rfl : v60 = (pt g75) := H_ 40 _ rfl (hj_ 40 (memN_iff.1 (by kernel_rfl)))
      refine op_WL hi_ ha_ ?_
      refine seg 1 [.v e25] e1 [(20, v20), (21, v21), (22, v22), (23, v23), (24, v24), (25, v25), (26, v26), (27, v27), (28, v28), (29, v29), (30, v30), (31, v31), (32, v32), (33, v33), (34, v34), (35, v35), (36, v36), (37, v37), (38, v38), (39, v39), (40, v40), (41, v41), (42, v42), (43, v43), (44, v44), (45, v45), (46, v46), (47, v47), (48, v48), (49, v49), (50, v50), (51, v51), (52, v52), (53, v53), (54, v54), (55, v55), (56, v56), (57, v57), (58, v58), (59, v59), (60, (pt g75)), (61, e25), (62, v62), (63, v63), (64, v64), (65, v65), (66, v66), (67, v67), (68, v68), (69, v69), (70, v70), (71, v71), (72, v72), (73, v73), (74, v74), e8, e9, e5, e6, e7, (12, (.int .u64 e3)), (13, (.int .u64 0)), (16, (.agg md0)), e4] [.cell ⟨g75, 0, none⟩ e25] (fun fb => by kernel_rfl) rfl ⟨hS_.cell 9 rfl 0 rfl, trivial⟩ ?_
      refine WL.done rfl ?_
      exact fun fb_ a_ ha_ => ⟨v20, v21, v22, v23, v24, v25, v26, v27, v28, v29, v30, v31, v32, v33, v34, v35, v36, v37, v38, v39, v40, v41, v42, v43, v44, v45, v46, v47, v48, v49, v50, v51, v52, v53, v54, v55, v56, v57, v58, v59, (pt g75), e25, v62, v63, v64, v65, v66, v67, v68, v69, v70, v71, v72, v73, v74, g87, g88, g89, g90, g91, fb_, ha_, (H_.upd 41 e25 rfl), hS_⟩
     ·intro d_ a_ w_ hd_ hj_ hc_ hI_
      have hi_ : 42 < 55 := by decide
      refine ex10 hI_ fun v20 v21 v22 v23 v24 v25 v26 v27 v28 v29 h0 => ex10 h0 fun v30 v31 v32 v33 v34 v35 v36 v37 v38 v39 h1 => ex10 h1 fun v40 v41 v42 v43 v44 v45 v46 v47 v48 v49 h2 => ex10 h2 fun v50 v51 v52 v53 v54 v55 v56 v57 v58 v59 h3 => ex10 h3 fun v60 v61 v62 v63 v64 v65 v66 v67 v68 v69 h4 => ex10 h4 fun v70 v71 v72 v73 v74 g87 g88 g89 g90 g91 h5 => ?_
      obtain ⟨fb_, ha_, H_, hS_⟩ := h5
      clear hI_ h0 h1 h2 h3 h4
      refine op_WL hi_ ha_ ?_
      refine sg 1 [] e1 [(20, v20), (21, v21), (22, v22), (23, v23), (24, v24), (25, v25), (26, v26), (27, v27), (28, v28), (29, v29), (30, v30), (31, v31), (32, v32), (33, v33), (34, v34), (35, v35), (36, v36), (37, v37), (38, v38), (39, v39), (40, v40), (41, v41), (42, v42), (43, v43), (44, v44), (45, v45), (46, v46), (47, v47), (48, v48), (49, v49), (50, v50), (51, v51), (52, v52), (53, v53), (54, v54), (55, v55), (56, v56), (57, v57), (58, v58), (59, v59), (60, v60), (61, v61), (62, (.pointer (some ⟨g6, 1, none⟩))), (63, v63), (64, v64), (65, v65), (66, v66), (67, v67), (68, v68), (69, v69), (70, v70), (71, v71), (72, v72), (73, v73), (74, v74), e8, e9, e5, e6, e7, (12, (.int .u64 e3)), (13, (.int .u64 0)), (16, (.agg md0)), e4] (by kernel_rfl) ?_
      refine WL.done rfl ?_
      exact fun fb_ a_ ha_ => ⟨v20, v21, v22, v23, v24, v25, v26, v27, v28, v29, v30, v31, v32, v33, v34, v35, v36, v37, v38, v39, v40, v41, v42, v43, v44, v45, v46, v47, v48, v49, v50, v51, v52, v53, v54, v55, v56, v57, v58, v59, v60, v61, (.pointer (some ⟨g6, 1, none⟩)), v63, v64, v65, v66, v67, v68, v69, v70, v71, v72, v73, v74, g87, g88, g89, g90, g91, fb_, ha_, (H_.upd 42 (.pointer (some ⟨g6, 1, none⟩)) rfl), hS_⟩
     ·intro d_ a_ w_ hd_ hj_ hc_ hI_
      have hi_ : 43 < 55 := by decide
      refine ex10 hI_ fun v20 v21 v22 v23 v24 v25 v26 v27 v28 v29 h0 => ex10 h0 fun v30 v31 v32 v33 v34 v35 v36 v37 v38 v39 h1 => ex10 h1 fun v40 v41 v42 v43 v44 v45 v46 v47 v48 v49 h2 => ex10 h2 fun v50 v51 v52 v53 v54 v55 v56 v57 v58 v59 h3 => ex10 h3 fun v60 v61 v62 v63 v64 v65 v66 v67 v68 v69 h4 => ex10 h4 fun v70 v71 v72 v73 v74 g87 g88 g89 g90 g91 h5 => ?_
      obtain ⟨fb_, ha_, H_, hS_⟩ := h5
      clear hI_ h0 h1 h2 h3 h4
      obtain rfl : v62 = (.pointer (some ⟨g6, 1, none⟩)) := H_ 42 _ rfl (hj_ 42 (memN_iff.1 (by kernel_rfl)))
      refine op_WL hi_ ha_ ?_
      refine seg 1 [.v e15] e1 [(20, v20), (21, v21), (22, v22), (23, v23), (24, v24), (25, v25), (26, v26), (27, v27), (28, v28), (29, v29), (30, v30), (31, v31), (32, v32), (33, v33), (34, v34), (35, v35), (36, v36), (37, v37), (38, v38), (39, v39), (40, v40), (41, v41), (42, v42), (43, v43), (44, v44), (45, v45), (46, v46), (47, v47), (48, v48), (49, v49), (50, v50), (51, v51), (52, v52), (53, v53), (54, v54), (55, v55), (56, v56), (57, v57), (58, v58), (59, v59), (60, v60), (61, v61), (62, (.pointer (some ⟨g6, 1, none⟩))), (63, e15), (64, v64), (65, v65), (66, v66), (67, v67), (68, v68), (69, v69), (70, v70), (71, v71), (72, v72), (73, v73), (74, v74), e8, e9, e5, e6, e7, (12, (.int .u64 e3)), (13, (.int .u64 0)), (16, (.agg md0)), e4] [.cell ⟨g6, 1, none⟩ e15] (fun fb => by kernel_rfl) rfl ⟨hS_.cell 5 rfl 1 rfl, trivial⟩ ?_
      refine WL.done rfl ?_
      exact fun fb_ a_ ha_ => ⟨v20, v21, v22, v23, v24, v25, v26, v27, v28, v29, v30, v31, v32, v33, v34, v35, v36, v37, v38, v39, v40, v41, v42, v43, v44, v45, v46, v47, v48, v49, v50, v51, v52, v53, v54, v55, v56, v57, v58, v59, v60, v61, (.pointer (some ⟨g6, 1, none⟩)), e15, v64, v65, v66, v67, v68, v69, v70, v71, v72, v73, v74, g87, g88, g89, g90, g91, fb_, ha_, (H_.upd 43 e15 rfl), hS_⟩
     ·intro d_ a_ w_ hd_ hj_ hc_ hI_
      have hi_ : 44 < 55 := by decide
      refine ex10 hI_ fun v20 v21 v22 v23 v24 v25 v26 v27 v28 v29 h0 => ex10 h0 fun v30 v31 v32 v33 v34 v35 v36 v37 v38 v39 h1 => ex10 h1 fun v40 v41 v42 v43 v44 v45 v46 v47 v48 v49 h2 => ex10 h2 fun v50 v51 v52 v53 v54 v55 v56 v57 v58 v59 h3 => ex10 h3 fun v60 v61 v62 v63 v64 v65 v66 v67 v68 v69 h4 => ex10 h4 fun v70 v71 v72 v73 v74 g87 g88 g89 g90 g91 h5 => ?_
      obtain ⟨fb_, ha_, H_, hS_⟩ := h5
      clear hI_ h0 h1 h2 h3 h4
      refine op_WL hi_ ha_ ?_
      refine sg 1 [] e1 [(20, v20), (21, v21), (22, v22), (23, v23), (24, v24), (25, v25), (26, v26), (27, v27), (28, v28), (29, v29), (30, v30), (31, v31), (32, v32), (33, v33), (34, v34), (35, v35), (36, v36), (37, v37), (38, v38), (39, v39), (40, v40), (41, v41), (42, v42), (43, v43), (44, v44), (45, v45), (46, v46), (47, v47), (48, v48), (49, v49), (50, v50), (51, v51), (52, v52), (53, v53), (54, v54), (55, v55), (56, v56), (57, v57), (58, v58), (59, v59), (60, v60), (61, v61), (62, v62), (63, v63), (64, (.pointer (some ⟨g9, 1, none⟩))), (65, v65), (66, v66), (67, v67), (68, v68), (69, v69), (70, v70), (71, v71), (72, v72), (73, v73), (74, v74), e8, e9, e5, e6, e7, (12, (.int .u64 e3)), (13, (.int .u64 0)), (16, (.agg md0)), e4] (by kernel_rfl) ?_
      refine WL.done rfl ?_
      exact fun fb_ a_ ha_ => ⟨v20, v21, v22, v23, v24, v25, v26, v27, v28, v29, v30, v31, v32, v33, v34, v35, v36, v37, v38, v39, v40, v41, v42, v43, v44, v45, v46, v47, v48, v49, v50, v51, v52, v53, v54, v55, v56, v57, v58, v59, v60, v61, v62, v63, (.pointer (some ⟨g9, 1, none⟩)), v65, v66, v67, v68, v69, v70, v71, v72, v73, v74, g87, g88, g89, g90, g91, fb_, ha_, (H_.upd 44 (.pointer (some ⟨g9, 1, none⟩)) rfl), hS_⟩
     ·intro d_ a_ w_ hd_ hj_ hc_ hI_
      have hi_ : 45 < 55 := by decide
      refine ex10 hI_ fun v20 v21 v22 v23 v24 v25 v26 v27 v28 v29 h0 => ex10 h0 fun v30 v31 v32 v33 v34 v35 v36 v37 v38 v39 h1 => ex10 h1 fun v40 v41 v42 v43 v44 v45 v46 v47 v48 v49 h2 => ex10 h2 fun v50 v51 v52 v53 v54 v55 v56 v57 v58 v59 h3 => ex10 h3 fun v60 v61 v62 v63 v64 v65 v66 v67 v68 v69 h4 => ex10 h4 fun v70 v71 v72 v73 v74 g87 g88 g89 g90 g91 h5 => ?_
      obtain ⟨fb_, ha_, H_, hS_⟩ := h5
      clear hI_ h0 h1 h2 h3 h4
      obtain rfl : v64 = (.pointer (some ⟨g9, 1, none⟩)) := H_ 44 _ rfl (hj_ 44 (memN_iff.1 (by kernel_rfl)))
      refine op_WL hi_ ha_ ?_
      refine seg 1 [.v e16] e1 [(20, v20), (21, v21), (22, v22), (23, v23), (24, v24), (25, v25), (26, v26), (27, v27), (28, v28), (29, v29), (30, v30), (31, v31), (32, v32), (33, v33), (34, v34), (35, v35), (36, v36), (37, v37), (38, v38), (39, v39), (40, v40), (41, v41), (42, v42), (43, v43), (44, v44), (45, v45), (46, v46), (47, v47), (48, v48), (49, v49), (50, v50), (51, v51), (52, v52), (53, v53), (54, v54), (55, v55), (56, v56), (57, v57), (58, v58), (59, v59), (60, v60), (61, v61), (62, v62), (63, v63), (64, (.pointer (some ⟨g9, 1, none⟩))), (65, e16), (66, v66), (67, v67), (68, v68), (69, v69), (70, v70), (71, v71), (72, v72), (73, v73), (74, v74), e8, e9, e5, e6, e7, (12, (.int .u64 e3)), (13, (.int .u64 0)), (16, (.agg md0)), e4] [.cell ⟨g9, 1, none⟩ e16] (fun fb => by kernel_rfl) rfl ⟨hS_.cell 6 rfl 1 rfl, trivial⟩ ?_
      refine WL.done rfl ?_
      exact fun fb_ a_ ha_ => ⟨v20, v21, v22, v23, v24, v25, v26, v27, v28, v29, v30, v31, v32, v33, v34, v35, v36, v37, v38, v39, v40, v41, v42, v43, v44, v45, v46, v47, v48, v49, v50, v51, v52, v53, v54, v55, v56, v57, v58, v59, v60, v61, v62, v63, (.pointer (some ⟨g9, 1, none⟩)), e16, v66, v67, v68, v69, v70, v71, v72, v73, v74, g87, g88, g89, g90, g91, fb_, ha_, (H_.upd 45 e16 rfl), hS_⟩
     ·intro d_ a_ w_ hd_ hj_ hc_ hI_
      have hi_ : 46 < 55 := by decide
      refine ex10 hI_ fun v20 v21 v22 v23 v24 v25 v26 v27 v28 v29 h0 => ex10 h0 fun v30 v31 v32 v33 v34 v35 v36 v37 v38 v39 h1 => ex10 h1 fun v40 v41 v42 v43 v44 v45 v46 v47 v48 v49 h2 => ex10 h2 fun v50 v51 v52 v53 v54 v55 v56 v57 v58 v59 h3 => ex10 h3 fun v60 v61 v62 v63 v64 v65 v66 v67 v68 v69 h4 => ex10 h4 fun v70 v71 v72 v73 v74 g87 g88 g89 g90 g91 h5 => ?_
      obtain ⟨fb_, ha_, H_, hS_⟩ := h5
      clear hI_ h0 h1 h2 h3 h4
      refine op_WL hi_ ha_ ?_
      refine sg 1 [] e1 [(20, v20), (21, v21), (22, v22), (23, v23), (24, v24), (25, v25), (26, v26), (27, v27), (28, v28), (29, v29), (30, v30), (31, v31), (32, v32), (33, v33), (34, v34), (35, v35), (36, v36), (37, v37), (38, v38), (39, v39), (40, v40), (41, v41), (42, v42), (43, v43), (44, v44), (45, v45), (46, v46), (47, v47), (48, v48), (49, v49), (50, v50), (51, v51), (52, v52), (53, v53), (54, v54), (55, v55), (56, v56), (57, v57), (58, v58), (59, v59), (60, v60), (61, v61), (62, v62), (63, v63), (64, v64), (65, v65), (66, (.pointer (some ⟨g14, 1, none⟩))), (67, v67), (68, v68), (69, v69), (70, v70), (71, v71), (72, v72), (73, v73), (74, v74), e8, e9, e5, e6, e7, (12, (.int .u64 e3)), (13, (.int .u64 0)), (16, (.agg md0)), e4] (by kernel_rfl) ?_
      refine WL.done rfl ?_
      exact fun fb_ a_ ha_ => ⟨v20, v21, v22, v23, v24, v25, v26, v27, v28, v29, v30, v31, v32, v33, v34, v35, v36, v37, v38, v39, v40, v41, v42, v43, v44, v45, v46, v47, v48, v49, v50, v51, v52, v53, v54, v55, v56, v57, v58, v59, v60, v61, v62, v63, v64, v65, (.pointer (some ⟨g14, 1, none⟩)), v67, v68, v69, v70, v71, v72, v73, v74, g87, g88, g89, g90, g91, fb_, ha_, (H_.upd 46 (.pointer (some ⟨g14, 1, none⟩)) rfl), hS_⟩
     ·intro d_ a_ w_ hd_ hj_ hc_ hI_
      have hi_ : 47 < 55 := by decide
      refine ex10 hI_ fun v20 v21 v22 v23 v24 v25 v26 v27 v28 v29 h0 => ex10 h0 fun v30 v31 v32 v33 v34 v35 v36 v37 v38 v39 h1 => ex10 h1 fun v40 v41 v42 v43 v44 v45 v46 v47 v48 v49 h2 => ex10 h2 fun v50 v51 v52 v53 v54 v55 v56 v57 v58 v59 h3 => ex10 h3 fun v60 v61 v62 v63 v64 v65 v66 v67 v68 v69 h4 => ex10 h4 fun v70 v71 v72 v73 v74 g87 g88 g89 g90 g91 h5 => ?_
      obtain ⟨fb_, ha_, H_, hS_⟩ := h5
      clear hI_ h0 h1 h2 h3 h4
      obtain rfl : v66 = (.pointer (some ⟨g14, 1, none⟩)) := H_ 46 _ rfl (hj_ 46 (memN_iff.1 (by kernel_rfl)))
      refine op_WL hi_ ha_ ?_
      refine seg 1 [.v e17] e1 [(20, v20), (21, v21), (22, v22), (23, v23), (24, v24), (25, v25), (26, v26), (27, v27), (28, v28), (29, v29), (30, v30), (31, v31), (32, v32), (33, v33), (34, v34), (35, v35), (36, v36), (37, v37), (38, v38), (39, v39), (40, v40), (41, v41), (42, v42), (43, v43), (44, v44), (45, v45), (46, v46), (47, v47), (48, v48), (49, v49), (50, v50), (51, v51), (52, v52), (53, v53), (54, v54), (55, v55), (56, v56), (57, v57), (58, v58), (59, v59), (60, v60), (61, v61), (62, v62), (63, v63), (64, v64), (65, v65), (66, (.pointer (some ⟨g14, 1, none⟩))), (67, e17), (68, v68), (69, v69), (70, v70), (71, v71), (72, v72), (73, v73), (74, v74), e8, e9, e5, e6, e7, (12, (.int .u64 e3)), (13, (.int .u64 0)), (16, (.agg md0)), e4] [.cell ⟨g14, 1, none⟩ e17] (fun fb => by kernel_rfl) rfl ⟨hS_.cell 7 rfl 1 rfl, trivial⟩ ?_
      refine WL.done rfl ?_
      exact fun fb_ a_ ha_ => ⟨v20, v21, v22, v23, v24, v25, v26, v27, v28, v29, v30, v31, v32, v33, v34, v35, v36, v37, v38, v39, v40, v41, v42, v43, v44, v45, v46, v47, v48, v49, v50, v51, v52, v53, v54, v55, v56, v57, v58, v59, v60, v61, v62, v63, v64, v65, (.pointer (some ⟨g14, 1, none⟩)), e17, v68, v69, v70, v71, v72, v73, v74, g87, g88, g89, g90, g91, fb_, ha_, (H_.upd 47 e17 rfl), hS_⟩
     ·intro d_ a_ w_ hd_ hj_ hc_ hI_
      have hi_ : 48 < 55 := by decide
      refine ex10 hI_ fun v20 v21 v22 v23 v24 v25 v26 v27 v28 v29 h0 => ex10 h0 fun v30 v31 v32 v33 v34 v35 v36 v37 v38 v39 h1 => ex10 h1 fun v40 v41 v42 v43 v44 v45 v46 v47 v48 v49 h2 => ex10 h2 fun v50 v51 v52 v53 v54 v55 v56 v57 v58 v59 h3 => ex10 h3 fun v60 v61 v62 v63 v64 v65 v66 v67 v68 v69 h4 => ex10 h4 fun v70 v71 v72 v73 v74 g87 g88 g89 g90 g91 h5 => ?_
      obtain ⟨fb_, ha_, H_, hS_⟩ := h5
      clear hI_ h0 h1 h2 h3 h4
      refine op_WL hi_ ha_ ?_
      refine sg 1 [] e1 [(20, v20), (21, v21), (22, v22), (23, v23), (24, v24), (25, v25), (26, v26), (27, v27), (28, v28), (29, v29), (30, v30), (31, v31), (32, v32), (33, v33), (34, v34), (35, v35), (36, v36), (37, v37), (38, v38), (39, v39), (40, v40), (41, v41), (42, v42), (43, v43), (44, v44), (45, v45), (46, v46), (47, v47), (48, v48), (49, v49), (50, v50), (51, v51), (52, v52), (53, v53), (54, v54), (55, v55), (56, v56), (57, v57), (58, v58), (59, v59), (60, v60), (61, v61), (62, v62), (63, v63), (64, v64), (65, v65), (66, v66), (67, v67), (68, (.pointer (some ⟨g17, 1, none⟩))), (69, v69), (70, v70), (71, v71), (72, v72), (73, v73), (74, v74), e8, e9, e5, e6, e7, (12, (.int .u64 e3)), (13, (.int .u64 0)), (16, (.agg md0)), e4] (by kernel_rfl) ?_
      refine WL.done rfl ?_
      exact fun fb_ a_ ha_ => ⟨v20, v21, v22, v23, v24, v25, v26, v27, v28, v29, v30, v31, v32, v33, v34, v35, v36, v37, v38, v39, v40, v41, v42, v43, v44, v45, v46, v47, v48, v49, v50, v51, v52, v53, v54, v55, v56, v57, v58, v59, v60, v61, v62, v63, v64, v65, v66, v67, (.pointer (some ⟨g17, 1, none⟩)), v69, v70, v71, v72, v73, v74, g87, g88, g89, g90, g91, fb_, ha_, (H_.upd 48 (.pointer (some ⟨g17, 1, none⟩)) rfl), hS_⟩
     ·intro d_ a_ w_ hd_ hj_ hc_ hI_
      have hi_ : 49 < 55 := by decide
      refine ex10 hI_ fun v20 v21 v22 v23 v24 v25 v26 v27 v28 v29 h0 => ex10 h0 fun v30 v31 v32 v33 v34 v35 v36 v37 v38 v39 h1 => ex10 h1 fun v40 v41 v42 v43 v44 v45 v46 v47 v48 v49 h2 => ex10 h2 fun v50 v51 v52 v53 v54 v55 v56 v57 v58 v59 h3 => ex10 h3 fun v60 v61 v62 v63 v64 v65 v66 v67 v68 v69 h4 => ex10 h4 fun v70 v71 v72 v73 v74 g87 g88 g89 g90 g91 h5 => ?_
      obtain ⟨fb_, ha_, H_, hS_⟩ := h5
      clear hI_ h0 h1 h2 h3 h4
      obtain rfl : v68 = (.pointer (some ⟨g17, 1, none⟩)) := H_ 48 _ rfl (hj_ 48 (memN_iff.1 (by kernel_rfl)))
      refine op_WL hi_ ha_ ?_
      refine seg 1 [.v e18] e1 [(20, v20), (21, v21), (22, v22), (23, v23), (24, v24), (25, v25), (26, v26), (27, v27), (28, v28), (29, v29), (30, v30), (31, v31), (32, v32), (33, v33), (34, v34), (35, v35), (36, v36), (37, v37), (38, v38), (39, v39), (40, v40), (41, v41), (42, v42), (43, v43), (44, v44), (45, v45), (46, v46), (47, v47), (48, v48), (49, v49), (50, v50), (51, v51), (52, v52), (53, v53), (54, v54), (55, v55), (56, v56), (57, v57), (58, v58), (59, v59), (60, v60), (61, v61), (62, v62), (63, v63), (64, v64), (65, v65), (66, v66), (67, v67), (68, (.pointer (some ⟨g17, 1, none⟩))), (69, e18), (70, v70), (71, v71), (72, v72), (73, v73), (74, v74), e8, e9, e5, e6, e7, (12, (.int .u64 e3)), (13, (.int .u64 0)), (16, (.agg md0)), e4] [.cell ⟨g17, 1, none⟩ e18] (fun fb => by kernel_rfl) rfl ⟨hS_.cell 8 rfl 1 rfl, trivial⟩ ?_
      refine WL.done rfl ?_
      exact fun fb_ a_ ha_ => ⟨v20, v21, v22, v23, v24, v25, v26, v27, v28, v29, v30, v31, v32, v33, v34, v35, v36, v37, v38, v39, v40, v41, v42, v43, v44, v45, v46, v47, v48, v49, v50, v51, v52, v53, v54, v55, v56, v57, v58, v59, v60, v61, v62, v63, v64, v65, v66, v67, (.pointer (some ⟨g17, 1, none⟩)), e18, v70, v71, v72, v73, v74, g87, g88, g89, g90, g91, fb_, ha_, (H_.upd 49 e18 rfl), hS_⟩
     ·intro d_ a_ w_ hd_ hj_ hc_ hI_
      have hi_ : 50 < 55 := by decide
      refine ex10 hI_ fun v20 v21 v22 v23 v24 v25 v26 v27 v28 v29 h0 => ex10 h0 fun v30 v31 v32 v33 v34 v35 v36 v37 v38 v39 h1 => ex10 h1 fun v40 v41 v42 v43 v44 v45 v46 v47 v48 v49 h2 => ex10 h2 fun v50 v51 v52 v53 v54 v55 v56 v57 v58 v59 h3 => ex10 h3 fun v60 v61 v62 v63 v64 v65 v66 v67 v68 v69 h4 => ex10 h4 fun v70 v71 v72 v73 v74 g87 g88 g89 g90 g91 h5 => ?_
      obtain ⟨fb_, ha_, H_, hS_⟩ := h5
      clear hI_ h0 h1 h2 h3 h4
      obtain rfl : v61 = e25 := H_ 41 _ rfl (hj_ 41 (memN_iff.1 (by kernel_rfl)))
      obtain rfl : v63 = e15 := H_ 43 _ rfl (hj_ 43 (memN_iff.1 (by kernel_rfl)))
      obtain rfl : v65 = e16 := H_ 45 _ rfl (hj_ 45 (memN_iff.1 (by kernel_rfl)))
      obtain rfl : v67 = e17 := H_ 47 _ rfl (hj_ 47 (memN_iff.1 (by kernel_rfl)))
      obtain rfl : v69 = e18 := H_ 49 _ rfl (hj_ 49 (memN_iff.1 (by kernel_rfl)))
      refine op_WL hi_ ha_ ?_
      refine WL.new hS_ 70 [] (fun g => (.slice (some ⟨g, 0, none⟩) 5 5)) (.cells #[e25, e15, e16, e17, e18] 3 (0, 0)) [] (fun fb g => by kernel_rfl) trivial (fun g119 w120 hS121 => ?_)
      refine ⟨trivial, ?_⟩
      have hS122 := hS.go w120 [rowO 3 encInt (some ⟨g119, 0, none⟩) 5 e13, sO (d_ 11) (rowO 3 encInt (some ⟨g87, 0, none⟩) 5 e10), sO (d_ 24) (rowO 3 encInt (some ⟨g88, 0, none⟩) 5 e11), sO (d_ 37) (rowO 3 encInt (some ⟨g89, 0, none⟩) 5 e12), sO (d_ 50) (rowO 3 encInt (some ⟨g90, 0, none⟩) 5 e13), sO (d_ 52) (rowO 87 encU64 (some ⟨g91, 0, none⟩) 4 e20), blk g6 (.cells e30 33 (0, 0)), blk g9 (.cells e31 33 (0, 0)), blk g14 (.cells e32 33 (0, 0)), blk g17 (.cells e33 33 (0, 0)), blk g75 (.cells e34 33 (0, 0))] (hS121.map1 0 _ (fun h => rowO.ofBlk h rfl (Nat.le_of_ble_eq_true (by kernel_rfl))) (fun _ h => by obtain ⟨_, h1, h2⟩ := h; injection h1 with h1; subst h1; exact h2) e27 (by decide) (by decide))
      refine WL.reE e1 [(20, v20), (21, v21), (22, v22), (23, v23), (24, v24), (25, v25), (26, v26), (27, v27), (28, v28), (29, v29), (30, v30), (31, v31), (32, v32), (33, v33), (34, v34), (35, v35), (36, v36), (37, v37), (38, v38), (39, v39), (40, v40), (41, v41), (42, v42), (43, v43), (44, v44), (45, v45), (46, v46), (47, v47), (48, v48), (49, v49), (50, v50), (51, v51), (52, v52), (53, v53), (54, v54), (55, v55), (56, v56), (57, v57), (58, v58), (59, v59), (60, v60), (61, e25), (62, v62), (63, e15), (64, v64), (65, e16), (66, v66), (67, e17), (68, v68), (69, e18), (70, (.slice (some ⟨g119, 0, none⟩) e13.length 5)), (71, v71), (72, v72), (73, v73), (74, v74), e8, e9, e5, e6, e7, (12, (.int .u64 e3)), (13, (.int .u64 0)), (16, (.agg md0)), e4] [(20, v20), (21, v21), (22, v22), (23, v23), (24, v24), (25, v25), (26, v26), (27, v27), (28, v28), (29, v29), (30, v30), (31, v31), (32, v32), (33, v33), (34, v34), (35, v35), (36, v36), (37, v37), (38, v38), (39, v39), (40, v40), (41, v41), (42, v42), (43, v43), (44, v44), (45, v45), (46, v46), (47, v47), (48, v48), (49, v49), (50, v50), (51, v51), (52, v52), (53, v53), (54, v54), (55, v55), (56, v56), (57, v57), (58, v58), (59, v59), (60, v60), (61, e25), (62, v62), (63, e15), (64, v64), (65, e16), (66, v66), (67, e17), (68, v68), (69, e18), (70, (.slice (some ⟨g119, 0, none⟩) e13.length 5)), (71, v71), (72, v72), (73, v73), (74, v74), e8, e9, e5, e6, e7, (12, (.int .u64 e3)), (13, (.int .u64 0)), (16, (.agg md0)), e4] rfl rfl ?_
      refine WL.done rfl ?_
      exact fun fb_ a_ ha_ => ⟨v20, v21, v22, v23, v24, v25, v26, v27, v28, v29, v30, v31, v32, v33, v34, v35, v36, v37, v38, v39, v40, v41, v42, v43, v44, v45, v46, v47, v48, v49, v50, v51, v52, v53, v54, v55, v56, v57, v58, v59, v60, e25, v62, e15, v64, e16, v66, e17, v68, e18, (sv (some ⟨g119, 0, none⟩) e13 5), v71, v72, v73, v74, g87, g88, g89, g119, g91, fb_, ha_, (H_.upd 50 (sv (some ⟨g119, 0, none⟩) e13 5) rfl), (hS122.sub [1, 2, 3, 0, 5, 6, 7, 8, 9, 10] (by decide))⟩
     ·intro d_ a_ w_ hd_ hj_ hc_ hI_
      have hi_ : 51 < 55 := by decide
      refine ex10 hI_ fun v20 v21 v22 v23 v24 v25 v26 v27 v28 v29 h0 => ex10 h0 fun v30 v31 v32 v33 v34 v35 v36 v37 v38 v39 h1 => ex10 h1 fun v40 v41 v42 v43 v44 v45 v46 v47 v48 v49 h2 => ex10 h2 fun v50 v51 v52 v53 v54 v55 v56 v57 v58 v59 h3 => ex10 h3 fun v60 v61 v62 v63 v64 v65 v66 v67 v68 v69 h4 => ex10 h4 fun v70 v71 v72 v73 v74 g87 g88 g89 g90 g91 h5 => ?_
      obtain ⟨fb_, ha_, H_, hS_⟩ := h5
      clear hI_ h0 h1 h2 h3 h4
      obtain rfl : v59 = (.int .u64 e3) := H_ 39 _ rfl (hj_ 39 (memN_iff.1 (by kernel_rfl)))
      obtain rfl : v70 = (sv (some ⟨g90, 0, none⟩) e13 5) := H_ 50 _ rfl (hj_ 50 (memN_iff.1 (by kernel_rfl)))
      have e50_ : d_ 50 = true := hj_ 50 (memN_iff.1 (by kernel_rfl))
      rw [e50_] at hS_
      refine op_WL hi_ ha_ ?_
      refine WL.call (some 71) 63 #[(.int .u64 e3), (iv (-1)), (sv (some ⟨g90, 0, none⟩) e13 5)] (fun fb => by kernel_rfl) (weight_product_calls _ e3 (-1) e13 (some ⟨g90, 0, none⟩) 5 t123 _ (hS_.ow 3).ofO ht124) (fun v w125 hR126 => ?_)
      obtain ⟨rfl, hk_⟩ := hR126
      have hS127 := hS_.keepN hk_
      refine ⟨trivial, ?_⟩
      refine WL.reE e1 [(20, v20), (21, v21), (22, v22), (23, v23), (24, v24), (25, v25), (26, v26), (27, v27), (28, v28), (29, v29), (30, v30), (31, v31), (32, v32), (33, v33), (34, v34), (35, v35), (36, v36), (37, v37), (38, v38), (39, v39), (40, v40), (41, v41), (42, v42), (43, v43), (44, v44), (45, v45), (46, v46), (47, v47), (48, v48), (49, v49), (50, v50), (51, v51), (52, v52), (53, v53), (54, v54), (55, v55), (56, v56), (57, v57), (58, v58), (59, (.int .u64 e3)), (60, v60), (61, v61), (62, v62), (63, v63), (64, v64), (65, v65), (66, v66), (67, v67), (68, v68), (69, v69), (70, (.slice (some ⟨g90, 0, none⟩) e13.length 5)), (71, (.int .u64 t123)), (72, v72), (73, v73), (74, v74), e8, e9, e5, e6, e7, (12, (.int .u64 e3)), (13, (.int .u64 0)), (16, (.agg md0)), e4] [(20, v20), (21, v21), (22, v22), (23, v23), (24, v24), (25, v25), (26, v26), (27, v27), (28, v28), (29, v29), (30, v30), (31, v31), (32, v32), (33, v33), (34, v34), (35, v35), (36, v36), (37, v37), (38, v38), (39, v39), (40, v40), (41, v41), (42, v42), (43, v43), (44, v44), (45, v45), (46, v46), (47, v47), (48, v48), (49, v49), (50, v50), (51, v51), (52, v52), (53, v53), (54, v54), (55, v55), (56, v56), (57, v57), (58, v58), (59, (.int .u64 e3)), (60, v60), (61, v61), (62, v62), (63, v63), (64, v64), (65, v65), (66, v66), (67, v67), (68, v68), (69, v69), (70, (.slice (some ⟨g90, 0, none⟩) e13.length 5)), (71, (.int .u64 t123)), (72, v72), (73, v73), (74, v74), e8, e9, e5, e6, e7, (12, (.int .u64 e3)), (13, (.int .u64 0)), (16, (.agg md0)), e4] rfl rfl ?_
      refine WL.done rfl ?_
      exact fun fb_ a_ ha_ => ⟨v20, v21, v22, v23, v24, v25, v26, v27, v28, v29, v30, v31, v32, v33, v34, v35, v36, v37, v38, v39, v40, v41, v42, v43, v44, v45, v46, v47, v48, v49, v50, v51, v52, v53, v54, v55, v56, v57, v58, (.int .u64 (getI [2305843009213693951, 2305843009213693921, 2305843009213693907] x78)), v60, v61, v62, v63, v64, v65, v66, v67, v68, v69, (.slice (some ⟨g90, 0, none⟩) [p4.Num, p0.Den, p1.Den, p2.Den, p3.Den].length 5), (.int .u64 t123), v72, v73, v74, g87, g88, g89, g90, g91, fb_, ha_, (H_.upd 51 (.int .u64 t123) rfl), (by rw [show upd d_ 51 50 = true from e50_]; exact hS127)⟩
     ·intro d_ a_ w_ hd_ hj_ hc_ hI_
      have hi_ : 52 < 55 := by decide
      refine ex10 hI_ fun v20 v21 v22 v23 v24 v25 v26 v27 v28 v29 h0 => ex10 h0 fun v30 v31 v32 v33 v34 v35 v36 v37 v38 v39 h1 => ex10 h1 fun v40 v41 v42 v43 v44 v45 v46 v47 v48 v49 h2 => ex10 h2 fun v50 v51 v52 v53 v54 v55 v56 v57 v58 v59 h3 => ex10 h3 fun v60 v61 v62 v63 v64 v65 v66 v67 v68 v69 h4 => ex10 h4 fun v70 v71 v72 v73 v74 g87 g88 g89 g90 g91 h5 => ?_
      obtain ⟨fb_, ha_, H_, hS_⟩ := h5
      clear hI_ h0 h1 h2 h3 h4
      obtain rfl : v32 = (.int .u64 t96) := H_ 12 _ rfl (hj_ 12 (memN_iff.1 (by kernel_rfl)))
      obtain rfl : v45 = (.int .u64 t105) := H_ 25 _ rfl (hj_ 25 (memN_iff.1 (by kernel_rfl)))
      obtain rfl : v58 = (.int .u64 t114) := H_ 38 _ rfl (hj_ 38 (memN_iff.1 (by kernel_rfl)))
      obtain rfl : v71 = (.int .u64 t123) := H_ 51 _ rfl (hj_ 51 (memN_iff.1 (by kernel_rfl)))
      refine op_WL hi_ ha_ ?_
      refine WL.new hS_ 72 [] (fun g => (.slice (some ⟨g, 0, none⟩) 4 4)) (.cells #[(.int .u64 t96), (.int .u64 t105), (.int .u64 t114), (.int .u64 t123)] 87 (0, 0)) [] (fun fb g => by kernel_rfl) trivial (fun g128 w129 hS130 => ?_)
      refine ⟨trivial, ?_⟩
      have hS131 := hS.go w129 [rowO 87 encU64 (some ⟨g128, 0, none⟩) 4 e20, sO (d_ 11) (rowO 3 encInt (some ⟨g87, 0, none⟩) 5 e10), sO (d_ 24) (rowO 3 encInt (some ⟨g88, 0, none⟩) 5 e11), sO (d_ 37) (rowO 3 encInt (some ⟨g89, 0, none⟩) 5 e12), sO (d_ 50) (rowO 3 encInt (some ⟨g90, 0, none⟩) 5 e13), sO (d_ 52) (rowO 87 encU64 (some ⟨g91, 0, none⟩) 4 e20), blk g6 (.cells e30 33 (0, 0)), blk g9 (.cells e31 33 (0, 0)), blk g14 (.cells e32 33 (0, 0)), blk g17 (.cells e33 33 (0, 0)), blk g75 (.cells e34 33 (0, 0))] (hS130.map1 0 _ (fun h => rowO.ofBlk h rfl (Nat.le_of_ble_eq_true (by kernel_rfl))) (fun _ h => by obtain ⟨_, h1, h2⟩ := h; injection h1 with h1; subst h1; exact h2) e27 (by decide) (by decide))
      refine WL.reE e1 [(20, v20), (21, v21), (22, v22), (23, v23), (24, v24), (25, v25), (26, v26), (27, v27), (28, v28), (29, v29), (30, v30), (31, v31), (32, (.int .u64 t96)), (33, v33), (34, v34), (35, v35), (36, v36), (37, v37), (38, v38), (39, v39), (40, v40), (41, v41), (42, v42), (43, v43), (44, v44), (45, (.int .u64 t105)), (46, v46), (47, v47), (48, v48), (49, v49), (50, v50), (51, v51), (52, v52), (53, v53), (54, v54), (55, v55), (56, v56), (57, v57), (58, (.int .u64 t114)), (59, v59), (60, v60), (61, v61), (62, v62), (63, v63), (64, v64), (65, v65), (66, v66), (67, v67), (68, v68), (69, v69), (70, v70), (71, (.int .u64 t123)), (72, (.slice (some ⟨g128, 0, none⟩) e20.length 4)), (73, v73), (74, v74), e8, e9, e5, e6, e7, (12, (.int .u64 e3)), (13, (.int .u64 0)), (16, (.agg md0)), e4] [(20, v20), (21, v21), (22, v22), (23, v23), (24, v24), (25, v25), (26, v26), (27, v27), (28, v28), (29, v29), (30, v30), (31, v31), (32, (.int .u64 t96)), (33, v33), (34, v34), (35, v35), (36, v36), (37, v37), (38, v38), (39, v39), (40, v40), (41, v41), (42, v42), (43, v43), (44, v44), (45, (.int .u64 t105)), (46, v46), (47, v47), (48, v48), (49, v49), (50, v50), (51, v51), (52, v52), (53, v53), (54, v54), (55, v55), (56, v56), (57, v57), (58, (.int .u64 t114)), (59, v59), (60, v60), (61, v61), (62, v62), (63, v63), (64, v64), (65, v65), (66, v66), (67, v67), (68, v68), (69, v69), (70, v70), (71, (.int .u64 t123)), (72, (.slice (some ⟨g128, 0, none⟩) e20.length 4)), (73, v73), (74, v74), e8, e9, e5, e6, e7, (12, (.int .u64 e3)), (13, (.int .u64 0)), (16, (.agg md0)), e4] rfl rfl ?_
      refine WL.done rfl ?_
      exact fun fb_ a_ ha_ => ⟨v20, v21, v22, v23, v24, v25, v26, v27, v28, v29, v30, v31, (.int .u64 t96), v33, v34, v35, v36, v37, v38, v39, v40, v41, v42, v43, v44, (.int .u64 t105), v46, v47, v48, v49, v50, v51, v52, v53, v54, v55, v56, v57, (.int .u64 t114), v59, v60, v61, v62, v63, v64, v65, v66, v67, v68, v69, v70, (.int .u64 t123), (sv (some ⟨g128, 0, none⟩) e20 4), v73, v74, g87, g88, g89, g90, g128, fb_, ha_, (H_.upd 52 (sv (some ⟨g128, 0, none⟩) e20 4) rfl), (hS131.sub [1, 2, 3, 4, 0, 6, 7, 8, 9, 10] (by decide))⟩
     ·intro d_ a_ w_ hd_ hj_ hc_ hI_
      have hi_ : 53 < 55 := by decide
      refine ex10 hI_ fun v20 v21 v22 v23 v24 v25 v26 v27 v28 v29 h0 => ex10 h0 fun v30 v31 v32 v33 v34 v35 v36 v37 v38 v39 h1 => ex10 h1 fun v40 v41 v42 v43 v44 v45 v46 v47 v48 v49 h2 => ex10 h2 fun v50 v51 v52 v53 v54 v55 v56 v57 v58 v59 h3 => ex10 h3 fun v60 v61 v62 v63 v64 v65 v66 v67 v68 v69 h4 => ex10 h4 fun v70 v71 v72 v73 v74 g87 g88 g89 g90 g91 h5 => ?_
      obtain ⟨fb_, ha_, H_, hS_⟩ := h5
      clear hI_ h0 h1 h2 h3 h4
      obtain rfl : v72 = (sv (some ⟨g91, 0, none⟩) e20 4) := H_ 52 _ rfl (hj_ 52 (memN_iff.1 (by kernel_rfl)))
      refine op_WL hi_ ha_ ?_
      refine sg 1 [] e1 [(20, v20), (21, v21), (22, v22), (23, v23), (24, v24), (25, v25), (26, v26), (27, v27), (28, v28), (29, v29), (30, v30), (31, v31), (32, v32), (33, v33), (34, v34), (35, v35), (36, v36), (37, v37), (38, v38), (39, v39), (40, v40), (41, v41), (42, v42), (43, v43), (44, v44), (45, v45), (46, v46), (47, v47), (48, v48), (49, v49), (50, v50), (51, v51), (52, v52), (53, v53), (54, v54), (55, v55), (56, v56), (57, v57), (58, v58), (59, v59), (60, v60), (61, v61), (62, v62), (63, v63), (64, v64), (65, v65), (66, v66), (67, v67), (68, v68), (69, v69), (70, v70), (71, v71), (72, (sv (some ⟨g91, 0, none⟩) e20 4)), (73, e35), (74, v74), e8, e9, e5, e6, e7, (12, (.int .u64 e3)), (13, (.int .u64 0)), (16, (.agg md0)), e4] (by kernel_rfl) ?_
      refine WL.done rfl ?_
      exact fun fb_ a_ ha_ => ⟨v20, v21, v22, v23, v24, v25, v26, v27, v28, v29, v30, v31, v32, v33, v34, v35, v36, v37, v38, v39, v40, v41, v42, v43, v44, v45, v46, v47, v48, v49, v50, v51, v52, v53, v54, v55, v56, v57, v58, v59, v60, v61, v62, v63, v64, v65, v66, v67, v68, v69, v70, v71, (sv (some ⟨g91, 0, none⟩) e20 4), e35, v74, g87, g88, g89, g90, g91, fb_, ha_, (H_.upd 53 e35 rfl), hS_⟩
     ·intro d_ a_ w_ hd_ hj_ hc_ hI_
      have hi_ : 54 < 55 := by decide
      refine ex10 hI_ fun v20 v21 v22 v23 v24 v25 v26 v27 v28 v29 h0 => ex10 h0 fun v30 v31 v32 v33 v34 v35 v36 v37 v38 v39 h1 => ex10 h1 fun v40 v41 v42 v43 v44 v45 v46 v47 v48 v49 h2 => ex10 h2 fun v50 v51 v52 v53 v54 v55 v56 v57 v58 v59 h3 => ex10 h3 fun v60 v61 v62 v63 v64 v65 v66 v67 v68 v69 h4 => ex10 h4 fun v70 v71 v72 v73 v74 g87 g88 g89 g90 g91 h5 => ?_
      obtain ⟨fb_, ha_, H_, hS_⟩ := h5
      clear hI_ h0 h1 h2 h3 h4
      refine op_WL hi_ ha_ ?_
      refine sg 1 [] e1 [(20, v20), (21, v21), (22, v22), (23, v23), (24, v24), (25, v25), (26, v26), (27, v27), (28, v28), (29, v29), (30, v30), (31, v31), (32, v32), (33, v33), (34, v34), (35, v35), (36, v36), (37, v37), (38, v38), (39, v39), (40, v40), (41, v41), (42, v42), (43, v43), (44, v44), (45, v45), (46, v46), (47, v47), (48, v48), (49, v49), (50, v50), (51, v51), (52, v52), (53, v53), (54, v54), (55, v55), (56, v56), (57, v57), (58, v58), (59, v59), (60, v60), (61, v61), (62, v62), (63, v63), (64, v64), (65, v65), (66, v66), (67, v67), (68, v68), (69, v69), (70, v70), (71, v71), (72, v72), (73, v73), (74, (iv 0)), e8, e9, e5, e6, e7, (12, (.int .u64 e3)), (13, (.int .u64 0)), (16, (.agg md0)), e4] (by kernel_rfl) ?_
      refine WL.done rfl ?_
      exact fun fb_ a_ ha_ => ⟨v20, v21, v22, v23, v24, v25, v26, v27, v28, v29, v30, v31, v32, v33, v34, v35, v36, v37, v38, v39, v40, v41, v42, v43, v44, v45, v46, v47, v48, v49, v50, v51, v52, v53, v54, v55, v56, v57, v58, v59, v60, v61, v62, v63, v64, v65, v66, v67, v68, v69, v70, v71, v72, v73, (iv 0), g87, g88, g89, g90, g91, fb_, ha_, (H_.upd 54 (iv 0) rfl), hS_⟩
    intro d_ a_ w132 hd_ hI_
    refine ex10 hI_ fun v20 v21 v22 v23 v24 v25 v26 v27 v28 v29 h0 => ex10 h0 fun v30 v31 v32 v33 v34 v35 v36 v37 v38 v39 h1 => ex10 h1 fun v40 v41 v42 v43 v44 v45 v46 v47 v48 v49 h2 => ex10 h2 fun v50 v51 v52 v53 v54 v55 v56 v57 v58 v59 h3 => ex10 h3 fun v60 v61 v62 v63 v64 v65 v66 v67 v68 v69 h4 => ex10 h4 fun v70 v71 v72 v73 v74 g87 g88 g89 g90 g91 h5 => ?_
    obtain ⟨fb_, ha_, H_, hS_⟩ := h5
    clear hI_ h0 h1 h2 h3 h4
    obtain rfl : v20 = (.int .u64 e3) := H_ 0 _ rfl (hd_ 0 (by decide))
    obtain rfl : v21 = (pt g6) := H_ 1 _ rfl (hd_ 1 (by decide))
    obtain rfl : v22 = e21 := H_ 2 _ rfl (hd_ 2 (by decide))
    obtain rfl : v23 = (pt g9) := H_ 3 _ rfl (hd_ 3 (by decide))
    obtain rfl : v24 = e22 := H_ 4 _ rfl (hd_ 4 (by decide))
    obtain rfl : v25 = (.pointer (some ⟨g14, 1, none⟩)) := H_ 5 _ rfl (hd_ 5 (by decide))
    obtain rfl : v26 = e17 := H_ 6 _ rfl (hd_ 6 (by decide))
    obtain rfl : v27 = (.pointer (some ⟨g17, 1, none⟩)) := H_ 7 _ rfl (hd_ 7 (by decide))
    obtain rfl : v28 = e18 := H_ 8 _ rfl (hd_ 8 (by decide))
    obtain rfl : v29 = (.pointer (some ⟨g75, 1, none⟩)) := H_ 9 _ rfl (hd_ 9 (by decide))
    obtain rfl : v30 = e19 := H_ 10 _ rfl (hd_ 10 (by decide))
    obtain rfl : v31 = (sv (some ⟨g87, 0, none⟩) e10 5) := H_ 11 _ rfl (hd_ 11 (by decide))
    obtain rfl : v32 = (.int .u64 t96) := H_ 12 _ rfl (hd_ 12 (by decide))
    obtain rfl : v33 = (.int .u64 e3) := H_ 13 _ rfl (hd_ 13 (by decide))
    obtain rfl : v34 = (pt g14) := H_ 14 _ rfl (hd_ 14 (by decide))
    obtain rfl : v35 = e23 := H_ 15 _ rfl (hd_ 15 (by decide))
    obtain rfl : v36 = (.pointer (some ⟨g6, 1, none⟩)) := H_ 16 _ rfl (hd_ 16 (by decide))
    obtain rfl : v37 = e15 := H_ 17 _ rfl (hd_ 17 (by decide))
    obtain rfl : v38 = (.pointer (some ⟨g9, 1, none⟩)) := H_ 18 _ rfl (hd_ 18 (by decide))
    obtain rfl : v39 = e16 := H_ 19 _ rfl (hd_ 19 (by decide))
    obtain rfl : v40 = (.pointer (some ⟨g17, 1, none⟩)) := H_ 20 _ rfl (hd_ 20 (by decide))
    obtain rfl : v41 = e18 := H_ 21 _ rfl (hd_ 21 (by decide))
    obtain rfl : v42 = (.pointer (some ⟨g75, 1, none⟩)) := H_ 22 _ rfl (hd_ 22 (by decide))
    obtain rfl : v43 = e19 := H_ 23 _ rfl (hd_ 23 (by decide))
    obtain rfl : v44 = (sv (some ⟨g88, 0, none⟩) e11 5) := H_ 24 _ rfl (hd_ 24 (by decide))
    obtain rfl : v45 = (.int .u64 t105) := H_ 25 _ rfl (hd_ 25 (by decide))
    obtain rfl : v46 = (.int .u64 e3) := H_ 26 _ rfl (hd_ 26 (by decide))
    obtain rfl : v47 = (pt g17) := H_ 27 _ rfl (hd_ 27 (by decide))
    obtain rfl : v48 = e24 := H_ 28 _ rfl (hd_ 28 (by decide))
    obtain rfl : v49 = (.pointer (some ⟨g6, 1, none⟩)) := H_ 29 _ rfl (hd_ 29 (by decide))
    obtain rfl : v50 = e15 := H_ 30 _ rfl (hd_ 30 (by decide))
    obtain rfl : v51 = (.pointer (some ⟨g9, 1, none⟩)) := H_ 31 _ rfl (hd_ 31 (by decide))
    obtain rfl : v52 = e16 := H_ 32 _ rfl (hd_ 32 (by decide))
    obtain rfl : v53 = (.pointer (some ⟨g14, 1, none⟩)) := H_ 33 _ rfl (hd_ 33 (by decide))
    obtain rfl : v54 = e17 := H_ 34 _ rfl (hd_ 34 (by decide))
    obtain rfl : v55 = (.pointer (some ⟨g75, 1, none⟩)) := H_ 35 _ rfl (hd_ 35 (by decide))
    obtain rfl : v56 = e19 := H_ 36 _ rfl (hd_ 36 (by decide))
    obtain rfl : v57 = (sv (some ⟨g89, 0, none⟩) e12 5) := H_ 37 _ rfl (hd_ 37 (by decide))
    obtain rfl : v58 = (.int .u64 t114) := H_ 38 _ rfl (hd_ 38 (by decide))
    obtain rfl : v59 = (.int .u64 e3) := H_ 39 _ rfl (hd_ 39 (by decide))
    obtain rfl : v60 = (pt g75) := H_ 40 _ rfl (hd_ 40 (by decide))
    obtain rfl : v61 = e25 := H_ 41 _ rfl (hd_ 41 (by decide))
    obtain rfl : v62 = (.pointer (some ⟨g6, 1, none⟩)) := H_ 42 _ rfl (hd_ 42 (by decide))
    obtain rfl : v63 = e15 := H_ 43 _ rfl (hd_ 43 (by decide))
    obtain rfl : v64 = (.pointer (some ⟨g9, 1, none⟩)) := H_ 44 _ rfl (hd_ 44 (by decide))
    obtain rfl : v65 = e16 := H_ 45 _ rfl (hd_ 45 (by decide))
    obtain rfl : v66 = (.pointer (some ⟨g14, 1, none⟩)) := H_ 46 _ rfl (hd_ 46 (by decide))
    obtain rfl : v67 = e17 := H_ 47 _ rfl (hd_ 47 (by decide))
    obtain rfl : v68 = (.pointer (some ⟨g17, 1, none⟩)) := H_ 48 _ rfl (hd_ 48 (by decide))
    obtain rfl : v69 = e18 := H_ 49 _ rfl (hd_ 49 (by decide))
    obtain rfl : v70 = (sv (some ⟨g90, 0, none⟩) e13 5) := H_ 50 _ rfl (hd_ 50 (by decide))
    obtain rfl : v71 = (.int .u64 t123) := H_ 51 _ rfl (hd_ 51 (by decide))
    obtain rfl : v72 = (sv (some ⟨g91, 0, none⟩) e20 4) := H_ 52 _ rfl (hd_ 52 (by decide))
    obtain rfl : v73 = e35 := H_ 53 _ rfl (hd_ 53 (by decide))
    obtain rfl : v74 = (iv 0) := H_ 54 _ rfl (hd_ 54 (by decide))
    have e11_ := hd_ 11 (by decide)
    have e24_ := hd_ 24 (by decide)
    have e37_ := hd_ 37 (by decide)
    have e50_ := hd_ 50 (by decide)
    have e52_ := hd_ 52 (by decide)
    rw [e11_, e24_, e37_, e50_, e52_] at hS_
    have hS133 := hS.go w132 [rowO 3 encInt (some ⟨g87, 0, none⟩) 5 e10, rowO 3 encInt (some ⟨g88, 0, none⟩) 5 e11, rowO 3 encInt (some ⟨g89, 0, none⟩) 5 e12, rowO 3 encInt (some ⟨g90, 0, none⟩) 5 e13, rowO 87 encU64 (some ⟨g91, 0, none⟩) 4 e20, blk g6 (.cells e30 33 (0, 0)), blk g9 (.cells e31 33 (0, 0)), blk g14 (.cells e32 33 (0, 0)), blk g17 (.cells e33 33 (0, 0)), blk g75 (.cells e34 33 (0, 0))] (hS_)
    refine (show WX _ .normal 87 [e8, e9, e5, e6, e7, (12, (.int .u64 e3)), (13, (.int .u64 0)), (16, (.agg md0)), e4, (72, (sv (some ⟨g91, 0, none⟩) e20 4)), (73, e35), (74, (iv 0))] w132 from ?_) _ _ (ha_.picked (show pick _ e26 = some [e8, e9, e5, e6, e7, (12, (.int .u64 e3)), (13, (.int .u64 0)), (16, (.agg md0)), e4, (72, (sv (some ⟨g91, 0, none⟩) e20 4)), (73, e35), (74, (iv 0))] from rfl))
    refine WX.next ?_
    obtain ⟨x136, hx137, hl84⟩ := bind_some hl84
    let e14 := e20
    let e28 : Nat × Value := (73, (iv (e14.length : Int)))
    refine WC.cutN (T := Int) (fun t => [e8, e9, e5, e6, e7, (13, (.int .u64 t)), (16, (.agg md0)), e4]) (fun t w1 => St NoS w w1 [tabO 0 md0] [blk g6 (.cells e30 33 (0, 0)), blk g9 (.cells e31 33 (0, 0)), blk g14 (.cells e32 33 (0, 0)), blk g17 (.cells e33 33 (0, 0)), blk g75 (.cells e34 33 (0, 0))] ∧ x136 = t) (fun Kx136 => ?_) ?_
    ·
     refine WC.block ?_
     refine WC.loop (T := Int × Int) (fun t => [e8, e9, e5, e6, e7, (12, (.int .u64 e3)), (13, (.int .u64 t.1)), (16, (.agg md0)), e4, (72, (sv (some ⟨g91, 0, none⟩) e14 4)), e28, (74, (iv t.2))]) (fun n t w1 => St NoS w w1 [tabO 0 md0] [blk g6 (.cells e30 33 (0, 0)), blk g9 (.cells e31 33 (0, 0)), blk g14 (.cells e32 33 (0, 0)), blk g17 (.cells e33 33 (0, 0)), blk g75 (.cells e34 33 (0, 0)), rowO 87 encU64 (some ⟨g91, 0, none⟩) 4 e14] ∧ weight_balanced.l1 n t.1 t.2 x78 t96 t105 t114 t123 = some x136) k81 (0, 0) e26 rfl ⟨(hS133.subR [0]).sub [5, 6, 7, 8, 9, 4] (by decide), hx137⟩ ?_
     rintro k138 ⟨x134, x135⟩ w139 ⟨hS140, hl141⟩
     let e29 := rdD e14 x135 0
     cases k138 with
     | zero => rw [weight_balanced.l1] at hl141; cases hl141
     | succ k138 =>
      rw [weight_balanced.l1] at hl141
      refine WC.seq (WC.region ?_)
      refine sg 1 [] [5, 6, 7, 8, 9, 12, 13, 16, 17, 72, 73, 74, 75] [e8, e9, e5, e6, e7, (12, (.int .u64 e3)), (13, (.int .u64 x134)), (16, (.agg md0)), e4, (72, (sv (some ⟨g91, 0, none⟩) e14 4)), e28, (74, (iv x135)), (75, (bv (decide (x135 < (e14.length : Int)))))] (by kernel_rfl) ?_
      refine WL.done rfl (WX.next (WC.seq ?_))
      rcases br_some hl141 with ⟨h142, hl141⟩ | ⟨h142, hl141⟩
      ·refine WC.condT2 (fun fb => by kernel_rfl) h142 ?_
       refine WC.skip (WX.next (WC.seq (WC.block (WC.seq (WC.region ?_)))))
       obtain ⟨h143, hl141⟩ := as_some hl141
       refine seg 3 [.v (.int .u64 e29)] [5, 6, 7, 8, 9, 12, 13, 15, 16, 17, 72, 73, 74] [e8, e9, e5, e6, e7, (12, (.int .u64 e3)), (13, (.int .u64 x134)), (15, (.int .u64 e29)), (16, (.agg md0)), e4, (72, (sv (some ⟨g91, 0, none⟩) e14 4)), e28, (74, (iv x135))] [.idx (some ⟨g91, 0, none⟩) x135 e14.length, .cell ((adr (some ⟨g91, 0, none⟩)).add ((x135).toNat * 1)) (.int .u64 e29)] (fun fb => by kernel_rfl) rfl ⟨rowR.adr (rowO.rd (hS140.own 5).1) h143.1 h143.2, rowR.cell (rowO.rd (hS140.own 5).1) 0 h143.1 h143.2 0 rfl, trivial⟩ ?_
       refine WL.done rfl (WX.next (WC.region ?_))
       refine sg 4 [] [5, 6, 7, 8, 9, 12, 16, 17, 72, 73, 74, 80, 81] [e8, e9, e5, e6, e7, (12, (.int .u64 e3)), (16, (.agg md0)), e4, (72, (sv (some ⟨g91, 0, none⟩) e14 4)), e28, (74, (iv x135)), (80, (.int .u64 (IntKind.wrap .u64 (x134 + e29)))), (81, (.int .u64 e3))] (by kernel_rfl) ?_
       obtain ⟨h144, hl141⟩ := as_some hl141
       refine seg 6 [] e26 [e8, e9, e5, e6, e7, (12, (.int .u64 e3)), (13, (.int .u64 (Int.tmod (IntKind.wrap .u64 (x134 + e29)) e3))), (16, (.agg md0)), e4, (72, (sv (some ⟨g91, 0, none⟩) e14 4)), e28, (74, (iv x135))] [.ne e3] (fun fb => by kernel_rfl) rfl ⟨h144, trivial⟩ ?_
       refine WL.done rfl ?_
       refine WX.blockN (WX.next ?_)
       refine WC.region ?_
       refine sg 2 [] e26 [e8, e9, e5, e6, e7, (12, (.int .u64 e3)), (13, (.int .u64 (Int.tmod (IntKind.wrap .u64 (x134 + e29)) e3))), (16, (.agg md0)), e4, (72, (sv (some ⟨g91, 0, none⟩) e14 4)), e28, (74, (iv (w64 (x135 + 1))))] (by kernel_rfl) ?_
       refine WL.done rfl ?_
       exact WX.again k138 (Nat.lt_succ_self _) (Int.tmod (IntKind.wrap .u64 (x134 + e29)) e3, w64 (x135 + 1)) e26 rfl ⟨(hS140.subR [0]).sub [0, 1, 2, 3, 4, 5] (by decide), hl141⟩
      refine WC.condF2 (fun fb => by kernel_rfl) h142 ?_
      refine WC.exit ?_
      injection hl141 with hl141
      exact WX.thenX (WX.thenX (WX.blockHere (WX.to Kx136 x134 [5, 6, 7, 8, 9, 13, 16, 17] rfl ⟨(hS140.subR [0]).sub [0, 1, 2, 3, 4] (by decide), hl141.symm⟩)))
    rintro y148 w145 ⟨hS146, hq147⟩
    subst hq147
    refine WX.next (WC.seq (WC.region ?_))
    refine sg 2 [] [5, 6, 7, 8, 9, 16, 17, 85] [e8, e9, e5, e6, e7, (16, (.agg md0)), e4, (85, (bv (x136 != 0)))] (by kernel_rfl) ?_
    refine WL.done rfl (WX.next ?_)
    rcases br_some hl84 with ⟨h149, hl84⟩ | ⟨h149, hl84⟩
    ·refine WC.condT2 (fun fb => by kernel_rfl) h149 ?_
     refine WC.seq (WC.region ?_)
     refine sg 1 [] [10] [(10, (bv false))] (by kernel_rfl) ?_
     refine WL.done rfl (WX.next ?_)
     refine WC.ret ?_
     injection hl84 with hl84
     subst hl84
     injection hf with hf
     subst hf
     exact WX.blockR (WX.thenR (WX.thenR (WX.blockR (WX.thenR (WX.ret_ [] (bv false) [] (fun fb => by kernel_rfl) trivial ⟨_, rfl, rfl, hS146.keep⟩)))))
    refine WC.condF2 (fun fb => by kernel_rfl) h149 ?_
    refine WC.skip ?_
    refine WX.blockN (WX.next ?_)
    refine WC.region ?_
    refine sg 2 [] [5, 6, 7, 8, 9, 16, 17] [e8, e9, e5, e6, e7, (16, (.agg md0)), (17, (iv (w64 (x78 + 1))))] (by kernel_rfl) ?_
    refine WL.done rfl ?_
    exact WX.again k81 (Nat.lt_succ_self _) (w64 (x78 + 1)) [5, 6, 7, 8, 9, 16, 17] rfl ⟨(hS146.subR [0]).sub [0, 1, 2, 3, 4] (by decide), hl84⟩
   refine WC.condF2 (fun fb => by kernel_rfl) h85 ?_
   refine WC.exit ?_
   injection hl84 with hl84
   exact WX.thenX (WX.thenX (WX.blockHere (WX.to Kx79 () [] rfl ⟨(hS83.subR [0]).sub [] (by decide), hl84.symm⟩)))
 rintro y153 w150 ⟨hS151, hq152⟩
 subst hq152
 have hf := sum_inr hf
 refine WX.next (WC.seq (WC.region ?_))
 refine sg 1 [] [10] [(10, (bv true))] (by kernel_rfl) ?_
 refine WL.done rfl (WX.next ?_)
 refine WC.ret ?_
 injection hf with hf
 subst hf
 exact WX.ret_ [] (bv true) [] (fun fb => by kernel_rfl) trivial ⟨_, rfl, rfl, hS151.keep⟩
theorem weight_Check_1_calls (k : Nat) (f0 : List Tile) (f1 : Weights) (ga : Nat) (Aa : Option Addr) (ca : Nat) (gb : Nat) (Ab : Option Addr) (cb : Nat) (Ac : Option Addr) (cc : Nat) (Ad : Option Addr) (cd : Nat) (Ae : Option Addr) (ce : Nat) (Af : Option Addr) (cf : Nat) (r : Bool) (w : World) (hR0 : RO NoS w (blk ga (.cells #[(sv Aa f0 ca)] 22 (0, 0)))) (hR1 : RO NoS w (rowR enc_Tile Aa ca f0)) (hR2 : RO NoS w (blk gb (.cells #[(sv Ab f1.Values cb), (sv Ac f1.Carries cc), (sv Ad f1.Factors cd), (sv Ae f1.Primes ce), (sv Af f1.Logs cf)] 26 (0, 0)))) (hR3 : RO NoS w (rowR enc_Frac Ab cb f1.Values)) (hR4 : RO NoS w (rowR enc_Frac Ac cc f1.Carries)) (hR5 : RO NoS w (rowR enc_Frac Ad cd f1.Factors)) (hR6 : RO NoS w (rowR encInt Ae ce f1.Primes)) (hR7 : RO NoS w (rowR encInt Af cf f1.Logs)) (hR8 : RO NoS w (tabO 0 md0)) (hf : weight_Check_1 k f0 f1 = some r) :
  CallsR Tryz.prog 27 #[(pt ga), (pt gb)] w (fun v w' => v = (bv r) ∧ Keeps NoS w w') := by
 have hS : St NoS w w [blk ga (.cells #[(sv Aa f0 ca)] 22 (0, 0)), rowR enc_Tile Aa ca f0, blk gb (.cells #[(sv Ab f1.Values cb), (sv Ac f1.Carries cc), (sv Ad f1.Factors cd), (sv Ae f1.Primes ce), (sv Af f1.Logs cf)] 26 (0, 0)), rowR enc_Frac Ab cb f1.Values, rowR enc_Frac Ac cc f1.Carries, rowR enc_Frac Ad cd f1.Factors, rowR encInt Ae ce f1.Primes, rowR encInt Af cf f1.Logs, tabO 0 md0] [] := St.init (ro_cons hR0 (ro_cons hR1 (ro_cons hR2 (ro_cons hR3 (ro_cons hR4 (ro_cons hR5 (ro_cons hR6 (ro_cons hR7 (ro_cons hR8 (ro_nil _ _))))))))))
 refine enter 44 Tryz.func27 rfl Tryz.ntmps27 rfl ?_
 unfold weight_Check_1 at hf
 refine WC.seq (WC.region ?_)
 refine sg 1 [] [0, 1] [(0, (pt ga)), (1, (pt gb))] (by kernel_rfl) ?_
 refine WL.done rfl (WX.next (WC.seq (WC.seq (WC.region ?_))))
 refine seg 3 [.v (sv Aa f0 ca)] [1, 5, 6, 7] [(1, (pt gb)), (5, (sv Aa f0 ca)), (6, (iv (f0.length : Int))), (7, (iv 0))] [.cell ⟨ga, 0, none⟩ (sv Aa f0 ca)] (fun fb => by kernel_rfl) rfl ⟨blk_cell (hS.rd 0).1 0 rfl, trivial⟩ ?_
 refine WL.done rfl (WX.next ?_)
 obtain ⟨x10, hx11, hf⟩ := bind_some hf
 let e7 : Nat × Value := (6, (iv (f0.length : Int)))
 let e8 := sv Ac f1.Carries cc
 let e9 := sv Ab f1.Values cb
 let e10 : Nat × Value := (5, (sv Aa f0 ca))
 let e18 := sv Ad f1.Factors cd
 let e19 : Nat × Value := (1, (pt gb))
 let e20 : Array Value := #[e9, e8, e18, (sv Ae f1.Primes ce), (sv Af f1.Logs cf)]
 refine WC.cutN (T := Unit) (fun t => []) (fun t w1 => St NoS w w1 [blk ga (.cells #[(sv Aa f0 ca)] 22 (0, 0)), rowR enc_Tile Aa ca f0, blk gb (.cells e20 26 (0, 0)), rowR enc_Frac Ab cb f1.Values, rowR enc_Frac Ac cc f1.Carries, rowR enc_Frac Ad cd f1.Factors, rowR encInt Ae ce f1.Primes, rowR encInt Af cf f1.Logs, tabO 0 md0] [] ∧ x10 = .inr t) (fun Kx10 => ?_) ?_
 ·
  refine WC.block ?_
  refine WC.loop (T := Int) (fun t => [e19, e10, e7, (7, (iv t))]) (fun n t w1 => St NoS w w1 [blk ga (.cells #[(sv Aa f0 ca)] 22 (0, 0)), rowR enc_Tile Aa ca f0, blk gb (.cells e20 26 (0, 0)), rowR enc_Frac Ab cb f1.Values, rowR enc_Frac Ac cc f1.Carries, rowR enc_Frac Ad cd f1.Factors, rowR encInt Ae ce f1.Primes, rowR encInt Af cf f1.Logs, tabO 0 md0] [] ∧ weight_Check_1.l0 n t f0 f1 = some x10) k 0 [1, 5, 6, 7] rfl ⟨(hS.subR [0, 1, 2, 3, 4, 5, 6, 7, 8]).sub [] (by decide), hx11⟩ ?_
  rintro k12 x9 w13 ⟨hS14, hl15⟩
  let e1 := rdD f0 x9 z_Tile
  let e2 := rdD f1.Carries (e1.W) z_Frac
  let e3 := rdD f1.Carries (e1.E) z_Frac
  let e4 := rdD f1.Values (e1.S) z_Frac
  let e5 := rdD f1.Values (e1.N) z_Frac
  let e6 := rdD f1.Factors x9 z_Frac
  let e11 : Array Value := #[(iv (e1.N)), (iv (e1.E)), (iv (e1.S)), (iv (e1.W))]
  let e12 := (adr Ab).add ((e1.S).toNat * 2)
  let e13 := (adr Ac).add ((e1.W).toNat * 2)
  let e14 := (adr Ab).add ((e1.N).toNat * 2)
  let e15 := (adr Ac).add ((e1.E).toNat * 2)
  let e16 := (adr Aa).add ((x9).toNat * 4)
  let e17 := (adr Ad).add ((x9).toNat * 2)
  cases k12 with
  | zero => rw [weight_Check_1.l0] at hl15; cases hl15
  | succ k12 =>
   rw [weight_Check_1.l0] at hl15
   refine WC.seq (WC.region ?_)
   refine sg 1 [] [1, 5, 6, 7, 8] [e19, e10, e7, (7, (iv x9)), (8, (bv (decide (x9 < (f0.length : Int)))))] (by kernel_rfl) ?_
   refine WL.done rfl (WX.next (WC.seq ?_))
   rcases br_some hl15 with ⟨h16, hl15⟩ | ⟨h16, hl15⟩
   ·refine WC.condT2 (fun fb => by kernel_rfl) h16 ?_
    refine WC.skip (WX.next (WC.seq (WC.block (WC.seq (WC.region ?_)))))
    refine sg 1 [] [1, 5, 6, 7, 9] [e19, e10, e7, (7, (iv x9)), (9, (iv x9))] (by kernel_rfl) ?_
    obtain ⟨h17, hl15⟩ := as_some hl15
    refine seg 3 [.v (iv (e1.N)), .v (iv (e1.E)), .v (iv (e1.S)), .v (iv (e1.W))] [1, 5, 6, 7, 9, 11] [e19, e10, e7, (7, (iv x9)), (9, (iv x9)), (11, (.agg e11))] [.idx Aa x9 f0.length, .cell e16 (iv (e1.N)), .cell (e16.add 1) (iv (e1.E)), .cell (e16.add 2) (iv (e1.S)), .cell (e16.add 3) (iv (e1.W))] (fun fb => by kernel_rfl) rfl ⟨rowR.adr (hS14.rd 1).1 h17.1 h17.2, rowR.cell (hS14.rd 1).1 z_Tile h17.1 h17.2 0 rfl, rowR.cell (hS14.rd 1).1 z_Tile h17.1 h17.2 1 rfl, rowR.cell (hS14.rd 1).1 z_Tile h17.1 h17.2 2 rfl, rowR.cell (hS14.rd 1).1 z_Tile h17.1 h17.2 3 rfl, trivial⟩ ?_
    refine WL.new hS14 4 [] (fun g => (pt g)) (.cells #[(iv 0), (iv 0), (iv 0), (iv 0)] 44 (0, 0)) [] (fun fb g => by kernel_rfl) trivial (fun g18 w19 hS20 => ?_)
    refine ⟨trivial, ?_⟩
    refine sg 5 [] [1, 3, 4, 5, 6, 7, 11] [e19, (3, (iv x9)), (4, (pt g18)), e10, e7, (7, (iv x9)), (11, (.agg e11))] (by kernel_rfl) ?_
    refine WL.store hS20 0 rfl [(0, (iv (e1.N))), (1, (iv (e1.E))), (2, (iv (e1.S))), (3, (iv (e1.W)))] e11 (fun fb => by kernel_rfl) (by kernel_rfl) rfl [] (by decide) (by decide) (fun w21 hS22 => ?_)
    refine ⟨trivial, ?_⟩
    refine WL.done rfl (WX.next (WC.seq ?_))
    obtain ⟨h25, hl15⟩ := as_some hl15
    obtain ⟨h26, hl15⟩ := as_some hl15
    obtain ⟨h28, hl15⟩ := as_some hl15
    obtain ⟨h29, hl15⟩ := as_some hl15
    obtain ⟨h30, hl15⟩ := as_some hl15
    refine WC.regionD ([(1, ⟨gb, 2, none⟩, e18), (4, e17, (iv (e6.Num))), (4, (e17.add 1), (iv (e6.Den))), (6, ⟨gb, 0, none⟩, e9), (8, ⟨g18, 2, none⟩, (iv (e1.S))), (10, e12, (iv (e4.Num))), (10, (e12.add 1), (iv (e4.Den))), (12, ⟨gb, 1, none⟩, e8), (14, ⟨g18, 3, none⟩, (iv (e1.W))), (16, e13, (iv (e2.Num))), (16, (e13.add 1), (iv (e2.Den))), (18, ⟨gb, 0, none⟩, e9), (20, ⟨g18, 0, none⟩, (iv (e1.N))), (22, e14, (iv (e5.Num))), (22, (e14.add 1), (iv (e5.Den))), (24, ⟨gb, 1, none⟩, e8), (26, ⟨g18, 1, none⟩, (iv (e1.E))), (28, e15, (iv (e3.Num))), (28, (e15.add 1), (iv (e3.Den)))], [0, 1, 2, 3, 4, 5, 6, 7, 8, 9, 10, 11, 12, 13, 14, 15, 16, 17, 18, 19, 20, 21, 22, 23, 24, 25, 26, 27, 28, 30], [[], [0], [], [0, 1, 2], [0, 1, 2, 3], [], [5], [], [7], [5, 6, 7, 8], [5, 6, 7, 8, 9], [], [11], [], [13], [11, 12, 13, 14], [11, 12, 13, 14, 15], [], [17], [], [19], [17, 18, 19, 20], [17, 18, 19, 20, 21], [], [23], [], [25], [23, 24, 25, 26], [23, 24, 25, 26, 27], [0, 1, 2, 3, 4, 5, 6, 7, 8, 9, 10, 11, 12, 13, 14, 15, 16, 17, 18, 19, 20, 21, 22, 23, 24, 25, 26, 27, 28], [0, 1, 2, 3, 4, 5, 6, 7, 8, 9, 10, 11, 12, 13, 14, 15, 16, 17, 18, 19, 20, 21, 22, 23, 24, 25, 26, 27, 28, 29]]) [[0, 1, 2, 3, 4, 5, 6, 7, 8, 9, 10, 11, 12, 13, 14, 15, 16, 17, 18, 19, 20, 21, 22, 23, 24, 25, 26, 27, 28, 29, 30]] (by kernel_rfl) (by kernel_rfl) (NoPanic.seq (NoPanic.block (NoPanic.seq (NoPanic.seq (NoPanic.block (NoPanic.seq (NoPanic.body))))))) ?_
    have hS24 := hS22.drew
    revert hS24
    generalize World.drew w21 = w23
    intro hS24
    refine ⟨⟨blk_cell (hS24.rd 2).1 2 rfl, rowR.cell (hS24.rd 5).1 z_Frac h25.1 h25.2 0 rfl, rowR.cell (hS24.rd 5).1 z_Frac h25.1 h25.2 1 rfl, blk_cell (hS24.rd 2).1 0 rfl, hS24.cell 0 rfl 2 rfl, rowR.cell (hS24.rd 3).1 z_Frac h26.1 h26.2 0 rfl, rowR.cell (hS24.rd 3).1 z_Frac h26.1 h26.2 1 rfl, blk_cell (hS24.rd 2).1 1 rfl, hS24.cell 0 rfl 3 rfl, rowR.cell (hS24.rd 4).1 z_Frac h28.1 h28.2 0 rfl, rowR.cell (hS24.rd 4).1 z_Frac h28.1 h28.2 1 rfl, blk_cell (hS24.rd 2).1 0 rfl, hS24.cell 0 rfl 0 rfl, rowR.cell (hS24.rd 3).1 z_Frac h29.1 h29.2 0 rfl, rowR.cell (hS24.rd 3).1 z_Frac h29.1 h29.2 1 rfl, blk_cell (hS24.rd 2).1 1 rfl, hS24.cell 0 rfl 1 rfl, rowR.cell (hS24.rd 4).1 z_Frac h30.1 h30.2 0 rfl, rowR.cell (hS24.rd 4).1 z_Frac h30.1 h30.2 1 rfl, trivial⟩, forallC ?_ (forallN)⟩
    refine segF 29 [.v e18, .v (iv (e6.Num)), .v (iv (e6.Den)), .v e9, .v (iv (e1.S)), .v (iv (e4.Num)), .v (iv (e4.Den)), .v e8, .v (iv (e1.W)), .v (iv (e2.Num)), .v (iv (e2.Den)), .v e9, .v (iv (e1.N)), .v (iv (e5.Num)), .v (iv (e5.Den)), .v e8, .v (iv (e1.E)), .v (iv (e3.Num)), .v (iv (e3.Den))] [1, 5, 6, 7, 16, 22, 28, 34, 40] [e19, e10, e7, (7, (iv x9)), (16, (.agg #[(iv (e6.Num)), (iv (e6.Den))])), (22, (.agg #[(iv (e4.Num)), (iv (e4.Den))])), (28, (.agg #[(iv (e2.Num)), (iv (e2.Den))])), (34, (.agg #[(iv (e5.Num)), (iv (e5.Den))])), (40, (.agg #[(iv (e3.Num)), (iv (e3.Den))]))] [.idx Ad x9 f1.Factors.length, .idx Ab (e1.S) f1.Values.length, .idx Ac (e1.W) f1.Carries.length, .idx Ab (e1.N) f1.Values.length, .idx Ac (e1.E) f1.Carries.length] [0, 1, 2, 3, 4, 5, 6, 7, 8, 9, 10, 11, 12, 13, 14, 15, 16, 17, 18] [(1, ⟨gb, 2, none⟩, e18), (4, e17, (iv (e6.Num))), (4, (e17.add 1), (iv (e6.Den))), (6, ⟨gb, 0, none⟩, e9), (8, ⟨g18, 2, none⟩, (iv (e1.S))), (10, e12, (iv (e4.Num))), (10, (e12.add 1), (iv (e4.Den))), (12, ⟨gb, 1, none⟩, e8), (14, ⟨g18, 3, none⟩, (iv (e1.W))), (16, e13, (iv (e2.Num))), (16, (e13.add 1), (iv (e2.Den))), (18, ⟨gb, 0, none⟩, e9), (20, ⟨g18, 0, none⟩, (iv (e1.N))), (22, e14, (iv (e5.Num))), (22, (e14.add 1), (iv (e5.Den))), (24, ⟨gb, 1, none⟩, e8), (26, ⟨g18, 1, none⟩, (iv (e1.E))), (28, e15, (iv (e3.Num))), (28, (e15.add 1), (iv (e3.Den)))] (fun fb => by kernel_rfl) rfl ⟨rowR.adr (hS24.rd 5).1 h25.1 h25.2, rowR.adr (hS24.rd 3).1 h26.1 h26.2, rowR.adr (hS24.rd 4).1 h28.1 h28.2, rowR.adr (hS24.rd 3).1 h29.1 h29.2, rowR.adr (hS24.rd 4).1 h30.1 h30.2, trivial⟩ rfl ?_
    obtain ⟨t31, ht32, hl15⟩ := bind_some hl15
    refine WL.call (some 41) 28 #[(.agg #[(iv (e6.Num)), (iv (e6.Den))]), (.agg #[(iv (e4.Num)), (iv (e4.Den))]), (.agg #[(iv (e2.Num)), (iv (e2.Den))]), (.agg #[(iv (e5.Num)), (iv (e5.Den))]), (.agg #[(iv (e3.Num)), (iv (e3.Den))])] (fun fb => by kernel_rfl) (weight_balanced_calls _ e6 e4 e2 e5 e3 t31 _ (hS24.rd 8) ht32) (fun v w33 hR34 => ?_)
    obtain ⟨rfl, hk_⟩ := hR34
    have hS35 := hS24.keepN hk_
    refine ⟨trivial, ?_⟩
    refine sg 31 [] [1, 5, 6, 7, 42] [e19, e10, e7, (7, (iv x9)), (42, (bv (!t31)))] (by kernel_rfl) ?_
    refine WL.done rfl (WX.next ?_)
    rcases br_some hl15 with ⟨h36, hl15⟩ | ⟨h36, hl15⟩
    ·refine WC.condT2 (fun fb => by kernel_rfl) h36 ?_
     refine WC.seq (WC.region ?_)
     refine sg 1 [] [2] [(2, (bv false))] (by kernel_rfl) ?_
     refine WL.done rfl (WX.next ?_)
     refine WC.ret ?_
     injection hl15 with hl15
     subst hl15
     injection hf with hf
     subst hf
     exact WX.blockR (WX.thenR (WX.thenR (WX.blockR (WX.thenR (WX.ret_ [] (bv false) [] (fun fb => by kernel_rfl) trivial ⟨_, rfl, rfl, hS35.keep⟩)))))
    refine WC.condF2 (fun fb => by kernel_rfl) h36 ?_
    refine WC.skip ?_
    refine WX.blockN (WX.next ?_)
    refine WC.region ?_
    refine sg 2 [] [1, 5, 6, 7] [e19, e10, e7, (7, (iv (w64 (x9 + 1))))] (by kernel_rfl) ?_
    refine WL.done rfl ?_
    exact WX.again k12 (Nat.lt_succ_self _) (w64 (x9 + 1)) [1, 5, 6, 7] rfl ⟨(hS35.subR [0, 1, 2, 3, 4, 5, 6, 7, 8]).sub [] (by decide), hl15⟩
   refine WC.condF2 (fun fb => by kernel_rfl) h16 ?_
   refine WC.exit ?_
   injection hl15 with hl15
   exact WX.thenX (WX.thenX (WX.blockHere (WX.to Kx10 () [] rfl ⟨(hS14.subR [0, 1, 2, 3, 4, 5, 6, 7, 8]).sub [] (by decide), hl15.symm⟩)))
 rintro y40 w37 ⟨hS38, hq39⟩
 subst hq39
 have hf := sum_inr hf
 refine WX.next (WC.seq (WC.region ?_))
 refine sg 1 [] [2] [(2, (bv true))] (by kernel_rfl) ?_
 refine WL.done rfl (WX.next ?_)
 refine WC.ret ?_
 injection hf with hf
 subst hf
 exact WX.ret_ [] (bv true) [] (fun fb => by kernel_rfl) trivial ⟨_, rfl, rfl, hS38.keep⟩
theorem weight_equal_calls (p0 : Frac) (p1 : Frac)  (r : Bool) (w : World)  (hf : weight_equal p0 p1 = some r) :
  CallsR Tryz.prog 30 #[(.agg #[(iv p0.Num), (iv p0.Den)]), (.agg #[(iv p1.Num), (iv p1.Den)])] w (fun v w' => v = (bv r) ∧ Keeps NoS w w') := by
 have hS : St NoS w w [] [] := St.init (ro_nil _ _)
 refine enter 16 Tryz.func30 rfl Tryz.ntmps30 rfl ?_
 unfold weight_equal at hf
 refine WC.seq (WC.region ?_)
 refine WL.new hS 2 [] (fun g => (pt g)) (.cells #[(iv p0.Num), (iv p0.Den)] 33 (0, 0)) [] (fun fb g => by kernel_rfl) trivial (fun g2 w3 hS4 => ?_)
 refine ⟨trivial, ?_⟩
 refine WL.new hS4 3 [] (fun g => (pt g)) (.cells #[(iv p1.Num), (iv p1.Den)] 33 (0, 0)) [] (fun fb g => by kernel_rfl) trivial (fun g5 w6 hS7 => ?_)
 refine ⟨trivial, ?_⟩
 refine sg 3 [] [2, 3] [(2, (pt g2)), (3, (pt g5))] (by kernel_rfl) ?_
 refine WL.done rfl (WX.next (WC.seq (WC.region ?_)))
 refine seg 12 [.v (iv p0.Num), .v (iv p1.Den), .v (iv p1.Num), .v (iv p0.Den)] [4] [(4, (bv ((w64 (p0.Num * p1.Den)) == (w64 (p1.Num * p0.Den)))))] [.cell ⟨g2, 0, none⟩ (iv p0.Num), .cell ⟨g5, 1, none⟩ (iv p1.Den), .cell ⟨g5, 0, none⟩ (iv p1.Num), .cell ⟨g2, 1, none⟩ (iv p0.Den)] (fun fb => by kernel_rfl) rfl ⟨hS7.cell 1 rfl 0 rfl, hS7.cell 0 rfl 1 rfl, hS7.cell 0 rfl 0 rfl, hS7.cell 1 rfl 1 rfl, trivial⟩ ?_
 refine WL.done rfl (WX.next ?_)
 refine WC.ret ?_
 injection hf with hf
 subst hf
 exact WX.ret_ [] (bv ((w64 (p0.Num * p1.Den)) == (w64 (p1.Num * p0.Den)))) [] (fun fb => by kernel_rfl) trivial ⟨_, rfl, rfl, hS7.keep⟩
end Gp
