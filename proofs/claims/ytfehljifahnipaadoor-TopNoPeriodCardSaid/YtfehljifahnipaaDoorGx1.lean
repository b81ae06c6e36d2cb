/- Walks: each function of the program computes its plain function. -/
import Derived.Test.YtfehljifahnipaaDoorGx0
set_option linter.unusedVariables false
set_option linter.unusedSimpArgs false
set_option maxHeartbeats 4000000
set_option maxRecDepth 8000
namespace Gp
open Go Gw Go.Proofs
theorem weight_balanced_calls (k : Nat) (p0 : Frac) (p1 : Frac) (p2 : Frac) (p3 : Frac) (p4 : Frac)  (r : Bool) (w : World) (hR0 : RO NoS w (tabO 0 #[(.int .u64 2305843009213693951), (.int .u64 2305843009213693921), (.int .u64 2305843009213693907)])) (hf : weight_balanced k p0 p1 p2 p3 p4 = some r) :
  CallsR Tryd.prog 11 #[(.agg #[(iv p0.Num), (iv p0.Den)]), (.agg #[(iv p1.Num), (iv p1.Den)]), (.agg #[(iv p2.Num), (iv p2.Den)]), (.agg #[(iv p3.Num), (iv p3.Den)]), (.agg #[(iv p4.Num), (iv p4.Den)])] w (fun v w' => v = (bv r) ∧ Keeps NoS w w') := by
 have hS : St NoS w w [tabO 0 #[(.int .u64 2305843009213693951), (.int .u64 2305843009213693921), (.int .u64 2305843009213693907)]] [] := St.init (ro_cons hR0 (ro_nil _ _))
 refine enter 87 Tryd.func11 rfl Tryd.ntmps11 rfl ?_
 unfold weight_balanced at hf
 refine WC.seq (WC.region ?_)
 refine WL.new hS 5 [] (fun g => (pt g)) (.cells #[(iv p0.Num), (iv p0.Den)] 36 (0, 0)) [] (fun fb g => by kernel_rfl) trivial (fun g6 w7 hS8 => ?_)
 refine ⟨trivial, ?_⟩
 refine WL.new hS8 6 [] (fun g => (pt g)) (.cells #[(iv p1.Num), (iv p1.Den)] 36 (0, 0)) [] (fun fb g => by kernel_rfl) trivial (fun g9 w12 hS13 => ?_)
 refine ⟨trivial, ?_⟩
 refine WL.new hS13 7 [] (fun g => (pt g)) (.cells #[(iv p2.Num), (iv p2.Den)] 36 (0, 0)) [] (fun fb g => by kernel_rfl) trivial (fun g14 w15 hS16 => ?_)
 refine ⟨trivial, ?_⟩
 refine WL.new hS16 8 [] (fun g => (pt g)) (.cells #[(iv p3.Num), (iv p3.Den)] 36 (0, 0)) [] (fun fb g => by kernel_rfl) trivial (fun g17 w18 hS19 => ?_)
 refine ⟨trivial, ?_⟩
 refine WL.new hS19 9 [] (fun g => (pt g)) (.cells #[(iv p4.Num), (iv p4.Den)] 36 (0, 0)) [] (fun fb g => by kernel_rfl) trivial (fun g75 w76 hS77 => ?_)
 refine ⟨trivial, ?_⟩
 refine seg 6 [] [5, 6, 7, 8, 9] [(5, (pt g6)), (6, (pt g9)), (7, (pt g14)), (8, (pt g17)), (9, (pt g75))] [] (fun fb => by kernel_rfl) rfl trivial ?_
 refine WL.done rfl (WX.next (WC.seq (WC.seq (WC.region ?_))))
 refine seg 2 [.v (.int .u64 2305843009213693951), .v (.int .u64 2305843009213693921), .v (.int .u64 2305843009213693907)] [5, 6, 7, 8, 9, 16, 17] [(5, (pt g6)), (6, (pt g9)), (7, (pt g14)), (8, (pt g17)), (9, (pt g75)), (16, (.agg #[(.int .u64 2305843009213693951), (.int .u64 2305843009213693921), (.int .u64 2305843009213693907)])), (17, (iv 0))] [.cell ⟨0, 0, none⟩ (.int .u64 2305843009213693951), .cell ⟨0, 1, none⟩ (.int .u64 2305843009213693921), .cell ⟨0, 2, none⟩ (.int .u64 2305843009213693907)] (fun fb => by kernel_rfl) rfl ⟨tab_cell (hS77.rd 0).1 0 rfl, tab_cell (hS77.rd 0).1 1 rfl, tab_cell (hS77.rd 0).1 2 rfl, trivial⟩ ?_
 refine WL.done rfl (WX.next ?_)
 obtain ⟨x79, hx80, hf⟩ := bind_some hf
 refine WC.cutN (T := Unit) (fun t => []) (fun t w1 => St NoS w w1 [tabO 0 #[(.int .u64 2305843009213693951), (.int .u64 2305843009213693921), (.int .u64 2305843009213693907)]] [] ∧ x79 = .inr t) (fun Kx79 => ?_) ?_
 ·
  refine WC.block ?_
  refine WC.loop (T := Int) (fun t => [(5, (pt g6)), (6, (pt g9)), (7, (pt g14)), (8, (pt g17)), (9, (pt g75)), (16, (.agg #[(.int .u64 2305843009213693951), (.int .u64 2305843009213693921), (.int .u64 2305843009213693907)])), (17, (iv t))]) (fun n t w1 => St NoS w w1 [tabO 0 #[(.int .u64 2305843009213693951), (.int .u64 2305843009213693921), (.int .u64 2305843009213693907)]] [blk g6 (.cells #[(iv p0.Num), (iv p0.Den)] 36 (0, 0)), blk g9 (.cells #[(iv p1.Num), (iv p1.Den)] 36 (0, 0)), blk g14 (.cells #[(iv p2.Num), (iv p2.Den)] 36 (0, 0)), blk g17 (.cells #[(iv p3.Num), (iv p3.Den)] 36 (0, 0)), blk g75 (.cells #[(iv p4.Num), (iv p4.Den)] 36 (0, 0))] ∧ weight_balanced.l0 n t p0 p1 p2 p3 p4 = some x79) k 0 [5, 6, 7, 8, 9, 16, 17] rfl ⟨(hS77.subR [0]).sub [4, 3, 2, 1, 0] (by decide), hx80⟩ ?_
  rintro k81 x78 w82 ⟨hS83, hl84⟩
  cases k81 with
  | zero => rw [weight_balanced.l0] at hl84; cases hl84
  | succ k81 =>
   rw [weight_balanced.l0] at hl84
   refine WC.seq (WC.region ?_)
   refine seg 1 [] [5, 6, 7, 8, 9, 16, 17, 18] [(5, (pt g6)), (6, (pt g9)), (7, (pt g14)), (8, (pt g17)), (9, (pt g75)), (16, (.agg #[(.int .u64 2305843009213693951), (.int .u64 2305843009213693921), (.int .u64 2305843009213693907)])), (17, (iv x78)), (18, (bv (decide (x78 < 3))))] [] (fun fb => by kernel_rfl) rfl trivial ?_
   refine WL.done rfl (WX.next (WC.seq ?_))
   rcases br_some hl84 with ⟨h85, hl84⟩ | ⟨h85, hl84⟩
   ·refine WC.condT2 (fun fb => by kernel_rfl) h85 ?_
    refine WC.skip (WX.next (WC.seq (WC.block (WC.seq (WC.region ?_)))))
    obtain ⟨h86, hl84⟩ := as_some hl84
    refine seg 2 [] [5, 6, 7, 8, 9, 12, 16, 17] [(5, (pt g6)), (6, (pt g9)), (7, (pt g14)), (8, (pt g17)), (9, (pt g75)), (12, (.int .u64 (getI [2305843009213693951, 2305843009213693921, 2305843009213693907] x78))), (16, (.agg #[(.int .u64 2305843009213693951), (.int .u64 2305843009213693921), (.int .u64 2305843009213693907)])), (17, (iv x78))] [.idx (some ⟨0, 0, none⟩) x78 3] (fun fb => by kernel_rfl) rfl ⟨⟨h86.1, h86.2, rfl⟩, trivial⟩ ?_
    refine WL.done rfl (WX.next (WC.seq (WC.region ?_)))
    refine seg 1 [] [5, 6, 7, 8, 9, 12, 13, 16, 17] [(5, (pt g6)), (6, (pt g9)), (7, (pt g14)), (8, (pt g17)), (9, (pt g75)), (12, (.int .u64 (getI [2305843009213693951, 2305843009213693921, 2305843009213693907] x78))), (13, (.int .u64 0)), (16, (.agg #[(.int .u64 2305843009213693951), (.int .u64 2305843009213693921), (.int .u64 2305843009213693907)])), (17, (iv x78))] [] (fun fb => by kernel_rfl) rfl trivial ?_
    refine WL.done rfl (WX.next (WC.seq (WC.seq ?_)))
    obtain ⟨t96, ht97, hl84⟩ := bind_some hl84
    obtain ⟨t105, ht106, hl84⟩ := bind_some hl84
    obtain ⟨t114, ht115, hl84⟩ := bind_some hl84
    obtain ⟨t123, ht124, hl84⟩ := bind_some hl84
    refine WC.regionJ (fun d_ a_ w_ => ∃ (v20_ v21_ v22_ v23_ v24_ v25_ v26_ v27_ v28_ v29_ v30_ v31_ v32_ v33_ v34_ v35_ v36_ v37_ v38_ v39_ v40_ v41_ v42_ v43_ v44_ v45_ v46_ v47_ v48_ v49_ v50_ v51_ v52_ v53_ v54_ v55_ v56_ v57_ v58_ v59_ v60_ v61_ v62_ v63_ v64_ v65_ v66_ v67_ v68_ v69_ v70_ v71_ v72_ v73_ v74_ : Value) (g87 g88 g89 g90 g91 : Nat) (fb_ : Operand → Value), Has 87 [(20, v20_), (21, v21_), (22, v22_), (23, v23_), (24, v24_), (25, v25_), (26, v26_), (27, v27_), (28, v28_), (29, v29_), (30, v30_), (31, v31_), (32, v32_), (33, v33_), (34, v34_), (35, v35_), (36, v36_), (37, v37_), (38, v38_), (39, v39_), (40, v40_), (41, v41_), (42, v42_), (43, v43_), (44, v44_), (45, v45_), (46, v46_), (47, v47_), (48, v48_), (49, v49_), (50, v50_), (51, v51_), (52, v52_), (53, v53_), (54, v54_), (55, v55_), (56, v56_), (57, v57_), (58, v58_), (59, v59_), (60, v60_), (61, v61_), (62, v62_), (63, v63_), (64, v64_), (65, v65_), (66, v66_), (67, v67_), (68, v68_), (69, v69_), (70, v70_), (71, v71_), (72, v72_), (73, v73_), (74, v74_), (5, (pt g6)), (6, (pt g9)), (7, (pt g14)), (8, (pt g17)), (9, (pt g75)), (12, (.int .u64 (getI [2305843009213693951, 2305843009213693921, 2305843009213693907] x78))), (13, (.int .u64 0)), (16, (.agg #[(.int .u64 2305843009213693951), (.int .u64 2305843009213693921), (.int .u64 2305843009213693907)])), (17, (iv x78))] fb_ a_ ∧ DoneL d_ [(0, v20_, (.int .u64 (getI [2305843009213693951, 2305843009213693921, 2305843009213693907] x78))), (1, v21_, (pt g6)), (2, v22_, (iv p0.Num)), (3, v23_, (pt g9)), (4, v24_, (iv p1.Num)), (5, v25_, (.pointer (some ⟨g14, 1, none⟩))), (6, v26_, (iv p2.Den)), (7, v27_, (.pointer (some ⟨g17, 1, none⟩))), (8, v28_, (iv p3.Den)), (9, v29_, (.pointer (some ⟨g75, 1, none⟩))), (10, v30_, (iv p4.Den)), (11, v31_, (sv (some ⟨g87, 0, none⟩) [p0.Num, p1.Num, p2.Den, p3.Den, p4.Den] 5)), (12, v32_, (.int .u64 t96)), (13, v33_, (.int .u64 (getI [2305843009213693951, 2305843009213693921, 2305843009213693907] x78))), (14, v34_, (pt g14)), (15, v35_, (iv p2.Num)), (16, v36_, (.pointer (some ⟨g6, 1, none⟩))), (17, v37_, (iv p0.Den)), (18, v38_, (.pointer (some ⟨g9, 1, none⟩))), (19, v39_, (iv p1.Den)), (20, v40_, (.pointer (some ⟨g17, 1, none⟩))), (21, v41_, (iv p3.Den)), (22, v42_, (.pointer (some ⟨g75, 1, none⟩))), (23, v43_, (iv p4.Den)), (24, v44_, (sv (some ⟨g88, 0, none⟩) [p2.Num, p0.Den, p1.Den, p3.Den, p4.Den] 5)), (25, v45_, (.int .u64 t105)), (26, v46_, (.int .u64 (getI [2305843009213693951, 2305843009213693921, 2305843009213693907] x78))), (27, v47_, (pt g17)), (28, v48_, (iv p3.Num)), (29, v49_, (.pointer (some ⟨g6, 1, none⟩))), (30, v50_, (iv p0.Den)), (31, v51_, (.pointer (some ⟨g9, 1, none⟩))), (32, v52_, (iv p1.Den)), (33, v53_, (.pointer (some ⟨g14, 1, none⟩))), (34, v54_, (iv p2.Den)), (35, v55_, (.pointer (some ⟨g75, 1, none⟩))), (36, v56_, (iv p4.Den)), (37, v57_, (sv (some ⟨g89, 0, none⟩) [p3.Num, p0.Den, p1.Den, p2.Den, p4.Den] 5)), (38, v58_, (.int .u64 t114)), (39, v59_, (.int .u64 (getI [2305843009213693951, 2305843009213693921, 2305843009213693907] x78))), (40, v60_, (pt g75)), (41, v61_, (iv p4.Num)), (42, v62_, (.pointer (some ⟨g6, 1, none⟩))), (43, v63_, (iv p0.Den)), (44, v64_, (.pointer (some ⟨g9, 1, none⟩))), (45, v65_, (iv p1.Den)), (46, v66_, (.pointer (some ⟨g14, 1, none⟩))), (47, v67_, (iv p2.Den)), (48, v68_, (.pointer (some ⟨g17, 1, none⟩))), (49, v69_, (iv p3.Den)), (50, v70_, (sv (some ⟨g90, 0, none⟩) [p4.Num, p0.Den, p1.Den, p2.Den, p3.Den] 5)), (51, v71_, (.int .u64 t123)), (52, v72_, (sv (some ⟨g91, 0, none⟩) [t96, t105, t114, t123] 4)), (53, v73_, (iv ([t96, t105, t114, t123].length : Int))), (54, v74_, (iv 0))] ∧ St NoS w w_ [tabO 0 #[(.int .u64 2305843009213693951), (.int .u64 2305843009213693921), (.int .u64 2305843009213693907)]] [sO (d_ 11) (rowO 3 encInt (some ⟨g87, 0, none⟩) 5 [p0.Num, p1.Num, p2.Den, p3.Den, p4.Den]), sO (d_ 24) (rowO 3 encInt (some ⟨g88, 0, none⟩) 5 [p2.Num, p0.Den, p1.Den, p3.Den, p4.Den]), sO (d_ 37) (rowO 3 encInt (some ⟨g89, 0, none⟩) 5 [p3.Num, p0.Den, p1.Den, p2.Den, p4.Den]), sO (d_ 50) (rowO 3 encInt (some ⟨g90, 0, none⟩) 5 [p4.Num, p0.Den, p1.Den, p2.Den, p3.Den]), sO (d_ 52) (rowO 60 encU64 (some ⟨g91, 0, none⟩) 4 [t96, t105, t114, t123]), blk g6 (.cells #[(iv p0.Num), (iv p0.Den)] 36 (0, 0)), blk g9 (.cells #[(iv p1.Num), (iv p1.Den)] 36 (0, 0)), blk g14 (.cells #[(iv p2.Num), (iv p2.Den)] 36 (0, 0)), blk g17 (.cells #[(iv p3.Num), (iv p3.Den)] 36 (0, 0)), blk g75 (.cells #[(iv p4.Num), (iv p4.Den)] 36 (0, 0))]) [[], [], [1], [], [3], [], [5], [], [7], [], [9], [1, 2, 3, 4, 5, 6, 7, 8, 9, 10], [0, 1, 2, 3, 4, 5, 6, 7, 8, 9, 10, 11], [], [], [14], [], [16], [], [18], [], [20], [], [22], [14, 15, 16, 17, 18, 19, 20, 21, 22, 23], [0, 1, 2, 3, 4, 5, 6, 7, 8, 9, 10, 11, 12, 13, 14, 15, 16, 17, 18, 19, 20, 21, 22, 23, 24], [], [], [27], [], [29], [], [31], [], [33], [], [35], [27, 28, 29, 30, 31, 32, 33, 34, 35, 36], [0, 1, 2, 3, 4, 5, 6, 7, 8, 9, 10, 11, 12, 13, 14, 15, 16, 17, 18, 19, 20, 21, 22, 23, 24, 25, 26, 27, 28, 29, 30, 31, 32, 33, 34, 35, 36, 37], [], [], [40], [], [42], [], [44], [], [46], [], [48], [40, 41, 42, 43, 44, 45, 46, 47, 48, 49], [0, 1, 2, 3, 4, 5, 6, 7, 8, 9, 10, 11, 12, 13, 14, 15, 16, 17, 18, 19, 20, 21, 22, 23, 24, 25, 26, 27, 28, 29, 30, 31, 32, 33, 34, 35, 36, 37, 38, 39, 40, 41, 42, 43, 44, 45, 46, 47, 48, 49, 50], [0, 1, 2, 3, 4, 5, 6, 7, 8, 9, 10, 11, 12, 13, 14, 15, 16, 17, 18, 19, 20, 21, 22, 23, 24, 25, 26, 27, 28, 29, 30, 31, 32, 33, 34, 35, 36, 37, 38, 39, 40, 41, 42, 43, 44, 45, 46, 47, 48, 49, 50, 51], [0, 1, 2, 3, 4, 5, 6, 7, 8, 9, 10, 11, 12, 13, 14, 15, 16, 17, 18, 19, 20, 21, 22, 23, 24, 25, 26, 27, 28, 29, 30, 31, 32, 33, 34, 35, 36, 37, 38, 39, 40, 41, 42, 43, 44, 45, 46, 47, 48, 49, 50, 51, 52], []] (by kernel_rfl) (by kernel_rfl) 55 rfl ?_ ?_ ?_
    ·intro d_ fb_ a_ hd_ ha_
     have hS_ := hS83.drew
     have e11_ : d_ 11 = false := hd_ 11 (by decide)
     have e24_ : d_ 24 = false := hd_ 24 (by decide)
     have e37_ : d_ 37 = false := hd_ 37 (by decide)
     have e50_ : d_ 50 = false := hd_ 50 (by decide)
     have e52_ : d_ 52 = false := hd_ 52 (by decide)
     exact ⟨(a_.eval (.tmp 20)), (a_.eval (.tmp 21)), (a_.eval (.tmp 22)), (a_.eval (.tmp 23)), (a_.eval (.tmp 24)), (a_.eval (.tmp 25)), (a_.eval (.tmp 26)), (a_.eval (.tmp 27)), (a_.eval (.tmp 28)), (a_.eval (.tmp 29)), (a_.eval (.tmp 30)), (a_.eval (.tmp 31)), (a_.eval (.tmp 32)), (a_.eval (.tmp 33)), (a_.eval (.tmp 34)), (a_.eval (.tmp 35)), (a_.eval (.tmp 36)), (a_.eval (.tmp 37)), (a_.eval (.tmp 38)), (a_.eval (.tmp 39)), (a_.eval (.tmp 40)), (a_.eval (.tmp 41)), (a_.eval (.tmp 42)), (a_.eval (.tmp 43)), (a_.eval (.tmp 44)), (a_.eval (.tmp 45)), (a_.eval (.tmp 46)), (a_.eval (.tmp 47)), (a_.eval (.tmp 48)), (a_.eval (.tmp 49)), (a_.eval (.tmp 50)), (a_.eval (.tmp 51)), (a_.eval (.tmp 52)), (a_.eval (.tmp 53)), (a_.eval (.tmp 54)), (a_.eval (.tmp 55)), (a_.eval (.tmp 56)), (a_.eval (.tmp 57)), (a_.eval (.tmp 58)), (a_.eval (.tmp 59)), (a_.eval (.tmp 60)), (a_.eval (.tmp 61)), (a_.eval (.tmp 62)), (a_.eval (.tmp 63)), (a_.eval (.tmp 64)), (a_.eval (.tmp 65)), (a_.eval (.tmp 66)), (a_.eval (.tmp 67)), (a_.eval (.tmp 68)), (a_.eval (.tmp 69)), (a_.eval (.tmp 70)), (a_.eval (.tmp 71)), (a_.eval (.tmp 72)), (a_.eval (.tmp 73)), (a_.eval (.tmp 74)), 0, 0, 0, 0, 0, _, (Has.peek (Has.peek (Has.peek (Has.peek (Has.peek (Has.peek (Has.peek (Has.peek (Has.peek (Has.peek (Has.peek (Has.peek (Has.peek (Has.peek (Has.peek (Has.peek (Has.peek (Has.peek (Has.peek (Has.peek (Has.peek (Has.peek (Has.peek (Has.peek (Has.peek (Has.peek (Has.peek (Has.peek (Has.peek (Has.peek (Has.peek (Has.peek (Has.peek (Has.peek (Has.peek (Has.peek (Has.peek (Has.peek (Has.peek (Has.peek (Has.peek (Has.peek (Has.peek (Has.peek (Has.peek (Has.peek (Has.peek (Has.peek (Has.peek (Has.peek (Has.peek (Has.peek (Has.peek (Has.peek (Has.peek (ha_.picked (show pick _ [5, 6, 7, 8, 9, 12, 13, 16, 17] = some [(5, (pt g6)), (6, (pt g9)), (7, (pt g14)), (8, (pt g17)), (9, (pt g75)), (12, (.int .u64 (getI [2305843009213693951, 2305843009213693921, 2305843009213693907] x78))), (13, (.int .u64 0)), (16, (.agg #[(.int .u64 2305843009213693951), (.int .u64 2305843009213693921), (.int .u64 2305843009213693907)])), (17, (iv x78))] from rfl)) 74 (by decide)) 73 (by decide)) 72 (by decide)) 71 (by decide)) 70 (by decide)) 69 (by decide)) 68 (by decide)) 67 (by decide)) 66 (by decide)) 65 (by decide)) 64 (by decide)) 63 (by decide)) 62 (by decide)) 61 (by decide)) 60 (by decide)) 59 (by decide)) 58 (by decide)) 57 (by decide)) 56 (by decide)) 55 (by decide)) 54 (by decide)) 53 (by decide)) 52 (by decide)) 51 (by decide)) 50 (by decide)) 49 (by decide)) 48 (by decide)) 47 (by decide)) 46 (by decide)) 45 (by decide)) 44 (by decide)) 43 (by decide)) 42 (by decide)) 41 (by decide)) 40 (by decide)) 39 (by decide)) 38 (by decide)) 37 (by decide)) 36 (by decide)) 35 (by decide)) 34 (by decide)) 33 (by decide)) 32 (by decide)) 31 (by decide)) 30 (by decide)) 29 (by decide)) 28 (by decide)) 27 (by decide)) 26 (by decide)) 25 (by decide)) 24 (by decide)) 23 (by decide)) 22 (by decide)) 21 (by decide)) 20 (by decide)), DoneL.none (fun i hi => hd_ i hi), (by rw [e11_, e24_, e37_, e50_, e52_]; exact hS_.sub [5, 6, 7, 8, 9, 0, 1, 2, 3, 4] (by decide))⟩
    ·refine ((((((((((((((((((((((((((((((((((((((((((((((((((((((StepsI.zero.succ ?_).succ ?_).succ ?_).succ ?_).succ ?_).succ ?_).succ ?_).succ ?_).succ ?_).succ ?_).succ ?_).succ ?_).succ ?_).succ ?_).succ ?_).succ ?_).succ ?_).succ ?_).succ ?_).succ ?_).succ ?_).succ ?_).succ ?_).succ ?_).succ ?_).succ ?_).succ ?_).succ ?_).succ ?_).succ ?_).succ ?_).succ ?_).succ ?_).succ ?_).succ ?_).succ ?_).succ ?_).succ ?_).succ ?_).succ ?_).succ ?_).succ ?_).succ ?_).succ ?_).succ ?_).succ ?_).succ ?_).succ ?_).succ ?_).succ ?_).succ ?_).succ ?_).succ ?_).succ ?_).succ ?_
     ·intro d_ a_ w_ hd_ hj_ hc_ hI_
      have hi_ : 0 < 55 := by decide
      refine ex10 hI_ fun v20_ v21_ v22_ v23_ v24_ v25_ v26_ v27_ v28_ v29_ h0_ => ?_
      refine ex10 h0_ fun v30_ v31_ v32_ v33_ v34_ v35_ v36_ v37_ v38_ v39_ h1_ => ?_
      refine ex10 h1_ fun v40_ v41_ v42_ v43_ v44_ v45_ v46_ v47_ v48_ v49_ h2_ => ?_
      refine ex10 h2_ fun v50_ v51_ v52_ v53_ v54_ v55_ v56_ v57_ v58_ v59_ h3_ => ?_
      refine ex10 h3_ fun v60_ v61_ v62_ v63_ v64_ v65_ v66_ v67_ v68_ v69_ h4_ => ?_
      refine ex10 h4_ fun v70_ v71_ v72_ v73_ v74_ g87 g88 g89 g90 g91 h5_ => ?_
      obtain ⟨fb_, ha_, H_, hS_⟩ := h5_
      clear hI_ h0_ h1_ h2_ h3_ h4_
      refine op_WL hi_ ha_ ?_
      refine seg 1 [] [20, 21, 22, 23, 24, 25, 26, 27, 28, 29, 30, 31, 32, 33, 34, 35, 36, 37, 38, 39, 40, 41, 42, 43, 44, 45, 46, 47, 48, 49, 50, 51, 52, 53, 54, 55, 56, 57, 58, 59, 60, 61, 62, 63, 64, 65, 66, 67, 68, 69, 70, 71, 72, 73, 74, 5, 6, 7, 8, 9, 12, 13, 16, 17] [(20, (.int .u64 (getI [2305843009213693951, 2305843009213693921, 2305843009213693907] x78))), (21, v21_), (22, v22_), (23, v23_), (24, v24_), (25, v25_), (26, v26_), (27, v27_), (28, v28_), (29, v29_), (30, v30_), (31, v31_), (32, v32_), (33, v33_), (34, v34_), (35, v35_), (36, v36_), (37, v37_), (38, v38_), (39, v39_), (40, v40_), (41, v41_), (42, v42_), (43, v43_), (44, v44_), (45, v45_), (46, v46_), (47, v47_), (48, v48_), (49, v49_), (50, v50_), (51, v51_), (52, v52_), (53, v53_), (54, v54_), (55, v55_), (56, v56_), (57, v57_), (58, v58_), (59, v59_), (60, v60_), (61, v61_), (62, v62_), (63, v63_), (64, v64_), (65, v65_), (66, v66_), (67, v67_), (68, v68_), (69, v69_), (70, v70_), (71, v71_), (72, v72_), (73, v73_), (74, v74_), (5, (pt g6)), (6, (pt g9)), (7, (pt g14)), (8, (pt g17)), (9, (pt g75)), (12, (.int .u64 (getI [2305843009213693951, 2305843009213693921, 2305843009213693907] x78))), (13, (.int .u64 0)), (16, (.agg #[(.int .u64 2305843009213693951), (.int .u64 2305843009213693921), (.int .u64 2305843009213693907)])), (17, (iv x78))] [] (fun fb => by kernel_rfl) rfl trivial ?_
      refine WL.done rfl ?_
      exact fun fb_ a_ ha_ => ⟨(.int .u64 (getI [2305843009213693951, 2305843009213693921, 2305843009213693907] x78)), v21_, v22_, v23_, v24_, v25_, v26_, v27_, v28_, v29_, v30_, v31_, v32_, v33_, v34_, v35_, v36_, v37_, v38_, v39_, v40_, v41_, v42_, v43_, v44_, v45_, v46_, v47_, v48_, v49_, v50_, v51_, v52_, v53_, v54_, v55_, v56_, v57_, v58_, v59_, v60_, v61_, v62_, v63_, v64_, v65_, v66_, v67_, v68_, v69_, v70_, v71_, v72_, v73_, v74_, g87, g88, g89, g90, g91, fb_, ha_, (H_.upd 0 (.int .u64 (getI [2305843009213693951, 2305843009213693921, 2305843009213693907] x78)) rfl), hS_⟩
     ·intro d_ a_ w_ hd_ hj_ hc_ hI_
      have hi_ : 1 < 55 := by decide
      refine ex10 hI_ fun v20_ v21_ v22_ v23_ v24_ v25_ v26_ v27_ v28_ v29_ h0_ => ?_
      refine ex10 h0_ fun v30_ v31_ v32_ v33_ v34_ v35_ v36_ v37_ v38_ v39_ h1_ => ?_
      refine ex10 h1_ fun v40_ v41_ v42_ v43_ v44_ v45_ v46_ v47_ v48_ v49_ h2_ => ?_
      refine ex10 h2_ fun v50_ v51_ v52_ v53_ v54_ v55_ v56_ v57_ v58_ v59_ h3_ => ?_
      refine ex10 h3_ fun v60_ v61_ v62_ v63_ v64_ v65_ v66_ v67_ v68_ v69_ h4_ => ?_
      refine ex10 h4_ fun v70_ v71_ v72_ v73_ v74_ g87 g88 g89 g90 g91 h5_ => ?_
      obtain ⟨fb_, ha_, H_, hS_⟩ := h5_
      clear hI_ h0_ h1_ h2_ h3_ h4_
      refine op_WL hi_ ha_ ?_
      refine seg 1 [] [20, 21, 22, 23, 24, 25, 26, 27, 28, 29, 30, 31, 32, 33, 34, 35, 36, 37, 38, 39, 40, 41, 42, 43, 44, 45, 46, 47, 48, 49, 50, 51, 52, 53, 54, 55, 56, 57, 58, 59, 60, 61, 62, 63, 64, 65, 66, 67, 68, 69, 70, 71, 72, 73, 74, 5, 6, 7, 8, 9, 12, 13, 16, 17] [(20, v20_), (21, (pt g6)), (22, v22_), (23, v23_), (24, v24_), (25, v25_), (26, v26_), (27, v27_), (28, v28_), (29, v29_), (30, v30_), (31, v31_), (32, v32_), (33, v33_), (34, v34_), (35, v35_), (36, v36_), (37, v37_), (38, v38_), (39, v39_), (40, v40_), (41, v41_), (42, v42_), (43, v43_), (44, v44_), (45, v45_), (46, v46_), (47, v47_), (48, v48_), (49, v49_), (50, v50_), (51, v51_), (52, v52_), (53, v53_), (54, v54_), (55, v55_), (56, v56_), (57, v57_), (58, v58_), (59, v59_), (60, v60_), (61, v61_), (62, v62_), (63, v63_), (64, v64_), (65, v65_), (66, v66_), (67, v67_), (68, v68_), (69, v69_), (70, v70_), (71, v71_), (72, v72_), (73, v73_), (74, v74_), (5, (pt g6)), (6, (pt g9)), (7, (pt g14)), (8, (pt g17)), (9, (pt g75)), (12, (.int .u64 (getI [2305843009213693951, 2305843009213693921, 2305843009213693907] x78))), (13, (.int .u64 0)), (16, (.agg #[(.int .u64 2305843009213693951), (.int .u64 2305843009213693921), (.int .u64 2305843009213693907)])), (17, (iv x78))] [] (fun fb => by kernel_rfl) rfl trivial ?_
      refine WL.done rfl ?_
      exact fun fb_ a_ ha_ => ⟨v20_, (pt g6), v22_, v23_, v24_, v25_, v26_, v27_, v28_, v29_, v30_, v31_, v32_, v33_, v34_, v35_, v36_, v37_, v38_, v39_, v40_, v41_, v42_, v43_, v44_, v45_, v46_, v47_, v48_, v49_, v50_, v51_, v52_, v53_, v54_, v55_, v56_, v57_, v58_, v59_, v60_, v61_, v62_, v63_, v64_, v65_, v66_, v67_, v68_, v69_, v70_, v71_, v72_, v73_, v74_, g87, g88, g89, g90, g91, fb_, ha_, (H_.upd 1 (pt g6) rfl), hS_⟩
     ·intro d_ a_ w_ hd_ hj_ hc_ hI_
      have hi_ : 2 < 55 := by decide
      refine ex10 hI_ fun v20_ v21_ v22_ v23_ v24_ v25_ v26_ v27_ v28_ v29_ h0_ => ?_
      refine ex10 h0_ fun v30_ v31_ v32_ v33_ v34_ v35_ v36_ v37_ v38_ v39_ h1_ => ?_
      refine ex10 h1_ fun v40_ v41_ v42_ v43_ v44_ v45_ v46_ v47_ v48_ v49_ h2_ => ?_
      refine ex10 h2_ fun v50_ v51_ v52_ v53_ v54_ v55_ v56_ v57_ v58_ v59_ h3_ => ?_
      refine ex10 h3_ fun v60_ v61_ v62_ v63_ v64_ v65_ v66_ v67_ v68_ v69_ h4_ => ?_
      refine ex10 h4_ fun v70_ v71_ v72_ v73_ v74_ g87 g88 g89 g90 g91 h5_ => ?_
      obtain ⟨fb_, ha_, H_, hS_⟩ := h5_
      clear hI_ h0_ h1_ h2_ h3_ h4_
      obtain rfl : v21_ = (pt g6) := H_ 1 _ rfl (hj_ 1 (memN_iff.1 (by kernel_rfl)))
      refine op_WL hi_ ha_ ?_
      refine seg 1 [.v (iv p0.Num)] [20, 21, 22, 23, 24, 25, 26, 27, 28, 29, 30, 31, 32, 33, 34, 35, 36, 37, 38, 39, 40, 41, 42, 43, 44, 45, 46, 47, 48, 49, 50, 51, 52, 53, 54, 55, 56, 57, 58, 59, 60, 61, 62, 63, 64, 65, 66, 67, 68, 69, 70, 71, 72, 73, 74, 5, 6, 7, 8, 9, 12, 13, 16, 17] [(20, v20_), (21, (pt g6)), (22, (iv p0.Num)), (23, v23_), (24, v24_), (25, v25_), (26, v26_), (27, v27_), (28, v28_), (29, v29_), (30, v30_), (31, v31_), (32, v32_), (33, v33_), (34, v34_), (35, v35_), (36, v36_), (37, v37_), (38, v38_), (39, v39_), (40, v40_), (41, v41_), (42, v42_), (43, v43_), (44, v44_), (45, v45_), (46, v46_), (47, v47_), (48, v48_), (49, v49_), (50, v50_), (51, v51_), (52, v52_), (53, v53_), (54, v54_), (55, v55_), (56, v56_), (57, v57_), (58, v58_), (59, v59_), (60, v60_), (61, v61_), (62, v62_), (63, v63_), (64, v64_), (65, v65_), (66, v66_), (67, v67_), (68, v68_), (69, v69_), (70, v70_), (71, v71_), (72, v72_), (73, v73_), (74, v74_), (5, (pt g6)), (6, (pt g9)), (7, (pt g14)), (8, (pt g17)), (9, (pt g75)), (12, (.int .u64 (getI [2305843009213693951, 2305843009213693921, 2305843009213693907] x78))), (13, (.int .u64 0)), (16, (.agg #[(.int .u64 2305843009213693951), (.int .u64 2305843009213693921), (.int .u64 2305843009213693907)])), (17, (iv x78))] [.cell ⟨g6, 0, none⟩ (iv p0.Num)] (fun fb => by kernel_rfl) rfl ⟨hS_.cell 5 rfl 0 rfl, trivial⟩ ?_
      refine WL.done rfl ?_
      exact fun fb_ a_ ha_ => ⟨v20_, (pt g6), (iv p0.Num), v23_, v24_, v25_, v26_, v27_, v28_, v29_, v30_, v31_, v32_, v33_, v34_, v35_, v36_, v37_, v38_, v39_, v40_, v41_, v42_, v43_, v44_, v45_, v46_, v47_, v48_, v49_, v50_, v51_, v52_, v53_, v54_, v55_, v56_, v57_, v58_, v59_, v60_, v61_, v62_, v63_, v64_, v65_, v66_, v67_, v68_, v69_, v70_, v71_, v72_, v73_, v74_, g87, g88, g89, g90, g91, fb_, ha_, (H_.upd 2 (iv p0.Num) rfl), hS_⟩
     ·intro d_ a_ w_ hd_ hj_ hc_ hI_
      have hi_ : 3 < 55 := by decide
      refine ex10 hI_ fun v20_ v21_ v22_ v23_ v24_ v25_ v26_ v27_ v28_ v29_ h0_ => ?_
      refine ex10 h0_ fun v30_ v31_ v32_ v33_ v34_ v35_ v36_ v37_ v38_ v39_ h1_ => ?_
      refine ex10 h1_ fun v40_ v41_ v42_ v43_ v44_ v45_ v46_ v47_ v48_ v49_ h2_ => ?_
      refine ex10 h2_ fun v50_ v51_ v52_ v53_ v54_ v55_ v56_ v57_ v58_ v59_ h3_ => ?_
      refine ex10 h3_ fun v60_ v61_ v62_ v63_ v64_ v65_ v66_ v67_ v68_ v69_ h4_ => ?_
      refine ex10 h4_ fun v70_ v71_ v72_ v73_ v74_ g87 g88 g89 g90 g91 h5_ => ?_
      obtain ⟨fb_, ha_, H_, hS_⟩ := h5_
      clear hI_ h0_ h1_ h2_ h3_ h4_
      refine op_WL hi_ ha_ ?_
      refine seg 1 [] [20, 21, 22, 23, 24, 25, 26, 27, 28, 29, 30, 31, 32, 33, 34, 35, 36, 37, 38, 39, 40, 41, 42, 43, 44, 45, 46, 47, 48, 49, 50, 51, 52, 53, 54, 55, 56, 57, 58, 59, 60, 61, 62, 63, 64, 65, 66, 67, 68, 69, 70, 71, 72, 73, 74, 5, 6, 7, 8, 9, 12, 13, 16, 17] [(20, v20_), (21, v21_), (22, v22_), (23, (pt g9)), (24, v24_), (25, v25_), (26, v26_), (27, v27_), (28, v28_), (29, v29_), (30, v30_), (31, v31_), (32, v32_), (33, v33_), (34, v34_), (35, v35_), (36, v36_), (37, v37_), (38, v38_), (39, v39_), (40, v40_), (41, v41_), (42, v42_), (43, v43_), (44, v44_), (45, v45_), (46, v46_), (47, v47_), (48, v48_), (49, v49_), (50, v50_), (51, v51_), (52, v52_), (53, v53_), (54, v54_), (55, v55_), (56, v56_), (57, v57_), (58, v58_), (59, v59_), (60, v60_), (61, v61_), (62, v62_), (63, v63_), (64, v64_), (65, v65_), (66, v66_), (67, v67_), (68, v68_), (69, v69_), (70, v70_), (71, v71_), (72, v72_), (73, v73_), (74, v74_), (5, (pt g6)), (6, (pt g9)), (7, (pt g14)), (8, (pt g17)), (9, (pt g75)), (12, (.int .u64 (getI [2305843009213693951, 2305843009213693921, 2305843009213693907] x78))), (13, (.int .u64 0)), (16, (.agg #[(.int .u64 2305843009213693951), (.int .u64 2305843009213693921), (.int .u64 2305843009213693907)])), (17, (iv x78))] [] (fun fb => by kernel_rfl) rfl trivial ?_
      refine WL.done rfl ?_
      exact fun fb_ a_ ha_ => ⟨v20_, v21_, v22_, (pt g9), v24_, v25_, v26_, v27_, v28_, v29_, v30_, v31_, v32_, v33_, v34_, v35_, v36_, v37_, v38_, v39_, v40_, v41_, v42_, v43_, v44_, v45_, v46_, v47_, v48_, v49_, v50_, v51_, v52_, v53_, v54_, v55_, v56_, v57_, v58_, v59_, v60_, v61_, v62_, v63_, v64_, v65_, v66_, v67_, v68_, v69_, v70_, v71_, v72_, v73_, v74_, g87, g88, g89, g90, g91, fb_, ha_, (H_.upd 3 (pt g9) rfl), hS_⟩
     ·intro d_ a_ w_ hd_ hj_ hc_ hI_
      have hi_ : 4 < 55 := by decide
      refine ex10 hI_ fun v20_ v21_ v22_ v23_ v24_ v25_ v26_ v27_ v28_ v29_ h0_ => ?_
      refine ex10 h0_ fun v30_ v31_ v32_ v33_ v34_ v35_ v36_ v37_ v38_ v39_ h1_ => ?_
      refine ex10 h1_ fun v40_ v41_ v42_ v43_ v44_ v45_ v46_ v47_ v48_ v49_ h2_ => ?_
      refine ex10 h2_ fun v50_ v51_ v52_ v53_ v54_ v55_ v56_ v57_ v58_ v59_ h3_ => ?_
      refine ex10 h3_ fun v60_ v61_ v62_ v63_ v64_ v65_ v66_ v67_ v68_ v69_ h4_ => ?_
      refine ex10 h4_ fun v70_ v71_ v72_ v73_ v74_ g87 g88 g89 g90 g91 h5_ => ?_
      obtain ⟨fb_, ha_, H_, hS_⟩ := h5_
      clear hI_ h0_ h1_ h2_ h3_ h4_
      obtain rfl : v23_ = (pt g9) := H_ 3 _ rfl (hj_ 3 (memN_iff.1 (by kernel_rfl)))
      refine op_WL hi_ ha_ ?_
      refine seg 1 [.v (iv p1.Num)] [20, 21, 22, 23, 24, 25, 26, 27, 28, 29, 30, 31, 32, 33, 34, 35, 36, 37, 38, 39, 40, 41, 42, 43, 44, 45, 46, 47, 48, 49, 50, 51, 52, 53, 54, 55, 56, 57, 58, 59, 60, 61, 62, 63, 64, 65, 66, 67, 68, 69, 70, 71, 72, 73, 74, 5, 6, 7, 8, 9, 12, 13, 16, 17] [(20, v20_), (21, v21_), (22, v22_), (23, (pt g9)), (24, (iv p1.Num)), (25, v25_), (26, v26_), (27, v27_), (28, v28_), (29, v29_), (30, v30_), (31, v31_), (32, v32_), (33, v33_), (34, v34_), (35, v35_), (36, v36_), (37, v37_), (38, v38_), (39, v39_), (40, v40_), (41, v41_), (42, v42_), (43, v43_), (44, v44_), (45, v45_), (46, v46_), (47, v47_), (48, v48_), (49, v49_), (50, v50_), (51, v51_), (52, v52_), (53, v53_), (54, v54_), (55, v55_), (56, v56_), (57, v57_), (58, v58_), (59, v59_), (60, v60_), (61, v61_), (62, v62_), (63, v63_), (64, v64_), (65, v65_), (66, v66_), (67, v67_), (68, v68_), (69, v69_), (70, v70_), (71, v71_), (72, v72_), (73, v73_), (74, v74_), (5, (pt g6)), (6, (pt g9)), (7, (pt g14)), (8, (pt g17)), (9, (pt g75)), (12, (.int .u64 (getI [2305843009213693951, 2305843009213693921, 2305843009213693907] x78))), (13, (.int .u64 0)), (16, (.agg #[(.int .u64 2305843009213693951), (.int .u64 2305843009213693921), (.int .u64 2305843009213693907)])), (17, (iv x78))] [.cell ⟨g9, 0, none⟩ (iv p1.Num)] (fun fb => by kernel_rfl) rfl ⟨hS_.cell 6 rfl 0 rfl, trivial⟩ ?_
      refine WL.done rfl ?_
      exact fun fb_ a_ ha_ => ⟨v20_, v21_, v22_, (pt g9), (iv p1.Num), v25_, v26_, v27_, v28_, v29_, v30_, v31_, v32_, v33_, v34_, v35_, v36_, v37_, v38_, v39_, v40_, v41_, v42_, v43_, v44_, v45_, v46_, v47_, v48_, v49_, v50_, v51_, v52_, v53_, v54_, v55_, v56_, v57_, v58_, v59_, v60_, v61_, v62_, v63_, v64_, v65_, v66_, v67_, v68_, v69_, v70_, v71_, v72_, v73_, v74_, g87, g88, g89, g90, g91, fb_, ha_, (H_.upd 4 (iv p1.Num) rfl), hS_⟩
     ·intro d_ a_ w_ hd_ hj_ hc_ hI_
      have hi_ : 5 < 55 := by decide
      refine ex10 hI_ fun v20_ v21_ v22_ v23_ v24_ v25_ v26_ v27_ v28_ v29_ h0_ => ?_
      refine ex10 h0_ fun v30_ v31_ v32_ v33_ v34_ v35_ v36_ v37_ v38_ v39_ h1_ => ?_
      refine ex10 h1_ fun v40_ v41_ v42_ v43_ v44_ v45_ v46_ v47_ v48_ v49_ h2_ => ?_
      refine ex10 h2_ fun v50_ v51_ v52_ v53_ v54_ v55_ v56_ v57_ v58_ v59_ h3_ => ?_
      refine ex10 h3_ fun v60_ v61_ v62_ v63_ v64_ v65_ v66_ v67_ v68_ v69_ h4_ => ?_
      refine ex10 h4_ fun v70_ v71_ v72_ v73_ v74_ g87 g88 g89 g90 g91 h5_ => ?_
      obtain ⟨fb_, ha_, H_, hS_⟩ := h5_
      clear hI_ h0_ h1_ h2_ h3_ h4_
      refine op_WL hi_ ha_ ?_
      refine seg 1 [] [20, 21, 22, 23, 24, 25, 26, 27, 28, 29, 30, 31, 32, 33, 34, 35, 36, 37, 38, 39, 40, 41, 42, 43, 44, 45, 46, 47, 48, 49, 50, 51, 52, 53, 54, 55, 56, 57, 58, 59, 60, 61, 62, 63, 64, 65, 66, 67, 68, 69, 70, 71, 72, 73, 74, 5, 6, 7, 8, 9, 12, 13, 16, 17] [(20, v20_), (21, v21_), (22, v22_), (23, v23_), (24, v24_), (25, (.pointer (some ⟨g14, 1, none⟩))), (26, v26_), (27, v27_), (28, v28_), (29, v29_), (30, v30_), (31, v31_), (32, v32_), (33, v33_), (34, v34_), (35, v35_), (36, v36_), (37, v37_), (38, v38_), (39, v39_), (40, v40_), (41, v41_), (42, v42_), (43, v43_), (44, v44_), (45, v45_), (46, v46_), (47, v47_), (48, v48_), (49, v49_), (50, v50_), (51, v51_), (52, v52_), (53, v53_), (54, v54_), (55, v55_), (56, v56_), (57, v57_), (58, v58_), (59, v59_), (60, v60_), (61, v61_), (62, v62_), (63, v63_), (64, v64_), (65, v65_), (66, v66_), (67, v67_), (68, v68_), (69, v69_), (70, v70_), (71, v71_), (72, v72_), (73, v73_), (74, v74_), (5, (pt g6)), (6, (pt g9)), (7, (pt g14)), (8, (pt g17)), (9, (pt g75)), (12, (.int .u64 (getI [2305843009213693951, 2305843009213693921, 2305843009213693907] x78))), (13, (.int .u64 0)), (16, (.agg #[(.int .u64 2305843009213693951), (.int .u64 2305843009213693921), (.int .u64 2305843009213693907)])), (17, (iv x78))] [] (fun fb => by kernel_rfl) rfl trivial ?_
      refine WL.done rfl ?_
      exact fun fb_ a_ ha_ => ⟨v20_, v21_, v22_, v23_, v24_, (.pointer (some ⟨g14, 1, none⟩)), v26_, v27_, v28_, v29_, v30_, v31_, v32_, v33_, v34_, v35_, v36_, v37_, v38_, v39_, v40_, v41_, v42_, v43_, v44_, v45_, v46_, v47_, v48_, v49_, v50_, v51_, v52_, v53_, v54_, v55_, v56_, v57_, v58_, v59_, v60_, v61_, v62_, v63_, v64_, v65_, v66_, v67_, v68_, v69_, v70_, v71_, v72_, v73_, v74_, g87, g88, g89, g90, g91, fb_, ha_, (H_.upd 5 (.pointer (some ⟨g14, 1, none⟩)) rfl), hS_⟩
     ·intro d_ a_ w_ hd_ hj_ hc_ hI_
      have hi_ : 6 < 55 := by decide
      refine ex10 hI_ fun v20_ v21_ v22_ v23_ v24_ v25_ v26_ v27_ v28_ v29_ h0_ => ?_
      refine ex10 h0_ fun v30_ v31_ v32_ v33_ v34_ v35_ v36_ v37_ v38_ v39_ h1_ => ?_
      refine ex10 h1_ fun v40_ v41_ v42_ v43_ v44_ v45_ v46_ v47_ v48_ v49_ h2_ => ?_
      refine ex10 h2_ fun v50_ v51_ v52_ v53_ v54_ v55_ v56_ v57_ v58_ v59_ h3_ => ?_
      refine ex10 h3_ fun v60_ v61_ v62_ v63_ v64_ v65_ v66_ v67_ v68_ v69_ h4_ => ?_
      refine ex10 h4_ fun v70_ v71_ v72_ v73_ v74_ g87 g88 g89 g90 g91 h5_ => ?_
      obtain ⟨fb_, ha_, H_, hS_⟩ := h5_
      clear hI_ h0_ h1_ h2_ h3_ h4_
      obtain rfl : v25_ = (.pointer (some ⟨g14, 1, none⟩)) := H_ 5 _ rfl (hj_ 5 (memN_iff.1 (by kernel_rfl)))
      refine op_WL hi_ ha_ ?_
      refine seg 1 [.v (iv p2.Den)] [20, 21, 22, 23, 24, 25, 26, 27, 28, 29, 30, 31, 32, 33, 34, 35, 36, 37, 38, 39, 40, 41, 42, 43, 44, 45, 46, 47, 48, 49, 50, 51, 52, 53, 54, 55, 56, 57, 58, 59, 60, 61, 62, 63, 64, 65, 66, 67, 68, 69, 70, 71, 72, 73, 74, 5, 6, 7, 8, 9, 12, 13, 16, 17] [(20, v20_), (21, v21_), (22, v22_), (23, v23_), (24, v24_), (25, (.pointer (some ⟨g14, 1, none⟩))), (26, (iv p2.Den)), (27, v27_), (28, v28_), (29, v29_), (30, v30_), (31, v31_), (32, v32_), (33, v33_), (34, v34_), (35, v35_), (36, v36_), (37, v37_), (38, v38_), (39, v39_), (40, v40_), (41, v41_), (42, v42_), (43, v43_), (44, v44_), (45, v45_), (46, v46_), (47, v47_), (48, v48_), (49, v49_), (50, v50_), (51, v51_), (52, v52_), (53, v53_), (54, v54_), (55, v55_), (56, v56_), (57, v57_), (58, v58_), (59, v59_), (60, v60_), (61, v61_), (62, v62_), (63, v63_), (64, v64_), (65, v65_), (66, v66_), (67, v67_), (68, v68_), (69, v69_), (70, v70_), (71, v71_), (72, v72_), (73, v73_), (74, v74_), (5, (pt g6)), (6, (pt g9)), (7, (pt g14)), (8, (pt g17)), (9, (pt g75)), (12, (.int .u64 (getI [2305843009213693951, 2305843009213693921, 2305843009213693907] x78))), (13, (.int .u64 0)), (16, (.agg #[(.int .u64 2305843009213693951), (.int .u64 2305843009213693921), (.int .u64 2305843009213693907)])), (17, (iv x78))] [.cell ⟨g14, 1, none⟩ (iv p2.Den)] (fun fb => by kernel_rfl) rfl ⟨hS_.cell 7 rfl 1 rfl, trivial⟩ ?_
      refine WL.done rfl ?_
      exact fun fb_ a_ ha_ => ⟨v20_, v21_, v22_, v23_, v24_, (.pointer (some ⟨g14, 1, none⟩)), (iv p2.Den), v27_, v28_, v29_, v30_, v31_, v32_, v33_, v34_, v35_, v36_, v37_, v38_, v39_, v40_, v41_, v42_, v43_, v44_, v45_, v46_, v47_, v48_, v49_, v50_, v51_, v52_, v53_, v54_, v55_, v56_, v57_, v58_, v59_, v60_, v61_, v62_, v63_, v64_, v65_, v66_, v67_, v68_, v69_, v70_, v71_, v72_, v73_, v74_, g87, g88, g89, g90, g91, fb_, ha_, (H_.upd 6 (iv p2.Den) rfl), hS_⟩
     ·intro d_ a_ w_ hd_ hj_ hc_ hI_
      have hi_ : 7 < 55 := by decide
      refine ex10 hI_ fun v20_ v21_ v22_ v23_ v24_ v25_ v26_ v27_ v28_ v29_ h0_ => ?_
      refine ex10 h0_ fun v30_ v31_ v32_ v33_ v34_ v35_ v36_ v37_ v38_ v39_ h1_ => ?_
      refine ex10 h1_ fun v40_ v41_ v42_ v43_ v44_ v45_ v46_ v47_ v48_ v49_ h2_ => ?_
      refine ex10 h2_ fun v50_ v51_ v52_ v53_ v54_ v55_ v56_ v57_ v58_ v59_ h3_ => ?_
      refine ex10 h3_ fun v60_ v61_ v62_ v63_ v64_ v65_ v66_ v67_ v68_ v69_ h4_ => ?_
      refine ex10 h4_ fun v70_ v71_ v72_ v73_ v74_ g87 g88 g89 g90 g91 h5_ => ?_
      obtain ⟨fb_, ha_, H_, hS_⟩ := h5_
      clear hI_ h0_ h1_ h2_ h3_ h4_
      refine op_WL hi_ ha_ ?_
      refine seg 1 [] [20, 21, 22, 23, 24, 25, 26, 27, 28, 29, 30, 31, 32, 33, 34, 35, 36, 37, 38, 39, 40, 41, 42, 43, 44, 45, 46, 47, 48, 49, 50, 51, 52, 53, 54, 55, 56, 57, 58, 59, 60, 61, 62, 63, 64, 65, 66, 67, 68, 69, 70, 71, 72, 73, 74, 5, 6, 7, 8, 9, 12, 13, 16, 17] [(20, v20_), (21, v21_), (22, v22_), (23, v23_), (24, v24_), (25, v25_), (26, v26_), (27, (.pointer (some ⟨g17, 1, none⟩))), (28, v28_), (29, v29_), (30, v30_), (31, v31_), (32, v32_), (33, v33_), (34, v34_), (35, v35_), (36, v36_), (37, v37_), (38, v38_), (39, v39_), (40, v40_), (41, v41_), (42, v42_), (43, v43_), (44, v44_), (45, v45_), (46, v46_), (47, v47_), (48, v48_), (49, v49_), (50, v50_), (51, v51_), (52, v52_), (53, v53_), (54, v54_), (55, v55_), (56, v56_), (57, v57_), (58, v58_), (59, v59_), (60, v60_), (61, v61_), (62, v62_), (63, v63_), (64, v64_), (65, v65_), (66, v66_), (67, v67_), (68, v68_), (69, v69_), (70, v70_), (71, v71_), (72, v72_), (73, v73_), (74, v74_), (5, (pt g6)), (6, (pt g9)), (7, (pt g14)), (8, (pt g17)), (9, (pt g75)), (12, (.int .u64 (getI [2305843009213693951, 2305843009213693921, 2305843009213693907] x78))), (13, (.int .u64 0)), (16, (.agg #[(.int .u64 2305843009213693951), (.int .u64 2305843009213693921), (.int .u64 2305843009213693907)])), (17, (iv x78))] [] (fun fb => by kernel_rfl) rfl trivial ?_
      refine WL.done rfl ?_
      exact fun fb_ a_ ha_ => ⟨v20_, v21_, v22_, v23_, v24_, v25_, v26_, (.pointer (some ⟨g17, 1, none⟩)), v28_, v29_, v30_, v31_, v32_, v33_, v34_, v35_, v36_, v37_, v38_, v39_, v40_, v41_, v42_, v43_, v44_, v45_, v46_, v47_, v48_, v49_, v50_, v51_, v52_, v53_, v54_, v55_, v56_, v57_, v58_, v59_, v60_, v61_, v62_, v63_, v64_, v65_, v66_, v67_, v68_, v69_, v70_, v71_, v72_, v73_, v74_, g87, g88, g89, g90, g91, fb_, ha_, (H_.upd 7 (.pointer (some ⟨g17, 1, none⟩)) rfl), hS_⟩
     ·intro d_ a_ w_ hd_ hj_ hc_ hI_
      have hi_ : 8 < 55 := by decide
      refine ex10 hI_ fun v20_ v21_ v22_ v23_ v24_ v25_ v26_ v27_ v28_ v29_ h0_ => ?_
      refine ex10 h0_ fun v30_ v31_ v32_ v33_ v34_ v35_ v36_ v37_ v38_ v39_ h1_ => ?_
      refine ex10 h1_ fun v40_ v41_ v42_ v43_ v44_ v45_ v46_ v47_ v48_ v49_ h2_ => ?_
      refine ex10 h2_ fun v50_ v51_ v52_ v53_ v54_ v55_ v56_ v57_ v58_ v59_ h3_ => ?_
      refine ex10 h3_ fun v60_ v61_ v62_ v63_ v64_ v65_ v66_ v67_ v68_ v69_ h4_ => ?_
      refine ex10 h4_ fun v70_ v71_ v72_ v73_ v74_ g87 g88 g89 g90 g91 h5_ => ?_
      obtain ⟨fb_, ha_, H_, hS_⟩ := h5_
      clear hI_ h0_ h1_ h2_ h3_ h4_
      obtain rfl : v27_ = (.pointer (some ⟨g17, 1, none⟩)) := H_ 7 _ rfl (hj_ 7 (memN_iff.1 (by kernel_rfl)))
      refine op_WL hi_ ha_ ?_
      refine seg 1 [.v (iv p3.Den)] [20, 21, 22, 23, 24, 25, 26, 27, 28, 29, 30, 31, 32, 33, 34, 35, 36, 37, 38, 39, 40, 41, 42, 43, 44, 45, 46, 47, 48, 49, 50, 51, 52, 53, 54, 55, 56, 57, 58, 59, 60, 61, 62, 63, 64, 65, 66, 67, 68, 69, 70, 71, 72, 73, 74, 5, 6, 7, 8, 9, 12, 13, 16, 17] [(20, v20_), (21, v21_), (22, v22_), (23, v23_), (24, v24_), (25, v25_), (26, v26_), (27, (.pointer (some ⟨g17, 1, none⟩))), (28, (iv p3.Den)), (29, v29_), (30, v30_), (31, v31_), (32, v32_), (33, v33_), (34, v34_), (35, v35_), (36, v36_), (37, v37_), (38, v38_), (39, v39_), (40, v40_), (41, v41_), (42, v42_), (43, v43_), (44, v44_), (45, v45_), (46, v46_), (47, v47_), (48, v48_), (49, v49_), (50, v50_), (51, v51_), (52, v52_), (53, v53_), (54, v54_), (55, v55_), (56, v56_), (57, v57_), (58, v58_), (59, v59_), (60, v60_), (61, v61_), (62, v62_), (63, v63_), (64, v64_), (65, v65_), (66, v66_), (67, v67_), (68, v68_), (69, v69_), (70, v70_), (71, v71_), (72, v72_), (73, v73_), (74, v74_), (5, (pt g6)), (6, (pt g9)), (7, (pt g14)), (8, (pt g17)), (9, (pt g75)), (12, (.int .u64 (getI [2305843009213693951, 2305843009213693921, 2305843009213693907] x78))), (13, (.int .u64 0)), (16, (.agg #[(.int .u64 2305843009213693951), (.int .u64 2305843009213693921), (.int .u64 2305843009213693907)])), (17, (iv x78))] [.cell ⟨g17, 1, none⟩ (iv p3.Den)] (fun fb => by kernel_rfl) rfl ⟨hS_.cell 8 rfl 1 rfl, trivial⟩ ?_
      refine WL.done rfl ?_
      exact fun fb_ a_ ha_ => ⟨v20_, v21_, v22_, v23_, v24_, v25_, v26_, (.pointer (some ⟨g17, 1, none⟩)), (iv p3.Den), v29_, v30_, v31_, v32_, v33_, v34_, v35_, v36_, v37_, v38_, v39_, v40_, v41_, v42_, v43_, v44_, v45_, v46_, v47_, v48_, v49_, v50_, v51_, v52_, v53_, v54_, v55_, v56_, v57_, v58_, v59_, v60_, v61_, v62_, v63_, v64_, v65_, v66_, v67_, v68_, v69_, v70_, v71_, v72_, v73_, v74_, g87, g88, g89, g90, g91, fb_, ha_, (H_.upd 8 (iv p3.Den) rfl), hS_⟩
     ·intro d_ a_ w_ hd_ hj_ hc_ hI_
      have hi_ : 9 < 55 := by decide
      refine ex10 hI_ fun v20_ v21_ v22_ v23_ v24_ v25_ v26_ v27_ v28_ v29_ h0_ => ?_
      refine ex10 h0_ fun v30_ v31_ v32_ v33_ v34_ v35_ v36_ v37_ v38_ v39_ h1_ => ?_
      refine ex10 h1_ fun v40_ v41_ v42_ v43_ v44_ v45_ v46_ v47_ v48_ v49_ h2_ => ?_
      refine ex10 h2_ fun v50_ v51_ v52_ v53_ v54_ v55_ v56_ v57_ v58_ v59_ h3_ => ?_
      refine ex10 h3_ fun v60_ v61_ v62_ v63_ v64_ v65_ v66_ v67_ v68_ v69_ h4_ => ?_
      refine ex10 h4_ fun v70_ v71_ v72_ v73_ v74_ g87 g88 g89 g90 g91 h5_ => ?_
      obtain ⟨fb_, ha_, H_, hS_⟩ := h5_
      clear hI_ h0_ h1_ h2_ h3_ h4_
      refine op_WL hi_ ha_ ?_
      refine seg 1 [] [20, 21, 22, 23, 24, 25, 26, 27, 28, 29, 30, 31, 32, 33, 34, 35, 36, 37, 38, 39, 40, 41, 42, 43, 44, 45, 46, 47, 48, 49, 50, 51, 52, 53, 54, 55, 56, 57, 58, 59, 60, 61, 62, 63, 64, 65, 66, 67, 68, 69, 70, 71, 72, 73, 74, 5, 6, 7, 8, 9, 12, 13, 16, 17] [(20, v20_), (21, v21_), (22, v22_), (23, v23_), (24, v24_), (25, v25_), (26, v26_), (27, v27_), (28, v28_), (29, (.pointer (some ⟨g75, 1, none⟩))), (30, v30_), (31, v31_), (32, v32_), (33, v33_), (34, v34_), (35, v35_), (36, v36_), (37, v37_), (38, v38_), (39, v39_), (40, v40_), (41, v41_), (42, v42_), (43, v43_), (44, v44_), (45, v45_), (46, v46_), (47, v47_), (48, v48_), (49, v49_), (50, v50_), (51, v51_), (52, v52_), (53, v53_), (54, v54_), (55, v55_), (56, v56_), (57, v57_), (58, v58_), (59, v59_), (60, v60_), (61, v61_), (62, v62_), (63, v63_), (64, v64_), (65, v65_), (66, v66_), (67, v67_), (68, v68_), (69, v69_), (70, v70_), (71, v71_), (72, v72_), (73, v73_), (74, v74_), (5, (pt g6)), (6, (pt g9)), (7, (pt g14)), (8, (pt g17)), (9, (pt g75)), (12, (.int .u64 (getI [2305843009213693951, 2305843009213693921, 2305843009213693907] x78))), (13, (.int .u64 0)), (16, (.agg #[(.int .u64 2305843009213693951), (.int .u64 2305843009213693921), (.int .u64 2305843009213693907)])), (17, (iv x78))] [] (fun fb => by kernel_rfl) rfl trivial ?_
      refine WL.done rfl ?_
      exact fun fb_ a_ ha_ => ⟨v20_, v21_, v22_, v23_, v24_, v25_, v26_, v27_, v28_, (.pointer (some ⟨g75, 1, none⟩)), v30_, v31_, v32_, v33_, v34_, v35_, v36_, v37_, v38_, v39_, v40_, v41_, v42_, v43_, v44_, v45_, v46_, v47_, v48_, v49_, v50_, v51_, v52_, v53_, v54_, v55_, v56_, v57_, v58_, v59_, v60_, v61_, v62_, v63_, v64_, v65_, v66_, v67_, v68_, v69_, v70_, v71_, v72_, v73_, v74_, g87, g88, g89, g90, g91, fb_, ha_, (H_.upd 9 (.pointer (some ⟨g75, 1, none⟩)) rfl), hS_⟩
     ·intro d_ a_ w_ hd_ hj_ hc_ hI_
      have hi_ : 10 < 55 := by decide
      refine ex10 hI_ fun v20_ v21_ v22_ v23_ v24_ v25_ v26_ v27_ v28_ v29_ h0_ => ?_
      refine ex10 h0_ fun v30_ v31_ v32_ v33_ v34_ v35_ v36_ v37_ v38_ v39_ h1_ => ?_
      refine ex10 h1_ fun v40_ v41_ v42_ v43_ v44_ v45_ v46_ v47_ v48_ v49_ h2_ => ?_
      refine ex10 h2_ fun v50_ v51_ v52_ v53_ v54_ v55_ v56_ v57_ v58_ v59_ h3_ => ?_
      refine ex10 h3_ fun v60_ v61_ v62_ v63_ v64_ v65_ v66_ v67_ v68_ v69_ h4_ => ?_
      refine ex10 h4_ fun v70_ v71_ v72_ v73_ v74_ g87 g88 g89 g90 g91 h5_ => ?_
      obtain ⟨fb_, ha_, H_, hS_⟩ := h5_
      clear hI_ h0_ h1_ h2_ h3_ h4_
      obtain rfl : v29_ = (.pointer (some ⟨g75, 1, none⟩)) := H_ 9 _ rfl (hj_ 9 (memN_iff.1 (by kernel_rfl)))
      refine op_WL hi_ ha_ ?_
      refine seg 1 [.v (iv p4.Den)] [20, 21, 22, 23, 24, 25, 26, 27, 28, 29, 30, 31, 32, 33, 34, 35, 36, 37, 38, 39, 40, 41, 42, 43, 44, 45, 46, 47, 48, 49, 50, 51, 52, 53, 54, 55, 56, 57, 58, 59, 60, 61, 62, 63, 64, 65, 66, 67, 68, 69, 70, 71, 72, 73, 74, 5, 6, 7, 8, 9, 12, 13, 16, 17] [(20, v20_), (21, v21_), (22, v22_), (23, v23_), (24, v24_), (25, v25_), (26, v26_), (27, v27_), (28, v28_), (29, (.pointer (some ⟨g75, 1, none⟩))), (30, (iv p4.Den)), (31, v31_), (32, v32_), (33, v33_), (34, v34_), (35, v35_), (36, v36_), (37, v37_), (38, v38_), (39, v39_), (40, v40_), (41, v41_), (42, v42_), (43, v43_), (44, v44_), (45, v45_), (46, v46_), (47, v47_), (48, v48_), (49, v49_), (50, v50_), (51, v51_), (52, v52_), (53, v53_), (54, v54_), (55, v55_), (56, v56_), (57, v57_), (58, v58_), (59, v59_), (60, v60_), (61, v61_), (62, v62_), (63, v63_), (64, v64_), (65, v65_), (66, v66_), (67, v67_), (68, v68_), (69, v69_), (70, v70_), (71, v71_), (72, v72_), (73, v73_), (74, v74_), (5, (pt g6)), (6, (pt g9)), (7, (pt g14)), (8, (pt g17)), (9, (pt g75)), (12, (.int .u64 (getI [2305843009213693951, 2305843009213693921, 2305843009213693907] x78))), (13, (.int .u64 0)), (16, (.agg #[(.int .u64 2305843009213693951), (.int .u64 2305843009213693921), (.int .u64 2305843009213693907)])), (17, (iv x78))] [.cell ⟨g75, 1, none⟩ (iv p4.Den)] (fun fb => by kernel_rfl) rfl ⟨hS_.cell 9 rfl 1 rfl, trivial⟩ ?_
      refine WL.done rfl ?_
      exact fun fb_ a_ ha_ => ⟨v20_, v21_, v22_, v23_, v24_, v25_, v26_, v27_, v28_, (.pointer (some ⟨g75, 1, none⟩)), (iv p4.Den), v31_, v32_, v33_, v34_, v35_, v36_, v37_, v38_, v39_, v40_, v41_, v42_, v43_, v44_, v45_, v46_, v47_, v48_, v49_, v50_, v51_, v52_, v53_, v54_, v55_, v56_, v57_, v58_, v59_, v60_, v61_, v62_, v63_, v64_, v65_, v66_, v67_, v68_, v69_, v70_, v71_, v72_, v73_, v74_, g87, g88, g89, g90, g91, fb_, ha_, (H_.upd 10 (iv p4.Den) rfl), hS_⟩
     ·intro d_ a_ w_ hd_ hj_ hc_ hI_
      have hi_ : 11 < 55 := by decide
      refine ex10 hI_ fun v20_ v21_ v22_ v23_ v24_ v25_ v26_ v27_ v28_ v29_ h0_ => ?_
      refine ex10 h0_ fun v30_ v31_ v32_ v33_ v34_ v35_ v36_ v37_ v38_ v39_ h1_ => ?_
      refine ex10 h1_ fun v40_ v41_ v42_ v43_ v44_ v45_ v46_ v47_ v48_ v49_ h2_ => ?_
      refine ex10 h2_ fun v50_ v51_ v52_ v53_ v54_ v55_ v56_ v57_ v58_ v59_ h3_ => ?_
      refine ex10 h3_ fun v60_ v61_ v62_ v63_ v64_ v65_ v66_ v67_ v68_ v69_ h4_ => ?_
      refine ex10 h4_ fun v70_ v71_ v72_ v73_ v74_ g87 g88 g89 g90 g91 h5_ => ?_
      obtain ⟨fb_, ha_, H_, hS_⟩ := h5_
      clear hI_ h0_ h1_ h2_ h3_ h4_
      obtain rfl : v22_ = (iv p0.Num) := H_ 2 _ rfl (hj_ 2 (memN_iff.1 (by kernel_rfl)))
      obtain rfl : v24_ = (iv p1.Num) := H_ 4 _ rfl (hj_ 4 (memN_iff.1 (by kernel_rfl)))
      obtain rfl : v26_ = (iv p2.Den) := H_ 6 _ rfl (hj_ 6 (memN_iff.1 (by kernel_rfl)))
      obtain rfl : v28_ = (iv p3.Den) := H_ 8 _ rfl (hj_ 8 (memN_iff.1 (by kernel_rfl)))
      obtain rfl : v30_ = (iv p4.Den) := H_ 10 _ rfl (hj_ 10 (memN_iff.1 (by kernel_rfl)))
      refine op_WL hi_ ha_ ?_
      refine WL.new hS_ 31 [] (fun g => (.slice (some ⟨g, 0, none⟩) 5 5)) (.cells #[(iv p0.Num), (iv p1.Num), (iv p2.Den), (iv p3.Den), (iv p4.Den)] 3 (0, 0)) [] (fun fb g => by kernel_rfl) trivial (fun g92 w93 hS94 => ?_)
      refine ⟨trivial, ?_⟩
      have hS95 := hS.go w93 [rowO 3 encInt (some ⟨g92, 0, none⟩) 5 [p0.Num, p1.Num, p2.Den, p3.Den, p4.Den], sO (d_ 11) (rowO 3 encInt (some ⟨g87, 0, none⟩) 5 [p0.Num, p1.Num, p2.Den, p3.Den, p4.Den]), sO (d_ 24) (rowO 3 encInt (some ⟨g88, 0, none⟩) 5 [p2.Num, p0.Den, p1.Den, p3.Den, p4.Den]), sO (d_ 37) (rowO 3 encInt (some ⟨g89, 0, none⟩) 5 [p3.Num, p0.Den, p1.Den, p2.Den, p4.Den]), sO (d_ 50) (rowO 3 encInt (some ⟨g90, 0, none⟩) 5 [p4.Num, p0.Den, p1.Den, p2.Den, p3.Den]), sO (d_ 52) (rowO 60 encU64 (some ⟨g91, 0, none⟩) 4 [t96, t105, t114, t123]), blk g6 (.cells #[(iv p0.Num), (iv p0.Den)] 36 (0, 0)), blk g9 (.cells #[(iv p1.Num), (iv p1.Den)] 36 (0, 0)), blk g14 (.cells #[(iv p2.Num), (iv p2.Den)] 36 (0, 0)), blk g17 (.cells #[(iv p3.Num), (iv p3.Den)] 36 (0, 0)), blk g75 (.cells #[(iv p4.Num), (iv p4.Den)] 36 (0, 0))] (hS94.map1 0 _ (fun h => rowO.ofBlk h rfl (Nat.le_of_ble_eq_true (by kernel_rfl))) (fun _ h => by obtain ⟨_, h1, h2⟩ := h; injection h1 with h1; subst h1; exact h2) [1, 2, 3, 4, 5, 6, 7, 8, 9, 10] (by decide) (by decide))
      refine WL.reE [20, 21, 22, 23, 24, 25, 26, 27, 28, 29, 30, 31, 32, 33, 34, 35, 36, 37, 38, 39, 40, 41, 42, 43, 44, 45, 46, 47, 48, 49, 50, 51, 52, 53, 54, 55, 56, 57, 58, 59, 60, 61, 62, 63, 64, 65, 66, 67, 68, 69, 70, 71, 72, 73, 74, 5, 6, 7, 8, 9, 12, 13, 16, 17] [(20, v20_), (21, v21_), (22, (iv p0.Num)), (23, v23_), (24, (iv p1.Num)), (25, v25_), (26, (iv p2.Den)), (27, v27_), (28, (iv p3.Den)), (29, v29_), (30, (iv p4.Den)), (31, (.slice (some ⟨g92, 0, none⟩) [p0.Num, p1.Num, p2.Den, p3.Den, p4.Den].length 5)), (32, v32_), (33, v33_), (34, v34_), (35, v35_), (36, v36_), (37, v37_), (38, v38_), (39, v39_), (40, v40_), (41, v41_), (42, v42_), (43, v43_), (44, v44_), (45, v45_), (46, v46_), (47, v47_), (48, v48_), (49, v49_), (50, v50_), (51, v51_), (52, v52_), (53, v53_), (54, v54_), (55, v55_), (56, v56_), (57, v57_), (58, v58_), (59, v59_), (60, v60_), (61, v61_), (62, v62_), (63, v63_), (64, v64_), (65, v65_), (66, v66_), (67, v67_), (68, v68_), (69, v69_), (70, v70_), (71, v71_), (72, v72_), (73, v73_), (74, v74_), (5, (pt g6)), (6, (pt g9)), (7, (pt g14)), (8, (pt g17)), (9, (pt g75)), (12, (.int .u64 (getI [2305843009213693951, 2305843009213693921, 2305843009213693907] x78))), (13, (.int .u64 0)), (16, (.agg #[(.int .u64 2305843009213693951), (.int .u64 2305843009213693921), (.int .u64 2305843009213693907)])), (17, (iv x78))] [(20, v20_), (21, v21_), (22, (iv p0.Num)), (23, v23_), (24, (iv p1.Num)), (25, v25_), (26, (iv p2.Den)), (27, v27_), (28, (iv p3.Den)), (29, v29_), (30, (iv p4.Den)), (31, (.slice (some ⟨g92, 0, none⟩) [p0.Num, p1.Num, p2.Den, p3.Den, p4.Den].length 5)), (32, v32_), (33, v33_), (34, v34_), (35, v35_), (36, v36_), (37, v37_), (38, v38_), (39, v39_), (40, v40_), (41, v41_), (42, v42_), (43, v43_), (44, v44_), (45, v45_), (46, v46_), (47, v47_), (48, v48_), (49, v49_), (50, v50_), (51, v51_), (52, v52_), (53, v53_), (54, v54_), (55, v55_), (56, v56_), (57, v57_), (58, v58_), (59, v59_), (60, v60_), (61, v61_), (62, v62_), (63, v63_), (64, v64_), (65, v65_), (66, v66_), (67, v67_), (68, v68_), (69, v69_), (70, v70_), (71, v71_), (72, v72_), (73, v73_), (74, v74_), (5, (pt g6)), (6, (pt g9)), (7, (pt g14)), (8, (pt g17)), (9, (pt g75)), (12, (.int .u64 (getI [2305843009213693951, 2305843009213693921, 2305843009213693907] x78))), (13, (.int .u64 0)), (16, (.agg #[(.int .u64 2305843009213693951), (.int .u64 2305843009213693921), (.int .u64 2305843009213693907)])), (17, (iv x78))] rfl rfl ?_
      refine WL.done rfl ?_
      exact fun fb_ a_ ha_ => ⟨v20_, v21_, (iv p0.Num), v23_, (iv p1.Num), v25_, (iv p2.Den), v27_, (iv p3.Den), v29_, (iv p4.Den), (sv (some ⟨g92, 0, none⟩) [p0.Num, p1.Num, p2.Den, p3.Den, p4.Den] 5), v32_, v33_, v34_, v35_, v36_, v37_, v38_, v39_, v40_, v41_, v42_, v43_, v44_, v45_, v46_, v47_, v48_, v49_, v50_, v51_, v52_, v53_, v54_, v55_, v56_, v57_, v58_, v59_, v60_, v61_, v62_, v63_, v64_, v65_, v66_, v67_, v68_, v69_, v70_, v71_, v72_, v73_, v74_, g92, g88, g89, g90, g91, fb_, ha_, (H_.upd 11 (sv (some ⟨g92, 0, none⟩) [p0.Num, p1.Num, p2.Den, p3.Den, p4.Den] 5) rfl), (hS95.sub [0, 2, 3, 4, 5, 6, 7, 8, 9, 10] (by decide))⟩
     ·intro d_ a_ w_ hd_ hj_ hc_ hI_
      have hi_ : 12 < 55 := by decide
      refine ex10 hI_ fun v20_ v21_ v22_ v23_ v24_ v25_ v26_ v27_ v28_ v29_ h0_ => ?_
      refine ex10 h0_ fun v30_ v31_ v32_ v33_ v34_ v35_ v36_ v37_ v38_ v39_ h1_ => ?_
      refine ex10 h1_ fun v40_ v41_ v42_ v43_ v44_ v45_ v46_ v47_ v48_ v49_ h2_ => ?_
      refine ex10 h2_ fun v50_ v51_ v52_ v53_ v54_ v55_ v56_ v57_ v58_ v59_ h3_ => ?_
      refine ex10 h3_ fun v60_ v61_ v62_ v63_ v64_ v65_ v66_ v67_ v68_ v69_ h4_ => ?_
      refine ex10 h4_ fun v70_ v71_ v72_ v73_ v74_ g87 g88 g89 g90 g91 h5_ => ?_
      obtain ⟨fb_, ha_, H_, hS_⟩ := h5_
      clear hI_ h0_ h1_ h2_ h3_ h4_
      obtain rfl : v20_ = (.int .u64 (getI [2305843009213693951, 2305843009213693921, 2305843009213693907] x78)) := H_ 0 _ rfl (hj_ 0 (memN_iff.1 (by kernel_rfl)))
      obtain rfl : v31_ = (sv (some ⟨g87, 0, none⟩) [p0.Num, p1.Num, p2.Den, p3.Den, p4.Den] 5) := H_ 11 _ rfl (hj_ 11 (memN_iff.1 (by kernel_rfl)))
      have e11_ : d_ 11 = true := hj_ 11 (memN_iff.1 (by kernel_rfl))
      rw [e11_] at hS_
      refine op_WL hi_ ha_ ?_
      refine WL.call (some 32) 32 #[(.int .u64 (getI [2305843009213693951, 2305843009213693921, 2305843009213693907] x78)), (iv 1), (sv (some ⟨g87, 0, none⟩) [p0.Num, p1.Num, p2.Den, p3.Den, p4.Den] 5)] (fun fb => by kernel_rfl) (weight_product_calls _ (getI [2305843009213693951, 2305843009213693921, 2305843009213693907] x78) 1 [p0.Num, p1.Num, p2.Den, p3.Den, p4.Den] (some ⟨g87, 0, none⟩) 5 t96 _ (hS_.ow 0).ofO ht97) (fun v w98 hR99 => ?_)
      obtain ⟨rfl, hk_⟩ := hR99
      have hS100 := hS_.keepN hk_
      refine ⟨trivial, ?_⟩
      refine WL.reE [20, 21, 22, 23, 24, 25, 26, 27, 28, 29, 30, 31, 32, 33, 34, 35, 36, 37, 38, 39, 40, 41, 42, 43, 44, 45, 46, 47, 48, 49, 50, 51, 52, 53, 54, 55, 56, 57, 58, 59, 60, 61, 62, 63, 64, 65, 66, 67, 68, 69, 70, 71, 72, 73, 74, 5, 6, 7, 8, 9, 12, 13, 16, 17] [(20, (.int .u64 (getI [2305843009213693951, 2305843009213693921, 2305843009213693907] x78))), (21, v21_), (22, v22_), (23, v23_), (24, v24_), (25, v25_), (26, v26_), (27, v27_), (28, v28_), (29, v29_), (30, v30_), (31, (.slice (some ⟨g87, 0, none⟩) [p0.Num, p1.Num, p2.Den, p3.Den, p4.Den].length 5)), (32, (.int .u64 t96)), (33, v33_), (34, v34_), (35, v35_), (36, v36_), (37, v37_), (38, v38_), (39, v39_), (40, v40_), (41, v41_), (42, v42_), (43, v43_), (44, v44_), (45, v45_), (46, v46_), (47, v47_), (48, v48_), (49, v49_), (50, v50_), (51, v51_), (52, v52_), (53, v53_), (54, v54_), (55, v55_), (56, v56_), (57, v57_), (58, v58_), (59, v59_), (60, v60_), (61, v61_), (62, v62_), (63, v63_), (64, v64_), (65, v65_), (66, v66_), (67, v67_), (68, v68_), (69, v69_), (70, v70_), (71, v71_), (72, v72_), (73, v73_), (74, v74_), (5, (pt g6)), (6, (pt g9)), (7, (pt g14)), (8, (pt g17)), (9, (pt g75)), (12, (.int .u64 (getI [2305843009213693951, 2305843009213693921, 2305843009213693907] x78))), (13, (.int .u64 0)), (16, (.agg #[(.int .u64 2305843009213693951), (.int .u64 2305843009213693921), (.int .u64 2305843009213693907)])), (17, (iv x78))] [(20, (.int .u64 (getI [2305843009213693951, 2305843009213693921, 2305843009213693907] x78))), (21, v21_), (22, v22_), (23, v23_), (24, v24_), (25, v25_), (26, v26_), (27, v27_), (28, v28_), (29, v29_), (30, v30_), (31, (.slice (some ⟨g87, 0, none⟩) [p0.Num, p1.Num, p2.Den, p3.Den, p4.Den].length 5)), (32, (.int .u64 t96)), (33, v33_), (34, v34_), (35, v35_), (36, v36_), (37, v37_), (38, v38_), (39, v39_), (40, v40_), (41, v41_), (42, v42_), (43, v43_), (44, v44_), (45, v45_), (46, v46_), (47, v47_), (48, v48_), (49, v49_), (50, v50_), (51, v51_), (52, v52_), (53, v53_), (54, v54_), (55, v55_), (56, v56_), (57, v57_), (58, v58_), (59, v59_), (60, v60_), (61, v61_), (62, v62_), (63, v63_), (64, v64_), (65, v65_), (66, v66_), (67, v67_), (68, v68_), (69, v69_), (70, v70_), (71, v71_), (72, v72_), (73, v73_), (74, v74_), (5, (pt g6)), (6, (pt g9)), (7, (pt g14)), (8, (pt g17)), (9, (pt g75)), (12, (.int .u64 (getI [2305843009213693951, 2305843009213693921, 2305843009213693907] x78))), (13, (.int .u64 0)), (16, (.agg #[(.int .u64 2305843009213693951), (.int .u64 2305843009213693921), (.int .u64 2305843009213693907)])), (17, (iv x78))] rfl rfl ?_
      refine WL.done rfl ?_
      exact fun fb_ a_ ha_ => ⟨(.int .u64 (getI [2305843009213693951, 2305843009213693921, 2305843009213693907] x78)), v21_, v22_, v23_, v24_, v25_, v26_, v27_, v28_, v29_, v30_, (.slice (some ⟨g87, 0, none⟩) [p0.Num, p1.Num, p2.Den, p3.Den, p4.Den].length 5), (.int .u64 t96), v33_, v34_, v35_, v36_, v37_, v38_, v39_, v40_, v41_, v42_, v43_, v44_, v45_, v46_, v47_, v48_, v49_, v50_, v51_, v52_, v53_, v54_, v55_, v56_, v57_, v58_, v59_, v60_, v61_, v62_, v63_, v64_, v65_, v66_, v67_, v68_, v69_, v70_, v71_, v72_, v73_, v74_, g87, g88, g89, g90, g91, fb_, ha_, (H_.upd 12 (.int .u64 t96) rfl), (by rw [show upd d_ 12 11 = true from e11_]; exact hS100)⟩
     ·intro d_ a_ w_ hd_ hj_ hc_ hI_
      have hi_ : 13 < 55 := by decide
      refine ex10 hI_ fun v20_ v21_ v22_ v23_ v24_ v25_ v26_ v27_ v28_ v29_ h0_ => ?_
      refine ex10 h0_ fun v30_ v31_ v32_ v33_ v34_ v35_ v36_ v37_ v38_ v39_ h1_ => ?_
      refine ex10 h1_ fun v40_ v41_ v42_ v43_ v44_ v45_ v46_ v47_ v48_ v49_ h2_ => ?_
      refine ex10 h2_ fun v50_ v51_ v52_ v53_ v54_ v55_ v56_ v57_ v58_ v59_ h3_ => ?_
      refine ex10 h3_ fun v60_ v61_ v62_ v63_ v64_ v65_ v66_ v67_ v68_ v69_ h4_ => ?_
      refine ex10 h4_ fun v70_ v71_ v72_ v73_ v74_ g87 g88 g89 g90 g91 h5_ => ?_
      obtain ⟨fb_, ha_, H_, hS_⟩ := h5_
      clear hI_ h0_ h1_ h2_ h3_ h4_
      refine op_WL hi_ ha_ ?_
      refine seg 1 [] [20, 21, 22, 23, 24, 25, 26, 27, 28, 29, 30, 31, 32, 33, 34, 35, 36, 37, 38, 39, 40, 41, 42, 43, 44, 45, 46, 47, 48, 49, 50, 51, 52, 53, 54, 55, 56, 57, 58, 59, 60, 61, 62, 63, 64, 65, 66, 67, 68, 69, 70, 71, 72, 73, 74, 5, 6, 7, 8, 9, 12, 13, 16, 17] [(20, v20_), (21, v21_), (22, v22_), (23, v23_), (24, v24_), (25, v25_), (26, v26_), (27, v27_), (28, v28_), (29, v29_), (30, v30_), (31, v31_), (32, v32_), (33, (.int .u64 (getI [2305843009213693951, 2305843009213693921, 2305843009213693907] x78))), (34, v34_), (35, v35_), (36, v36_), (37, v37_), (38, v38_), (39, v39_), (40, v40_), (41, v41_), (42, v42_), (43, v43_), (44, v44_), (45, v45_), (46, v46_), (47, v47_), (48, v48_), (49, v49_), (50, v50_), (51, v51_), (52, v52_), (53, v53_), (54, v54_), (55, v55_), (56, v56_), (57, v57_), (58, v58_), (59, v59_), (60, v60_), (61, v61_), (62, v62_), (63, v63_), (64, v64_), (65, v65_), (66, v66_), (67, v67_), (68, v68_), (69, v69_), (70, v70_), (71, v71_), (72, v72_), (73, v73_), (74, v74_), (5, (pt g6)), (6, (pt g9)), (7, (pt g14)), (8, (pt g17)), (9, (pt g75)), (12, (.int .u64 (getI [2305843009213693951, 2305843009213693921, 2305843009213693907] x78))), (13, (.int .u64 0)), (16, (.agg #[(.int .u64 2305843009213693951), (.int .u64 2305843009213693921), (.int .u64 2305843009213693907)])), (17, (iv x78))] [] (fun fb => by kernel_rfl) rfl trivial ?_
      refine WL.done rfl ?_
      exact fun fb_ a_ ha_ => ⟨v20_, v21_, v22_, v23_, v24_, v25_, v26_, v27_, v28_, v29_, v30_, v31_, v32_, (.int .u64 (getI [2305843009213693951, 2305843009213693921, 2305843009213693907] x78)), v34_, v35_, v36_, v37_, v38_, v39_, v40_, v41_, v42_, v43_, v44_, v45_, v46_, v47_, v48_, v49_, v50_, v51_, v52_, v53_, v54_, v55_, v56_, v57_, v58_, v59_, v60_, v61_, v62_, v63_, v64_, v65_, v66_, v67_, v68_, v69_, v70_, v71_, v72_, v73_, v74_, g87, g88, g89, g90, g91, fb_, ha_, (H_.upd 13 (.int .u64 (getI [2305843009213693951, 2305843009213693921, 2305843009213693907] x78)) rfl), hS_⟩
     ·intro d_ a_ w_ hd_ hj_ hc_ hI_
      have hi_ : 14 < 55 := by decide
      refine ex10 hI_ fun v20_ v21_ v22_ v23_ v24_ v25_ v26_ v27_ v28_ v29_ h0_ => ?_
      refine ex10 h0_ fun v30_ v31_ v32_ v33_ v34_ v35_ v36_ v37_ v38_ v39_ h1_ => ?_
      refine ex10 h1_ fun v40_ v41_ v42_ v43_ v44_ v45_ v46_ v47_ v48_ v49_ h2_ => ?_
      refine ex10 h2_ fun v50_ v51_ v52_ v53_ v54_ v55_ v56_ v57_ v58_ v59_ h3_ => ?_
      refine ex10 h3_ fun v60_ v61_ v62_ v63_ v64_ v65_ v66_ v67_ v68_ v69_ h4_ => ?_
      refine ex10 h4_ fun v70_ v71_ v72_ v73_ v74_ g87 g88 g89 g90 g91 h5_ => ?_
      obtain ⟨fb_, ha_, H_, hS_⟩ := h5_
      clear hI_ h0_ h1_ h2_ h3_ h4_
      refine op_WL hi_ ha_ ?_
      refine seg 1 [] [20, 21, 22, 23, 24, 25, 26, 27, 28, 29, 30, 31, 32, 33, 34, 35, 36, 37, 38, 39, 40, 41, 42, 43, 44, 45, 46, 47, 48, 49, 50, 51, 52, 53, 54, 55, 56, 57, 58, 59, 60, 61, 62, 63, 64, 65, 66, 67, 68, 69, 70, 71, 72, 73, 74, 5, 6, 7, 8, 9, 12, 13, 16, 17] [(20, v20_), (21, v21_), (22, v22_), (23, v23_), (24, v24_), (25, v25_), (26, v26_), (27, v27_), (28, v28_), (29, v29_), (30, v30_), (31, v31_), (32, v32_), (33, v33_), (34, (pt g14)), (35, v35_), (36, v36_), (37, v37_), (38, v38_), (39, v39_), (40, v40_), (41, v41_), (42, v42_), (43, v43_), (44, v44_), (45, v45_), (46, v46_), (47, v47_), (48, v48_), (49, v49_), (50, v50_), (51, v51_), (52, v52_), (53, v53_), (54, v54_), (55, v55_), (56, v56_), (57, v57_), (58, v58_), (59, v59_), (60, v60_), (61, v61_), (62, v62_), (63, v63_), (64, v64_), (65, v65_), (66, v66_), (67, v67_), (68, v68_), (69, v69_), (70, v70_), (71, v71_), (72, v72_), (73, v73_), (74, v74_), (5, (pt g6)), (6, (pt g9)), (7, (pt g14)), (8, (pt g17)), (9, (pt g75)), (12, (.int .u64 (getI [2305843009213693951, 2305843009213693921, 2305843009213693907] x78))), (13, (.int .u64 0)), (16, (.agg #[(.int .u64 2305843009213693951), (.int .u64 2305843009213693921), (.int .u64 2305843009213693907)])), (17, (iv x78))] [] (fun fb => by kernel_rfl) rfl trivial ?_
      refine WL.done rfl ?_
      exact fun fb_ a_ ha_ => ⟨v20_, v21_, v22_, v23_, v24_, v25_, v26_, v27_, v28_, v29_, v30_, v31_, v32_, v33_, (pt g14), v35_, v36_, v37_, v38_, v39_, v40_, v41_, v42_, v43_, v44_, v45_, v46_, v47_, v48_, v49_, v50_, v51_, v52_, v53_, v54_, v55_, v56_, v57_, v58_, v59_, v60_, v61_, v62_, v63_, v64_, v65_, v66_, v67_, v68_, v69_, v70_, v71_, v72_, v73_, v74_, g87, g88, g89, g90, g91, fb_, ha_, (H_.upd 14 (pt g14) rfl), hS_⟩
     ·intro d_ a_ w_ hd_ hj_ hc_ hI_
      have hi_ : 15 < 55 := by decide
      refine ex10 hI_ fun v20_ v21_ v22_ v23_ v24_ v25_ v26_ v27_ v28_ v29_ h0_ => ?_
      refine ex10 h0_ fun v30_ v31_ v32_ v33_ v34_ v35_ v36_ v37_ v38_ v39_ h1_ => ?_
      refine ex10 h1_ fun v40_ v41_ v42_ v43_ v44_ v45_ v46_ v47_ v48_ v49_ h2_ => ?_
      refine ex10 h2_ fun v50_ v51_ v52_ v53_ v54_ v55_ v56_ v57_ v58_ v59_ h3_ => ?_
      refine ex10 h3_ fun v60_ v61_ v62_ v63_ v64_ v65_ v66_ v67_ v68_ v69_ h4_ => ?_
      refine ex10 h4_ fun v70_ v71_ v72_ v73_ v74_ g87 g88 g89 g90 g91 h5_ => ?_
      obtain ⟨fb_, ha_, H_, hS_⟩ := h5_
      clear hI_ h0_ h1_ h2_ h3_ h4_
      obtain rfl : v34_ = (pt g14) := H_ 14 _ rfl (hj_ 14 (memN_iff.1 (by kernel_rfl)))
      refine op_WL hi_ ha_ ?_
      refine seg 1 [.v (iv p2.Num)] [20, 21, 22, 23, 24, 25, 26, 27, 28, 29, 30, 31, 32, 33, 34, 35, 36, 37, 38, 39, 40, 41, 42, 43, 44, 45, 46, 47, 48, 49, 50, 51, 52, 53, 54, 55, 56, 57, 58, 59, 60, 61, 62, 63, 64, 65, 66, 67, 68, 69, 70, 71, 72, 73, 74, 5, 6, 7, 8, 9, 12, 13, 16, 17] [(20, v20_), (21, v21_), (22, v22_), (23, v23_), (24, v24_), (25, v25_), (26, v26_), (27, v27_), (28, v28_), (29, v29_), (30, v30_), (31, v31_), (32, v32_), (33, v33_), (34, (pt g14)), (35, (iv p2.Num)), (36, v36_), (37, v37_), (38, v38_), (39, v39_), (40, v40_), (41, v41_), (42, v42_), (43, v43_), (44, v44_), (45, v45_), (46, v46_), (47, v47_), (48, v48_), (49, v49_), (50, v50_), (51, v51_), (52, v52_), (53, v53_), (54, v54_), (55, v55_), (56, v56_), (57, v57_), (58, v58_), (59, v59_), (60, v60_), (61, v61_), (62, v62_), (63, v63_), (64, v64_), (65, v65_), (66, v66_), (67, v67_), (68, v68_), (69, v69_), (70, v70_), (71, v71_), (72, v72_), (73, v73_), (74, v74_), (5, (pt g6)), (6, (pt g9)), (7, (pt g14)), (8, (pt g17)), (9, (pt g75)), (12, (.int .u64 (getI [2305843009213693951, 2305843009213693921, 2305843009213693907] x78))), (13, (.int .u64 0)), (16, (.agg #[(.int .u64 2305843009213693951), (.int .u64 2305843009213693921), (.int .u64 2305843009213693907)])), (17, (iv x78))] [.cell ⟨g14, 0, none⟩ (iv p2.Num)] (fun fb => by kernel_rfl) rfl ⟨hS_.cell 7 rfl 0 rfl, trivial⟩ ?_
      refine WL.done rfl ?_
      exact fun fb_ a_ ha_ => ⟨v20_, v21_, v22_, v23_, v24_, v25_, v26_, v27_, v28_, v29_, v30_, v31_, v32_, v33_, (pt g14), (iv p2.Num), v36_, v37_, v38_, v39_, v40_, v41_, v42_, v43_, v44_, v45_, v46_, v47_, v48_, v49_, v50_, v51_, v52_, v53_, v54_, v55_, v56_, v57_, v58_, v59_, v60_, v61_, v62_, v63_, v64_, v65_, v66_, v67_, v68_, v69_, v70_, v71_, v72_, v73_, v74_, g87, g88, g89, g90, g91, fb_, ha_, (H_.upd 15 (iv p2.Num) rfl), hS_⟩
     ·intro d_ a_ w_ hd_ hj_ hc_ hI_
      have hi_ : 16 < 55 := by decide
      refine ex10 hI_ fun v20_ v21_ v22_ v23_ v24_ v25_ v26_ v27_ v28_ v29_ h0_ => ?_
      refine ex10 h0_ fun v30_ v31_ v32_ v33_ v34_ v35_ v36_ v37_ v38_ v39_ h1_ => ?_
      refine ex10 h1_ fun v40_ v41_ v42_ v43_ v44_ v45_ v46_ v47_ v48_ v49_ h2_ => ?_
      refine ex10 h2_ fun v50_ v51_ v52_ v53_ v54_ v55_ v56_ v57_ v58_ v59_ h3_ => ?_
      refine ex10 h3_ fun v60_ v61_ v62_ v63_ v64_ v65_ v66_ v67_ v68_ v69_ h4_ => ?_
      refine ex10 h4_ fun v70_ v71_ v72_ v73_ v74_ g87 g88 g89 g90 g91 h5_ => ?_
      obtain ⟨fb_, ha_, H_, hS_⟩ := h5_
      clear hI_ h0_ h1_ h2_ h3_ h4_
      refine op_WL hi_ ha_ ?_
      refine seg 1 [] [20, 21, 22, 23, 24, 25, 26, 27, 28, 29, 30, 31, 32, 33, 34, 35, 36, 37, 38, 39, 40, 41, 42, 43, 44, 45, 46, 47, 48, 49, 50, 51, 52, 53, 54, 55, 56, 57, 58, 59, 60, 61, 62, 63, 64, 65, 66, 67, 68, 69, 70, 71, 72, 73, 74, 5, 6, 7, 8, 9, 12, 13, 16, 17] [(20, v20_), (21, v21_), (22, v22_), (23, v23_), (24, v24_), (25, v25_), (26, v26_), (27, v27_), (28, v28_), (29, v29_), (30, v30_), (31, v31_), (32, v32_), (33, v33_), (34, v34_), (35, v35_), (36, (.pointer (some ⟨g6, 1, none⟩))), (37, v37_), (38, v38_), (39, v39_), (40, v40_), (41, v41_), (42, v42_), (43, v43_), (44, v44_), (45, v45_), (46, v46_), (47, v47_), (48, v48_), (49, v49_), (50, v50_), (51, v51_), (52, v52_), (53, v53_), (54, v54_), (55, v55_), (56, v56_), (57, v57_), (58, v58_), (59, v59_), (60, v60_), (61, v61_), (62, v62_), (63, v63_), (64, v64_), (65, v65_), (66, v66_), (67, v67_), (68, v68_), (69, v69_), (70, v70_), (71, v71_), (72, v72_), (73, v73_), (74, v74_), (5, (pt g6)), (6, (pt g9)), (7, (pt g14)), (8, (pt g17)), (9, (pt g75)), (12, (.int .u64 (getI [2305843009213693951, 2305843009213693921, 2305843009213693907] x78))), (13, (.int .u64 0)), (16, (.agg #[(.int .u64 2305843009213693951), (.int .u64 2305843009213693921), (.int .u64 2305843009213693907)])), (17, (iv x78))] [] (fun fb => by kernel_rfl) rfl trivial ?_
      refine WL.done rfl ?_
      exact fun fb_ a_ ha_ => ⟨v20_, v21_, v22_, v23_, v24_, v25_, v26_, v27_, v28_, v29_, v30_, v31_, v32_, v33_, v34_, v35_, (.pointer (some ⟨g6, 1, none⟩)), v37_, v38_, v39_, v40_, v41_, v42_, v43_, v44_, v45_, v46_, v47_, v48_, v49_, v50_, v51_, v52_, v53_, v54_, v55_, v56_, v57_, v58_, v59_, v60_, v61_, v62_, v63_, v64_, v65_, v66_, v67_, v68_, v69_, v70_, v71_, v72_, v73_, v74_, g87, g88, g89, g90, g91, fb_, ha_, (H_.upd 16 (.pointer (some ⟨g6, 1, none⟩)) rfl), hS_⟩
     ·intro d_ a_ w_ hd_ hj_ hc_ hI_
      have hi_ : 17 < 55 := by decide
      refine ex10 hI_ fun v20_ v21_ v22_ v23_ v24_ v25_ v26_ v27_ v28_ v29_ h0_ => ?_
      refine ex10 h0_ fun v30_ v31_ v32_ v33_ v34_ v35_ v36_ v37_ v38_ v39_ h1_ => ?_
      refine ex10 h1_ fun v40_ v41_ v42_ v43_ v44_ v45_ v46_ v47_ v48_ v49_ h2_ => ?_
      refine ex10 h2_ fun v50_ v51_ v52_ v53_ v54_ v55_ v56_ v57_ v58_ v59_ h3_ => ?_
      refine ex10 h3_ fun v60_ v61_ v62_ v63_ v64_ v65_ v66_ v67_ v68_ v69_ h4_ => ?_
      refine ex10 h4_ fun v70_ v71_ v72_ v73_ v74_ g87 g88 g89 g90 g91 h5_ => ?_
      obtain ⟨fb_, ha_, H_, hS_⟩ := h5_
      clear hI_ h0_ h1_ h2_ h3_ h4_
      obtain rfl : v36_ = (.pointer (some ⟨g6, 1, none⟩)) := H_ 16 _ rfl (hj_ 16 (memN_iff.1 (by kernel_rfl)))
      refine op_WL hi_ ha_ ?_
      refine seg 1 [.v (iv p0.Den)] [20, 21, 22, 23, 24, 25, 26, 27, 28, 29, 30, 31, 32, 33, 34, 35, 36, 37, 38, 39, 40, 41, 42, 43, 44, 45, 46, 47, 48, 49, 50, 51, 52, 53, 54, 55, 56, 57, 58, 59, 60, 61, 62, 63, 64, 65, 66, 67, 68, 69, 70, 71, 72, 73, 74, 5, 6, 7, 8, 9, 12, 13, 16, 17] [(20, v20_), (21, v21_), (22, v22_), (23, v23_), (24, v24_), (25, v25_), (26, v26_), (27, v27_), (28, v28_), (29, v29_), (30, v30_), (31, v31_), (32, v32_), (33, v33_), (34, v34_), (35, v35_), (36, (.pointer (some ⟨g6, 1, none⟩))), (37, (iv p0.Den)), (38, v38_), (39, v39_), (40, v40_), (41, v41_), (42, v42_), (43, v43_), (44, v44_), (45, v45_), (46, v46_), (47, v47_), (48, v48_), (49, v49_), (50, v50_), (51, v51_), (52, v52_), (53, v53_), (54, v54_), (55, v55_), (56, v56_), (57, v57_), (58, v58_), (59, v59_), (60, v60_), (61, v61_), (62, v62_), (63, v63_), (64, v64_), (65, v65_), (66, v66_), (67, v67_), (68, v68_), (69, v69_), (70, v70_), (71, v71_), (72, v72_), (73, v73_), (74, v74_), (5, (pt g6)), (6, (pt g9)), (7, (pt g14)), (8, (pt g17)), (9, (pt g75)), (12, (.int .u64 (getI [2305843009213693951, 2305843009213693921, 2305843009213693907] x78))), (13, (.int .u64 0)), (16, (.agg #[(.int .u64 2305843009213693951), (.int .u64 2305843009213693921), (.int .u64 2305843009213693907)])), (17, (iv x78))] [.cell ⟨g6, 1, none⟩ (iv p0.Den)] (fun fb => by kernel_rfl) rfl ⟨hS_.cell 5 rfl 1 rfl, trivial⟩ ?_
      refine WL.done rfl ?_
      exact fun fb_ a_ ha_ => ⟨v20_, v21_, v22_, v23_, v24_, v25_, v26_, v27_, v28_, v29_, v30_, v31_, v32_, v33_, v34_, v35_, (.pointer (some ⟨g6, 1, none⟩)), (iv p0.Den), v38_, v39_, v40_, v41_, v42_, v43_, v44_, v45_, v46_, v47_, v48_, v49_, v50_, v51_, v52_, v53_, v54_, v55_, v56_, v57_, v58_, v59_, v60_, v61_, v62_, v63_, v64_, v65_, v66_, v67_, v68_, v69_, v70_, v71_, v72_, v73_, v74_, g87, g88, g89, g90, g91, fb_, ha_, (H_.upd 17 (iv p0.Den) rfl), hS_⟩
     ·intro d_ a_ w_ hd_ hj_ hc_ hI_
      have hi_ : 18 < 55 := by decide
      refine ex10 hI_ fun v20_ v21_ v22_ v23_ v24_ v25_ v26_ v27_ v28_ v29_ h0_ => ?_
      refine ex10 h0_ fun v30_ v31_ v32_ v33_ v34_ v35_ v36_ v37_ v38_ v39_ h1_ => ?_
      refine ex10 h1_ fun v40_ v41_ v42_ v43_ v44_ v45_ v46_ v47_ v48_ v49_ h2_ => ?_
      refine ex10 h2_ fun v50_ v51_ v52_ v53_ v54_ v55_ v56_ v57_ v58_ v59_ h3_ => ?_
      refine ex10 h3_ fun v60_ v61_ v62_ v63_ v64_ v65_ v66_ v67_ v68_ v69_ h4_ => ?_
      refine ex10 h4_ fun v70_ v71_ v72_ v73_ v74_ g87 g88 g89 g90 g91 h5_ => ?_
      obtain ⟨fb_, ha_, H_, hS_⟩ := h5_
      clear hI_ h0_ h1_ h2_ h3_ h4_
      refine op_WL hi_ ha_ ?_
      refine seg 1 [] [20, 21, 22, 23, 24, 25, 26, 27, 28, 29, 30, 31, 32, 33, 34, 35, 36, 37, 38, 39, 40, 41, 42, 43, 44, 45, 46, 47, 48, 49, 50, 51, 52, 53, 54, 55, 56, 57, 58, 59, 60, 61, 62, 63, 64, 65, 66, 67, 68, 69, 70, 71, 72, 73, 74, 5, 6, 7, 8, 9, 12, 13, 16, 17] [(20, v20_), (21, v21_), (22, v22_), (23, v23_), (24, v24_), (25, v25_), (26, v26_), (27, v27_), (28, v28_), (29, v29_), (30, v30_), (31, v31_), (32, v32_), (33, v33_), (34, v34_), (35, v35_), (36, v36_), (37, v37_), (38, (.pointer (some ⟨g9, 1, none⟩))), (39, v39_), (40, v40_), (41, v41_), (42, v42_), (43, v43_), (44, v44_), (45, v45_), (46, v46_), (47, v47_), (48, v48_), (49, v49_), (50, v50_), (51, v51_), (52, v52_), (53, v53_), (54, v54_), (55, v55_), (56, v56_), (57, v57_), (58, v58_), (59, v59_), (60, v60_), (61, v61_), (62, v62_), (63, v63_), (64, v64_), (65, v65_), (66, v66_), (67, v67_), (68, v68_), (69, v69_), (70, v70_), (71, v71_), (72, v72_), (73, v73_), (74, v74_), (5, (pt g6)), (6, (pt g9)), (7, (pt g14)), (8, (pt g17)), (9, (pt g75)), (12, (.int .u64 (getI [2305843009213693951, 2305843009213693921, 2305843009213693907] x78))), (13, (.int .u64 0)), (16, (.agg #[(.int .u64 2305843009213693951), (.int .u64 2305843009213693921), (.int .u64 2305843009213693907)])), (17, (iv x78))] [] (fun fb => by kernel_rfl) rfl trivial ?_
      refine WL.done rfl ?_
      exact fun fb_ a_ ha_ => ⟨v20_, v21_, v22_, v23_, v24_, v25_, v26_, v27_, v28_, v29_, v30_, v31_, v32_, v33_, v34_, v35_, v36_, v37_, (.pointer (some ⟨g9, 1, none⟩)), v39_, v40_, v41_, v42_, v43_, v44_, v45_, v46_, v47_, v48_, v49_, v50_, v51_, v52_, v53_, v54_, v55_, v56_, v57_, v58_, v59_, v60_, v61_, v62_, v63_, v64_, v65_, v66_, v67_, v68_, v69_, v70_, v71_, v72_, v73_, v74_, g87, g88, g89, g90, g91, fb_, ha_, (H_.upd 18 (.pointer (some ⟨g9, 1, none⟩)) rfl), hS_⟩
     ·intro d_ a_ w_ hd_ hj_ hc_ hI_
      have hi_ : 19 < 55 := by decide
      refine ex10 hI_ fun v20_ v21_ v22_ v23_ v24_ v25_ v26_ v27_ v28_ v29_ h0_ => ?_
      refine ex10 h0_ fun v30_ v31_ v32_ v33_ v34_ v35_ v36_ v37_ v38_ v39_ h1_ => ?_
      refine ex10 h1_ fun v40_ v41_ v42_ v43_ v44_ v45_ v46_ v47_ v48_ v49_ h2_ => ?_
      refine ex10 h2_ fun v50_ v51_ v52_ v53_ v54_ v55_ v56_ v57_ v58_ v59_ h3_ => ?_
      refine ex10 h3_ fun v60_ v61_ v62_ v63_ v64_ v65_ v66_ v67_ v68_ v69_ h4_ => ?_
      refine ex10 h4_ fun v70_ v71_ v72_ v73_ v74_ g87 g88 g89 g90 g91 h5_ => ?_
      obtain ⟨fb_, ha_, H_, hS_⟩ := h5_
      clear hI_ h0_ h1_ h2_ h3_ h4_
      obtain rfl : v38_ = (.pointer (some ⟨g9, 1, none⟩)) := H_ 18 _ rfl (hj_ 18 (memN_iff.1 (by kernel_rfl)))
      refine op_WL hi_ ha_ ?_
      refine seg 1 [.v (iv p1.Den)] [20, 21, 22, 23, 24, 25, 26, 27, 28, 29, 30, 31, 32, 33, 34, 35, 36, 37, 38, 39, 40, 41, 42, 43, 44, 45, 46, 47, 48, 49, 50, 51, 52, 53, 54, 55, 56, 57, 58, 59, 60, 61, 62, 63, 64, 65, 66, 67, 68, 69, 70, 71, 72, 73, 74, 5, 6, 7, 8, 9, 12, 13, 16, 17] [(20, v20_), (21, v21_), (22, v22_), (23, v23_), (24, v24_), (25, v25_), (26, v26_), (27, v27_), (28, v28_), (29, v29_), (30, v30_), (31, v31_), (32, v32_), (33, v33_), (34, v34_), (35, v35_), (36, v36_), (37, v37_), (38, (.pointer (some ⟨g9, 1, none⟩))), (39, (iv p1.Den)), (40, v40_), (41, v41_), (42, v42_), (43, v43_), (44, v44_), (45, v45_), (46, v46_), (47, v47_), (48, v48_), (49, v49_), (50, v50_), (51, v51_), (52, v52_), (53, v53_), (54, v54_), (55, v55_), (56, v56_), (57, v57_), (58, v58_), (59, v59_), (60, v60_), (61, v61_), (62, v62_), (63, v63_), (64, v64_), (65, v65_), (66, v66_), (67, v67_), (68, v68_), (69, v69_), (70, v70_), (71, v71_), (72, v72_), (73, v73_), (74, v74_), (5, (pt g6)), (6, (pt g9)), (7, (pt g14)), (8, (pt g17)), (9, (pt g75)), (12, (.int .u64 (getI [2305843009213693951, 2305843009213693921, 2305843009213693907] x78))), (13, (.int .u64 0)), (16, (.agg #[(.int .u64 2305843009213693951), (.int .u64 2305843009213693921), (.int .u64 2305843009213693907)])), (17, (iv x78))] [.cell ⟨g9, 1, none⟩ (iv p1.Den)] (fun fb => by kernel_rfl) rfl ⟨hS_.cell 6 rfl 1 rfl, trivial⟩ ?_
      refine WL.done rfl ?_
      exact fun fb_ a_ ha_ => ⟨v20_, v21_, v22_, v23_, v24_, v25_, v26_, v27_, v28_, v29_, v30_, v31_, v32_, v33_, v34_, v35_, v36_, v37_, (.pointer (some ⟨g9, 1, none⟩)), (iv p1.Den), v40_, v41_, v42_, v43_, v44_, v45_, v46_, v47_, v48_, v49_, v50_, v51_, v52_, v53_, v54_, v55_, v56_, v57_, v58_, v59_, v60_, v61_, v62_, v63_, v64_, v65_, v66_, v67_, v68_, v69_, v70_, v71_, v72_, v73_, v74_, g87, g88, g89, g90, g91, fb_, ha_, (H_.upd 19 (iv p1.Den) rfl), hS_⟩
     ·intro d_ a_ w_ hd_ hj_ hc_ hI_
      have hi_ : 20 < 55 := by decide
      refine ex10 hI_ fun v20_ v21_ v22_ v23_ v24_ v25_ v26_ v27_ v28_ v29_ h0_ => ?_
      refine ex10 h0_ fun v30_ v31_ v32_ v33_ v34_ v35_ v36_ v37_ v38_ v39_ h1_ => ?_
      refine ex10 h1_ fun v40_ v41_ v42_ v43_ v44_ v45_ v46_ v47_ v48_ v49_ h2_ => ?_
      refine ex10 h2_ fun v50_ v51_ v52_ v53_ v54_ v55_ v56_ v57_ v58_ v59_ h3_ => ?_
      refine ex10 h3_ fun v60_ v61_ v62_ v63_ v64_ v65_ v66_ v67_ v68_ v69_ h4_ => ?_
      refine ex10 h4_ fun v70_ v71_ v72_ v73_ v74_ g87 g88 g89 g90 g91 h5_ => ?_
      obtain ⟨fb_, ha_, H_, hS_⟩ := h5_
      clear hI_ h0_ h1_ h2_ h3_ h4_
      refine op_WL hi_ ha_ ?_
      refine seg 1 [] [20, 21, 22, 23, 24, 25, 26, 27, 28, 29, 30, 31, 32, 33, 34, 35, 36, 37, 38, 39, 40, 41, 42, 43, 44, 45, 46, 47, 48, 49, 50, 51, 52, 53, 54, 55, 56, 57, 58, 59, 60, 61, 62, 63, 64, 65, 66, 67, 68, 69, 70, 71, 72, 73, 74, 5, 6, 7, 8, 9, 12, 13, 16, 17] [(20, v20_), (21, v21_), (22, v22_), (23, v23_), (24, v24_), (25, v25_), (26, v26_), (27, v27_), (28, v28_), (29, v29_), (30, v30_), (31, v31_), (32, v32_), (33, v33_), (34, v34_), (35, v35_), (36, v36_), (37, v37_), (38, v38_), (39, v39_), (40, (.pointer (some ⟨g17, 1, none⟩))), (41, v41_), (42, v42_), (43, v43_), (44, v44_), (45, v45_), (46, v46_), (47, v47_), (48, v48_), (49, v49_), (50, v50_), (51, v51_), (52, v52_), (53, v53_), (54, v54_), (55, v55_), (56, v56_), (57, v57_), (58, v58_), (59, v59_), (60, v60_), (61, v61_), (62, v62_), (63, v63_), (64, v64_), (65, v65_), (66, v66_), (67, v67_), (68, v68_), (69, v69_), (70, v70_), (71, v71_), (72, v72_), (73, v73_), (74, v74_), (5, (pt g6)), (6, (pt g9)), (7, (pt g14)), (8, (pt g17)), (9, (pt g75)), (12, (.int .u64 (getI [2305843009213693951, 2305843009213693921, 2305843009213693907] x78))), (13, (.int .u64 0)), (16, (.agg #[(.int .u64 2305843009213693951), (.int .u64 2305843009213693921), (.int .u64 2305843009213693907)])), (17, (iv x78))] [] (fun fb => by kernel_rfl) rfl trivial ?_
      refine WL.done rfl ?_
      exact fun fb_ a_ ha_ => ⟨v20_, v21_, v22_, v23_, v24_, v25_, v26_, v27_, v28_, v29_, v30_, v31_, v32_, v33_, v34_, v35_, v36_, v37_, v38_, v39_, (.pointer (some ⟨g17, 1, none⟩)), v41_, v42_, v43_, v44_, v45_, v46_, v47_, v48_, v49_, v50_, v51_, v52_, v53_, v54_, v55_, v56_, v57_, v58_, v59_, v60_, v61_, v62_, v63_, v64_, v65_, v66_, v67_, v68_, v69_, v70_, v71_, v72_, v73_, v74_, g87, g88, g89, g90, g91, fb_, ha_, (H_.upd 20 (.pointer (some ⟨g17, 1, none⟩)) rfl), hS_⟩
     ·intro d_ a_ w_ hd_ hj_ hc_ hI_
      have hi_ : 21 < 55 := by decide
      refine ex10 hI_ fun v20_ v21_ v22_ v23_ v24_ v25_ v26_ v27_ v28_ v29_ h0_ => ?_
      refine ex10 h0_ fun v30_ v31_ v32_ v33_ v34_ v35_ v36_ v37_ v38_ v39_ h1_ => ?_
      refine ex10 h1_ fun v40_ v41_ v42_ v43_ v44_ v45_ v46_ v47_ v48_ v49_ h2_ => ?_
      refine ex10 h2_ fun v50_ v51_ v52_ v53_ v54_ v55_ v56_ v57_ v58_ v59_ h3_ => ?_
      refine ex10 h3_ fun v60_ v61_ v62_ v63_ v64_ v65_ v66_ v67_ v68_ v69_ h4_ => ?_
      refine ex10 h4_ fun v70_ v71_ v72_ v73_ v74_ g87 g88 g89 g90 g91 h5_ => ?_
      obtain ⟨fb_, ha_, H_, hS_⟩ := h5_
      clear hI_ h0_ h1_ h2_ h3_ h4_
      obtain rfl : v40_ = (.pointer (some ⟨g17, 1, none⟩)) := H_ 20 _ rfl (hj_ 20 (memN_iff.1 (by kernel_rfl)))
      refine op_WL hi_ ha_ ?_
      refine seg 1 [.v (iv p3.Den)] [20, 21, 22, 23, 24, 25, 26, 27, 28, 29, 30, 31, 32, 33, 34, 35, 36, 37, 38, 39, 40, 41, 42, 43, 44, 45, 46, 47, 48, 49, 50, 51, 52, 53, 54, 55, 56, 57, 58, 59, 60, 61, 62, 63, 64, 65, 66, 67, 68, 69, 70, 71, 72, 73, 74, 5, 6, 7, 8, 9, 12, 13, 16, 17] [(20, v20_), (21, v21_), (22, v22_), (23, v23_), (24, v24_), (25, v25_), (26, v26_), (27, v27_), (28, v28_), (29, v29_), (30, v30_), (31, v31_), (32, v32_), (33, v33_), (34, v34_), (35, v35_), (36, v36_), (37, v37_), (38, v38_), (39, v39_), (40, (.pointer (some ⟨g17, 1, none⟩))), (41, (iv p3.Den)), (42, v42_), (43, v43_), (44, v44_), (45, v45_), (46, v46_), (47, v47_), (48, v48_), (49, v49_), (50, v50_), (51, v51_), (52, v52_), (53, v53_), (54, v54_), (55, v55_), (56, v56_), (57, v57_), (58, v58_), (59, v59_), (60, v60_), (61, v61_), (62, v62_), (63, v63_), (64, v64_), (65, v65_), (66, v66_), (67, v67_), (68, v68_), (69, v69_), (70, v70_), (71, v71_), (72, v72_), (73, v73_), (74, v74_), (5, (pt g6)), (6, (pt g9)), (7, (pt g14)), (8, (pt g17)), (9, (pt g75)), (12, (.int .u64 (getI [2305843009213693951, 2305843009213693921, 2305843009213693907] x78))), (13, (.int .u64 0)), (16, (.agg #[(.int .u64 2305843009213693951), (.int .u64 2305843009213693921), (.int .u64 2305843009213693907)])), (17, (iv x78))] [.cell ⟨g17, 1, none⟩ (iv p3.Den)] (fun fb => by kernel_rfl) rfl ⟨hS_.cell 8 rfl 1 rfl, trivial⟩ ?_
      refine WL.done rfl ?_
      exact fun fb_ a_ ha_ => ⟨v20_, v21_, v22_, v23_, v24_, v25_, v26_, v27_, v28_, v29_, v30_, v31_, v32_, v33_, v34_, v35_, v36_, v37_, v38_, v39_, (.pointer (some ⟨g17, 1, none⟩)), (iv p3.Den), v42_, v43_, v44_, v45_, v46_, v47_, v48_, v49_, v50_, v51_, v52_, v53_, v54_, v55_, v56_, v57_, v58_, v59_, v60_, v61_, v62_, v63_, v64_, v65_, v66_, v67_, v68_, v69_, v70_, v71_, v72_, v73_, v74_, g87, g88, g89, g90, g91, fb_, ha_, (H_.upd 21 (iv p3.Den) rfl), hS_⟩
     ·intro d_ a_ w_ hd_ hj_ hc_ hI_
      have hi_ : 22 < 55 := by decide
      refine ex10 hI_ fun v20_ v21_ v22_ v23_ v24_ v25_ v26_ v27_ v28_ v29_ h0_ => ?_
      refine ex10 h0_ fun v30_ v31_ v32_ v33_ v34_ v35_ v36_ v37_ v38_ v39_ h1_ => ?_
      refine ex10 h1_ fun v40_ v41_ v42_ v43_ v44_ v45_ v46_ v47_ v48_ v49_ h2_ => ?_
      refine ex10 h2_ fun v50_ v51_ v52_ v53_ v54_ v55_ v56_ v57_ v58_ v59_ h3_ => ?_
      refine ex10 h3_ fun v60_ v61_ v62_ v63_ v64_ v65_ v66_ v67_ v68_ v69_ h4_ => ?_
      refine ex10 h4_ fun v70_ v71_ v72_ v73_ v74_ g87 g88 g89 g90 g91 h5_ => ?_
      obtain ⟨fb_, ha_, H_, hS_⟩ := h5_
      clear hI_ h0_ h1_ h2_ h3_ h4_
      refine op_WL hi_ ha_ ?_
      refine seg 1 [] [20, 21, 22, 23, 24, 25, 26, 27, 28, 29, 30, 31, 32, 33, 34, 35, 36, 37, 38, 39, 40, 41, 42, 43, 44, 45, 46, 47, 48, 49, 50, 51, 52, 53, 54, 55, 56, 57, 58, 59, 60, 61, 62, 63, 64, 65, 66, 67, 68, 69, 70, 71, 72, 73, 74, 5, 6, 7, 8, 9, 12, 13, 16, 17] [(20, v20_), (21, v21_), (22, v22_), (23, v23_), (24, v24_), (25, v25_), (26, v26_), (27, v27_), (28, v28_), (29, v29_), (30, v30_), (31, v31_), (32, v32_), (33, v33_), (34, v34_), (35, v35_), (36, v36_), (37, v37_), (38, v38_), (39, v39_), (40, v40_), (41, v41_), (42, (.pointer (some ⟨g75, 1, none⟩))), (43, v43_), (44, v44_), (45, v45_), (46, v46_), (47, v47_), (48, v48_), (49, v49_), (50, v50_), (51, v51_), (52, v52_), (53, v53_), (54, v54_), (55, v55_), (56, v56_), (57, v57_), (58, v58_), (59, v59_), (60, v60_), (61, v61_), (62, v62_), (63, v63_), (64, v64_), (65, v65_), (66, v66_), (67, v67_), (68, v68_), (69, v69_), (70, v70_), (71, v71_), (72, v72_), (73, v73_), (74, v74_), (5, (pt g6)), (6, (pt g9)), (7, (pt g14)), (8, (pt g17)), (9, (pt g75)), (12, (.int .u64 (getI [2305843009213693951, 2305843009213693921, 2305843009213693907] x78))), (13, (.int .u64 0)), (16, (.agg #[(.int .u64 2305843009213693951), (.int .u64 2305843009213693921), (.int .u64 2305843009213693907)])), (17, (iv x78))] [] (fun fb => by kernel_rfl) rfl trivial ?_
      refine WL.done rfl ?_
      exact fun fb_ a_ ha_ => ⟨v20_, v21_, v22_, v23_, v24_, v25_, v26_, v27_, v28_, v29_, v30_, v31_, v32_, v33_, v34_, v35_, v36_, v37_, v38_, v39_, v40_, v41_, (.pointer (some ⟨g75, 1, none⟩)), v43_, v44_, v45_, v46_, v47_, v48_, v49_, v50_, v51_, v52_, v53_, v54_, v55_, v56_, v57_, v58_, v59_, v60_, v61_, v62_, v63_, v64_, v65_, v66_, v67_, v68_, v69_, v70_, v71_, v72_, v73_, v74_, g87, g88, g89, g90, g91, fb_, ha_, (H_.upd 22 (.pointer (some ⟨g75, 1, none⟩)) rfl), hS_⟩
     ·intro d_ a_ w_ hd_ hj_ hc_ hI_
      have hi_ : 23 < 55 := by decide
      refine ex10 hI_ fun v20_ v21_ v22_ v23_ v24_ v25_ v26_ v27_ v28_ v29_ h0_ => ?_
      refine ex10 h0_ fun v30_ v31_ v32_ v33_ v34_ v35_ v36_ v37_ v38_ v39_ h1_ => ?_
      refine ex10 h1_ fun v40_ v41_ v42_ v43_ v44_ v45_ v46_ v47_ v48_ v49_ h2_ => ?_
      refine ex10 h2_ fun v50_ v51_ v52_ v53_ v54_ v55_ v56_ v57_ v58_ v59_ h3_ => ?_
      refine ex10 h3_ fun v60_ v61_ v62_ v63_ v64_ v65_ v66_ v67_ v68_ v69_ h4_ => ?_
      refine ex10 h4_ fun v70_ v71_ v72_ v73_ v74_ g87 g88 g89 g90 g91 h5_ => ?_
      obtain ⟨fb_, ha_, H_, hS_⟩ := h5_
      clear hI_ h0_ h1_ h2_ h3_ h4_
      obtain rfl : v42_ = (.pointer (some ⟨g75, 1, none⟩)) := H_ 22 _ rfl (hj_ 22 (memN_iff.1 (by kernel_rfl)))
      refine op_WL hi_ ha_ ?_
      refine seg 1 [.v (iv p4.Den)] [20, 21, 22, 23, 24, 25, 26, 27, 28, 29, 30, 31, 32, 33, 34, 35, 36, 37, 38, 39, 40, 41, 42, 43, 44, 45, 46, 47, 48, 49, 50, 51, 52, 53, 54, 55, 56, 57, 58, 59, 60, 61, 62, 63, 64, 65, 66, 67, 68, 69, 70, 71, 72, 73, 74, 5, 6, 7, 8, 9, 12, 13, 16, 17] [(20, v20_), (21, v21_), (22, v22_), (23, v23_), (24, v24_), (25, v25_), (26, v26_), (27, v27_), (28, v28_), (29, v29_), (30, v30_), (31, v31_), (32, v32_), (33, v33_), (34, v34_), (35, v35_), (36, v36_), (37, v37_), (38, v38_), (39, v39_), (40, v40_), (41, v41_), (42, (.pointer (some ⟨g75, 1, none⟩))), (43, (iv p4.Den)), (44, v44_), (45, v45_), (46, v46_), (47, v47_), (48, v48_), (49, v49_), (50, v50_), (51, v51_), (52, v52_), (53, v53_), (54, v54_), (55, v55_), (56, v56_), (57, v57_), (58, v58_), (59, v59_), (60, v60_), (61, v61_), (62, v62_), (63, v63_), (64, v64_), (65, v65_), (66, v66_), (67, v67_), (68, v68_), (69, v69_), (70, v70_), (71, v71_), (72, v72_), (73, v73_), (74, v74_), (5, (pt g6)), (6, (pt g9)), (7, (pt g14)), (8, (pt g17)), (9, (pt g75)), (12, (.int .u64 (getI [2305843009213693951, 2305843009213693921, 2305843009213693907] x78))), (13, (.int .u64 0)), (16, (.agg #[(.int .u64 2305843009213693951), (.int .u64 2305843009213693921), (.int .u64 2305843009213693907)])), (17, (iv x78))] [.cell ⟨g75, 1, none⟩ (iv p4.Den)] (fun fb => by kernel_rfl) rfl ⟨hS_.cell 9 rfl 1 rfl, trivial⟩ ?_
      refine WL.done rfl ?_
      exact fun fb_ a_ ha_ => ⟨v20_, v21_, v22_, v23_, v24_, v25_, v26_, v27_, v28_, v29_, v30_, v31_, v32_, v33_, v34_, v35_, v36_, v37_, v38_, v39_, v40_, v41_, (.pointer (some ⟨g75, 1, none⟩)), (iv p4.Den), v44_, v45_, v46_, v47_, v48_, v49_, v50_, v51_, v52_, v53_, v54_, v55_, v56_, v57_, v58_, v59_, v60_, v61_, v62_, v63_, v64_, v65_, v66_, v67_, v68_, v69_, v70_, v71_, v72_, v73_, v74_, g87, g88, g89, g90, g91, fb_, ha_, (H_.upd 23 (iv p4.Den) rfl), hS_⟩
     ·intro d_ a_ w_ hd_ hj_ hc_ hI_
      have hi_ : 24 < 55 := by decide
      refine ex10 hI_ fun v20_ v21_ v22_ v23_ v24_ v25_ v26_ v27_ v28_ v29_ h0_ => ?_
      refine ex10 h0_ fun v30_ v31_ v32_ v33_ v34_ v35_ v36_ v37_ v38_ v39_ h1_ => ?_
      refine ex10 h1_ fun v40_ v41_ v42_ v43_ v44_ v45_ v46_ v47_ v48_ v49_ h2_ => ?_
      refine ex10 h2_ fun v50_ v51_ v52_ v53_ v54_ v55_ v56_ v57_ v58_ v59_ h3_ => ?_
      refine ex10 h3_ fun v60_ v61_ v62_ v63_ v64_ v65_ v66_ v67_ v68_ v69_ h4_ => ?_
      refine ex10 h4_ fun v70_ v71_ v72_ v73_ v74_ g87 g88 g89 g90 g91 h5_ => ?_
      obtain ⟨fb_, ha_, H_, hS_⟩ := h5_
      clear hI_ h0_ h1_ h2_ h3_ h4_
      obtain rfl : v35_ = (iv p2.Num) := H_ 15 _ rfl (hj_ 15 (memN_iff.1 (by kernel_rfl)))
      obtain rfl : v37_ = (iv p0.Den) := H_ 17 _ rfl (hj_ 17 (memN_iff.1 (by kernel_rfl)))
      obtain rfl : v39_ = (iv p1.Den) := H_ 19 _ rfl (hj_ 19 (memN_iff.1 (by kernel_rfl)))
      obtain rfl : v41_ = (iv p3.Den) := H_ 21 _ rfl (hj_ 21 (memN_iff.1 (by kernel_rfl)))
      obtain rfl : v43_ = (iv p4.Den) := H_ 23 _ rfl (hj_ 23 (memN_iff.1 (by kernel_rfl)))
      refine op_WL hi_ ha_ ?_
      refine WL.new hS_ 44 [] (fun g => (.slice (some ⟨g, 0, none⟩) 5 5)) (.cells #[(iv p2.Num), (iv p0.Den), (iv p1.Den), (iv p3.Den), (iv p4.Den)] 3 (0, 0)) [] (fun fb g => by kernel_rfl) trivial (fun g101 w102 hS103 => ?_)
      refine ⟨trivial, ?_⟩
      have hS104 := hS.go w102 [rowO 3 encInt (some ⟨g101, 0, none⟩) 5 [p2.Num, p0.Den, p1.Den, p3.Den, p4.Den], sO (d_ 11) (rowO 3 encInt (some ⟨g87, 0, none⟩) 5 [p0.Num, p1.Num, p2.Den, p3.Den, p4.Den]), sO (d_ 24) (rowO 3 encInt (some ⟨g88, 0, none⟩) 5 [p2.Num, p0.Den, p1.Den, p3.Den, p4.Den]), sO (d_ 37) (rowO 3 encInt (some ⟨g89, 0, none⟩) 5 [p3.Num, p0.Den, p1.Den, p2.Den, p4.Den]), sO (d_ 50) (rowO 3 encInt (some ⟨g90, 0, none⟩) 5 [p4.Num, p0.Den, p1.Den, p2.Den, p3.Den]), sO (d_ 52) (rowO 60 encU64 (some ⟨g91, 0, none⟩) 4 [t96, t105, t114, t123]), blk g6 (.cells #[(iv p0.Num), (iv p0.Den)] 36 (0, 0)), blk g9 (.cells #[(iv p1.Num), (iv p1.Den)] 36 (0, 0)), blk g14 (.cells #[(iv p2.Num), (iv p2.Den)] 36 (0, 0)), blk g17 (.cells #[(iv p3.Num), (iv p3.Den)] 36 (0, 0)), blk g75 (.cells #[(iv p4.Num), (iv p4.Den)] 36 (0, 0))] (hS103.map1 0 _ (fun h => rowO.ofBlk h rfl (Nat.le_of_ble_eq_true (by kernel_rfl))) (fun _ h => by obtain ⟨_, h1, h2⟩ := h; injection h1 with h1; subst h1; exact h2) [1, 2, 3, 4, 5, 6, 7, 8, 9, 10] (by decide) (by decide))
      refine WL.reE [20, 21, 22, 23, 24, 25, 26, 27, 28, 29, 30, 31, 32, 33, 34, 35, 36, 37, 38, 39, 40, 41, 42, 43, 44, 45, 46, 47, 48, 49, 50, 51, 52, 53, 54, 55, 56, 57, 58, 59, 60, 61, 62, 63, 64, 65, 66, 67, 68, 69, 70, 71, 72, 73, 74, 5, 6, 7, 8, 9, 12, 13, 16, 17] [(20, v20_), (21, v21_), (22, v22_), (23, v23_), (24, v24_), (25, v25_), (26, v26_), (27, v27_), (28, v28_), (29, v29_), (30, v30_), (31, v31_), (32, v32_), (33, v33_), (34, v34_), (35, (iv p2.Num)), (36, v36_), (37, (iv p0.Den)), (38, v38_), (39, (iv p1.Den)), (40, v40_), (41, (iv p3.Den)), (42, v42_), (43, (iv p4.Den)), (44, (.slice (some ⟨g101, 0, none⟩) [p2.Num, p0.Den, p1.Den, p3.Den, p4.Den].length 5)), (45, v45_), (46, v46_), (47, v47_), (48, v48_), (49, v49_), (50, v50_), (51, v51_), (52, v52_), (53, v53_), (54, v54_), (55, v55_), (56, v56_), (57, v57_), (58, v58_), (59, v59_), (60, v60_), (61, v61_), (62, v62_), (63, v63_), (64, v64_), (65, v65_), (66, v66_), (67, v67_), (68, v68_), (69, v69_), (70, v70_), (71, v71_), (72, v72_), (73, v73_), (74, v74_), (5, (pt g6)), (6, (pt g9)), (7, (pt g14)), (8, (pt g17)), (9, (pt g75)), (12, (.int .u64 (getI [2305843009213693951, 2305843009213693921, 2305843009213693907] x78))), (13, (.int .u64 0)), (16, (.agg #[(.int .u64 2305843009213693951), (.int .u64 2305843009213693921), (.int .u64 2305843009213693907)])), (17, (iv x78))] [(20, v20_), (21, v21_), (22, v22_), (23, v23_), (24, v24_), (25, v25_), (26, v26_), (27, v27_), (28, v28_), (29, v29_), (30, v30_), (31, v31_), (32, v32_), (33, v33_), (34, v34_), (35, (iv p2.Num)), (36, v36_), (37, (iv p0.Den)), (38, v38_), (39, (iv p1.Den)), (40, v40_), (41, (iv p3.Den)), (42, v42_), (43, (iv p4.Den)), (44, (.slice (some ⟨g101, 0, none⟩) [p2.Num, p0.Den, p1.Den, p3.Den, p4.Den].length 5)), (45, v45_), (46, v46_), (47, v47_), (48, v48_), (49, v49_), (50, v50_), (51, v51_), (52, v52_), (53, v53_), (54, v54_), (55, v55_), (56, v56_), (57, v57_), (58, v58_), (59, v59_), (60, v60_), (61, v61_), (62, v62_), (63, v63_), (64, v64_), (65, v65_), (66, v66_), (67, v67_), (68, v68_), (69, v69_), (70, v70_), (71, v71_), (72, v72_), (73, v73_), (74, v74_), (5, (pt g6)), (6, (pt g9)), (7, (pt g14)), (8, (pt g17)), (9, (pt g75)), (12, (.int .u64 (getI [2305843009213693951, 2305843009213693921, 2305843009213693907] x78))), (13, (.int .u64 0)), (16, (.agg #[(.int .u64 2305843009213693951), (.int .u64 2305843009213693921), (.int .u64 2305843009213693907)])), (17, (iv x78))] rfl rfl ?_
      refine WL.done rfl ?_
      exact fun fb_ a_ ha_ => ⟨v20_, v21_, v22_, v23_, v24_, v25_, v26_, v27_, v28_, v29_, v30_, v31_, v32_, v33_, v34_, (iv p2.Num), v36_, (iv p0.Den), v38_, (iv p1.Den), v40_, (iv p3.Den), v42_, (iv p4.Den), (sv (some ⟨g101, 0, none⟩) [p2.Num, p0.Den, p1.Den, p3.Den, p4.Den] 5), v45_, v46_, v47_, v48_, v49_, v50_, v51_, v52_, v53_, v54_, v55_, v56_, v57_, v58_, v59_, v60_, v61_, v62_, v63_, v64_, v65_, v66_, v67_, v68_, v69_, v70_, v71_, v72_, v73_, v74_, g87, g101, g89, g90, g91, fb_, ha_, (H_.upd 24 (sv (some ⟨g101, 0, none⟩) [p2.Num, p0.Den, p1.Den, p3.Den, p4.Den] 5) rfl), (hS104.sub [1, 0, 3, 4, 5, 6, 7, 8, 9, 10] (by decide))⟩
     ·intro d_ a_ w_ hd_ hj_ hc_ hI_
      have hi_ : 25 < 55 := by decide
      refine ex10 hI_ fun v20_ v21_ v22_ v23_ v24_ v25_ v26_ v27_ v28_ v29_ h0_ => ?_
      refine ex10 h0_ fun v30_ v31_ v32_ v33_ v34_ v35_ v36_ v37_ v38_ v39_ h1_ => ?_
      refine ex10 h1_ fun v40_ v41_ v42_ v43_ v44_ v45_ v46_ v47_ v48_ v49_ h2_ => ?_
      refine ex10 h2_ fun v50_ v51_ v52_ v53_ v54_ v55_ v56_ v57_ v58_ v59_ h3_ => ?_
      refine ex10 h3_ fun v60_ v61_ v62_ v63_ v64_ v65_ v66_ v67_ v68_ v69_ h4_ => ?_
      refine ex10 h4_ fun v70_ v71_ v72_ v73_ v74_ g87 g88 g89 g90 g91 h5_ => ?_
      obtain ⟨fb_, ha_, H_, hS_⟩ := h5_
      clear hI_ h0_ h1_ h2_ h3_ h4_
      obtain rfl : v33_ = (.int .u64 (getI [2305843009213693951, 2305843009213693921, 2305843009213693907] x78)) := H_ 13 _ rfl (hj_ 13 (memN_iff.1 (by kernel_rfl)))
      obtain rfl : v44_ = (sv (some ⟨g88, 0, none⟩) [p2.Num, p0.Den, p1.Den, p3.Den, p4.Den] 5) := H_ 24 _ rfl (hj_ 24 (memN_iff.1 (by kernel_rfl)))
      have e24_ : d_ 24 = true := hj_ 24 (memN_iff.1 (by kernel_rfl))
      rw [e24_] at hS_
      refine op_WL hi_ ha_ ?_
      refine WL.call (some 45) 32 #[(.int .u64 (getI [2305843009213693951, 2305843009213693921, 2305843009213693907] x78)), (iv 1), (sv (some ⟨g88, 0, none⟩) [p2.Num, p0.Den, p1.Den, p3.Den, p4.Den] 5)] (fun fb => by kernel_rfl) (weight_product_calls _ (getI [2305843009213693951, 2305843009213693921, 2305843009213693907] x78) 1 [p2.Num, p0.Den, p1.Den, p3.Den, p4.Den] (some ⟨g88, 0, none⟩) 5 t105 _ (hS_.ow 1).ofO ht106) (fun v w107 hR108 => ?_)
      obtain ⟨rfl, hk_⟩ := hR108
      have hS109 := hS_.keepN hk_
      refine ⟨trivial, ?_⟩
      refine WL.reE [20, 21, 22, 23, 24, 25, 26, 27, 28, 29, 30, 31, 32, 33, 34, 35, 36, 37, 38, 39, 40, 41, 42, 43, 44, 45, 46, 47, 48, 49, 50, 51, 52, 53, 54, 55, 56, 57, 58, 59, 60, 61, 62, 63, 64, 65, 66, 67, 68, 69, 70, 71, 72, 73, 74, 5, 6, 7, 8, 9, 12, 13, 16, 17] [(20, v20_), (21, v21_), (22, v22_), (23, v23_), (24, v24_), (25, v25_), (26, v26_), (27, v27_), (28, v28_), (29, v29_), (30, v30_), (31, v31_), (32, v32_), (33, (.int .u64 (getI [2305843009213693951, 2305843009213693921, 2305843009213693907] x78))), (34, v34_), (35, v35_), (36, v36_), (37, v37_), (38, v38_), (39, v39_), (40, v40_), (41, v41_), (42, v42_), (43, v43_), (44, (.slice (some ⟨g88, 0, none⟩) [p2.Num, p0.Den, p1.Den, p3.Den, p4.Den].length 5)), (45, (.int .u64 t105)), (46, v46_), (47, v47_), (48, v48_), (49, v49_), (50, v50_), (51, v51_), (52, v52_), (53, v53_), (54, v54_), (55, v55_), (56, v56_), (57, v57_), (58, v58_), (59, v59_), (60, v60_), (61, v61_), (62, v62_), (63, v63_), (64, v64_), (65, v65_), (66, v66_), (67, v67_), (68, v68_), (69, v69_), (70, v70_), (71, v71_), (72, v72_), (73, v73_), (74, v74_), (5, (pt g6)), (6, (pt g9)), (7, (pt g14)), (8, (pt g17)), (9, (pt g75)), (12, (.int .u64 (getI [2305843009213693951, 2305843009213693921, 2305843009213693907] x78))), (13, (.int .u64 0)), (16, (.agg #[(.int .u64 2305843009213693951), (.int .u64 2305843009213693921), (.int .u64 2305843009213693907)])), (17, (iv x78))] [(20, v20_), (21, v21_), (22, v22_), (23, v23_), (24, v24_), (25, v25_), (26, v26_), (27, v27_), (28, v28_), (29, v29_), (30, v30_), (31, v31_), (32, v32_), (33, (.int .u64 (getI [2305843009213693951, 2305843009213693921, 2305843009213693907] x78))), (34, v34_), (35, v35_), (36, v36_), (37, v37_), (38, v38_), (39, v39_), (40, v40_), (41, v41_), (42, v42_), (43, v43_), (44, (.slice (some ⟨g88, 0, none⟩) [p2.Num, p0.Den, p1.Den, p3.Den, p4.Den].length 5)), (45, (.int .u64 t105)), (46, v46_), (47, v47_), (48, v48_), (49, v49_), (50, v50_), (51, v51_), (52, v52_), (53, v53_), (54, v54_), (55, v55_), (56, v56_), (57, v57_), (58, v58_), (59, v59_), (60, v60_), (61, v61_), (62, v62_), (63, v63_), (64, v64_), (65, v65_), (66, v66_), (67, v67_), (68, v68_), (69, v69_), (70, v70_), (71, v71_), (72, v72_), (73, v73_), (74, v74_), (5, (pt g6)), (6, (pt g9)), (7, (pt g14)), (8, (pt g17)), (9, (pt g75)), (12, (.int .u64 (getI [2305843009213693951, 2305843009213693921, 2305843009213693907] x78))), (13, (.int .u64 0)), (16, (.agg #[(.int .u64 2305843009213693951), (.int .u64 2305843009213693921), (.int .u64 2305843009213693907)])), (17, (iv x78))] rfl rfl ?_
      refine WL.done rfl ?_
      exact fun fb_ a_ ha_ => ⟨v20_, v21_, v22_, v23_, v24_, v25_, v26_, v27_, v28_, v29_, v30_, v31_, v32_, (.int .u64 (getI [2305843009213693951, 2305843009213693921, 2305843009213693907] x78)), v34_, v35_, v36_, v37_, v38_, v39_, v40_, v41_, v42_, v43_, (.slice (some ⟨g88, 0, none⟩) [p2.Num, p0.Den, p1.Den, p3.Den, p4.Den].length 5), (.int .u64 t105), v46_, v47_, v48_, v49_, v50_, v51_, v52_, v53_, v54_, v55_, v56_, v57_, v58_, v59_, v60_, v61_, v62_, v63_, v64_, v65_, v66_, v67_, v68_, v69_, v70_, v71_, v72_, v73_, v74_, g87, g88, g89, g90, g91, fb_, ha_, (H_.upd 25 (.int .u64 t105) rfl), (by rw [show upd d_ 25 24 = true from e24_]; exact hS109)⟩
     ·intro d_ a_ w_ hd_ hj_ hc_ hI_
      have hi_ : 26 < 55 := by decide
      refine ex10 hI_ fun v20_ v21_ v22_ v23_ v24_ v25_ v26_ v27_ v28_ v29_ h0_ => ?_
      refine ex10 h0_ fun v30_ v31_ v32_ v33_ v34_ v35_ v36_ v37_ v38_ v39_ h1_ => ?_
      refine ex10 h1_ fun v40_ v41_ v42_ v43_ v44_ v45_ v46_ v47_ v48_ v49_ h2_ => ?_
      refine ex10 h2_ fun v50_ v51_ v52_ v53_ v54_ v55_ v56_ v57_ v58_ v59_ h3_ => ?_
      refine ex10 h3_ fun v60_ v61_ v62_ v63_ v64_ v65_ v66_ v67_ v68_ v69_ h4_ => ?_
      refine ex10 h4_ fun v70_ v71_ v72_ v73_ v74_ g87 g88 g89 g90 g91 h5_ => ?_
      obtain ⟨fb_, ha_, H_, hS_⟩ := h5_
      clear hI_ h0_ h1_ h2_ h3_ h4_
      refine op_WL hi_ ha_ ?_
      refine seg 1 [] [20, 21, 22, 23, 24, 25, 26, 27, 28, 29, 30, 31, 32, 33, 34, 35, 36, 37, 38, 39, 40, 41, 42, 43, 44, 45, 46, 47, 48, 49, 50, 51, 52, 53, 54, 55, 56, 57, 58, 59, 60, 61, 62, 63, 64, 65, 66, 67, 68, 69, 70, 71, 72, 73, 74, 5, 6, 7, 8, 9, 12, 13, 16, 17] [(20, v20_), (21, v21_), (22, v22_), (23, v23_), (24, v24_), (25, v25_), (26, v26_), (27, v27_), (28, v28_), (29, v29_), (30, v30_), (31, v31_), (32, v32_), (33, v33_), (34, v34_), (35, v35_), (36, v36_), (37, v37_), (38, v38_), (39, v39_), (40, v40_), (41, v41_), (42, v42_), (43, v43_), (44, v44_), (45, v45_), (46, (.int .u64 (getI [2305843009213693951, 2305843009213693921, 2305843009213693907] x78))), (47, v47_), (48, v48_), (49, v49_), (50, v50_), (51, v51_), (52, v52_), (53, v53_), (54, v54_), (55, v55_), (56, v56_), (57, v57_), (58, v58_), (59, v59_), (60, v60_), (61, v61_), (62, v62_), (63, v63_), (64, v64_), (65, v65_), (66, v66_), (67, v67_), (68, v68_), (69, v69_), (70, v70_), (71, v71_), (72, v72_), (73, v73_), (74, v74_), (5, (pt g6)), (6, (pt g9)), (7, (pt g14)), (8, (pt g17)), (9, (pt g75)), (12, (.int .u64 (getI [2305843009213693951, 2305843009213693921, 2305843009213693907] x78))), (13, (.int .u64 0)), (16, (.agg #[(.int .u64 2305843009213693951), (.int .u64 2305843009213693921), (.int .u64 2305843009213693907)])), (17, (iv x78))] [] (fun fb => by kernel_rfl) rfl trivial ?_
      refine WL.done rfl ?_
      exact fun fb_ a_ ha_ => ⟨v20_, v21_, v22_, v23_, v24_, v25_, v26_, v27_, v28_, v29_, v30_, v31_, v32_, v33_, v34_, v35_, v36_, v37_, v38_, v39_, v40_, v41_, v42_, v43_, v44_, v45_, (.int .u64 (getI [2305843009213693951, 2305843009213693921, 2305843009213693907] x78)), v47_, v48_, v49_, v50_, v51_, v52_, v53_, v54_, v55_, v56_, v57_, v58_, v59_, v60_, v61_, v62_, v63_, v64_, v65_, v66_, v67_, v68_, v69_, v70_, v71_, v72_, v73_, v74_, g87, g88, g89, g90, g91, fb_, ha_, (H_.upd 26 (.int .u64 (getI [2305843009213693951, 2305843009213693921, 2305843009213693907] x78)) rfl), hS_⟩
     ·intro d_ a_ w_ hd_ hj_ hc_ hI_
      have hi_ : 27 < 55 := by decide
      refine ex10 hI_ fun v20_ v21_ v22_ v23_ v24_ v25_ v26_ v27_ v28_ v29_ h0_ => ?_
      refine ex10 h0_ fun v30_ v31_ v32_ v33_ v34_ v35_ v36_ v37_ v38_ v39_ h1_ => ?_
      refine ex10 h1_ fun v40_ v41_ v42_ v43_ v44_ v45_ v46_ v47_ v48_ v49_ h2_ => ?_
      refine ex10 h2_ fun v50_ v51_ v52_ v53_ v54_ v55_ v56_ v57_ v58_ v59_ h3_ => ?_
      refine ex10 h3_ fun v60_ v61_ v62_ v63_ v64_ v65_ v66_ v67_ v68_ v69_ h4_ => ?_
      refine ex10 h4_ fun v70_ v71_ v72_ v73_ v74_ g87 g88 g89 g90 g91 h5_ => ?_
      obtain ⟨fb_, ha_, H_, hS_⟩ := h5_
      clear hI_ h0_ h1_ h2_ h3_ h4_
      refine op_WL hi_ ha_ ?_
      refine seg 1 [] [20, 21, 22, 23, 24, 25, 26, 27, 28, 29, 30, 31, 32, 33, 34, 35, 36, 37, 38, 39, 40, 41, 42, 43, 44, 45, 46, 47, 48, 49, 50, 51, 52, 53, 54, 55, 56, 57, 58, 59, 60, 61, 62, 63, 64, 65, 66, 67, 68, 69, 70, 71, 72, 73, 74, 5, 6, 7, 8, 9, 12, 13, 16, 17] [(20, v20_), (21, v21_), (22, v22_), (23, v23_), (24, v24_), (25, v25_), (26, v26_), (27, v27_), (28, v28_), (29, v29_), (30, v30_), (31, v31_), (32, v32_), (33, v33_), (34, v34_), (35, v35_), (36, v36_), (37, v37_), (38, v38_), (39, v39_), (40, v40_), (41, v41_), (42, v42_), (43, v43_), (44, v44_), (45, v45_), (46, v46_), (47, (pt g17)), (48, v48_), (49, v49_), (50, v50_), (51, v51_), (52, v52_), (53, v53_), (54, v54_), (55, v55_), (56, v56_), (57, v57_), (58, v58_), (59, v59_), (60, v60_), (61, v61_), (62, v62_), (63, v63_), (64, v64_), (65, v65_), (66, v66_), (67, v67_), (68, v68_), (69, v69_), (70, v70_), (71, v71_), (72, v72_), (73, v73_), (74, v74_), (5, (pt g6)), (6, (pt g9)), (7, (pt g14)), (8, (pt g17)), (9, (pt g75)), (12, (.int .u64 (getI [2305843009213693951, 2305843009213693921, 2305843009213693907] x78))), (13, (.int .u64 0)), (16, (.agg #[(.int .u64 2305843009213693951), (.int .u64 2305843009213693921), (.int .u64 2305843009213693907)])), (17, (iv x78))] [] (fun fb => by kernel_rfl) rfl trivial ?_
      refine WL.done rfl ?_
      exact fun fb_ a_ ha_ => ⟨v20_, v21_, v22_, v23_, v24_, v25_, v26_, v27_, v28_, v29_, v30_, v31_, v32_, v33_, v34_, v35_, v36_, v37_, v38_, v39_, v40_, v41_, v42_, v43_, v44_, v45_, v46_, (pt g17), v48_, v49_, v50_, v51_, v52_, v53_, v54_, v55_, v56_, v57_, v58_, v59_, v60_, v61_, v62_, v63_, v64_, v65_, v66_, v67_, v68_, v69_, v70_, v71_, v72_, v73_, v74_, g87, g88, g89, g90, g91, fb_, ha_, (H_.upd 27 (pt g17) rfl), hS_⟩
     ·intro d_ a_ w_ hd_ hj_ hc_ hI_
      have hi_ : 28 < 55 := by decide
      refine ex10 hI_ fun v20_ v21_ v22_ v23_ v24_ v25_ v26_ v27_ v28_ v29_ h0_ => ?_
      refine ex10 h0_ fun v30_ v31_ v32_ v33_ v34_ v35_ v36_ v37_ v38_ v39_ h1_ => ?_
      refine ex10 h1_ fun v40_ v41_ v42_ v43_ v44_ v45_ v46_ v47_ v48_ v49_ h2_ => ?_
      refine ex10 h2_ fun v50_ v51_ v52_ v53_ v54_ v55_ v56_ v57_ v58_ v59_ h3_ => ?_
      refine ex10 h3_ fun v60_ v61_ v62_ v63_ v64_ v65_ v66_ v67_ v68_ v69_ h4_ => ?_
      refine ex10 h4_ fun v70_ v71_ v72_ v73_ v74_ g87 g88 g89 g90 g91 h5_ => ?_
      obtain ⟨fb_, ha_, H_, hS_⟩ := h5_
      clear hI_ h0_ h1_ h2_ h3_ h4_
      obtain rfl : v47_ = (pt g17) := H_ 27 _ rfl (hj_ 27 (memN_iff.1 (by kernel_rfl)))
      refine op_WL hi_ ha_ ?_
      refine seg 1 [.v (iv p3.Num)] [20, 21, 22, 23, 24, 25, 26, 27, 28, 29, 30, 31, 32, 33, 34, 35, 36, 37, 38, 39, 40, 41, 42, 43, 44, 45, 46, 47, 48, 49, 50, 51, 52, 53, 54, 55, 56, 57, 58, 59, 60, 61, 62, 63, 64, 65, 66, 67, 68, 69, 70, 71, 72, 73, 74, 5, 6, 7, 8, 9, 12, 13, 16, 17] [(20, v20_), (21, v21_), (22, v22_), (23, v23_), (24, v24_), (25, v25_), (26, v26_), (27, v27_), (28, v28_), (29, v29_), (30, v30_), (31, v31_), (32, v32_), (33, v33_), (34, v34_), (35, v35_), (36, v36_), (37, v37_), (38, v38_), (39, v39_), (40, v40_), (41, v41_), (42, v42_), (43, v43_), (44, v44_), (45, v45_), (46, v46_), (47, (pt g17)), (48, (iv p3.Num)), (49, v49_), (50, v50_), (51, v51_), (52, v52_), (53, v53_), (54, v54_), (55, v55_), (56, v56_), (57, v57_), (58, v58_), (59, v59_), (60, v60_), (61, v61_), (62, v62_), (63, v63_), (64, v64_), (65, v65_), (66, v66_), (67, v67_), (68, v68_), (69, v69_), (70, v70_), (71, v71_), (72, v72_), (73, v73_), (74, v74_), (5, (pt g6)), (6, (pt g9)), (7, (pt g14)), (8, (pt g17)), (9, (pt g75)), (12, (.int .u64 (getI [2305843009213693951, 2305843009213693921, 2305843009213693907] x78))), (13, (.int .u64 0)), (16, (.agg #[(.int .u64 2305843009213693951), (.int .u64 2305843009213693921), (.int .u64 2305843009213693907)])), (17, (iv x78))] [.cell ⟨g17, 0, none⟩ (iv p3.Num)] (fun fb => by kernel_rfl) rfl ⟨hS_.cell 8 rfl 0 rfl, trivial⟩ ?_
      refine WL.done rfl ?_
      exact fun fb_ a_ ha_ => ⟨v20_, v21_, v22_, v23_, v24_, v25_, v26_, v27_, v28_, v29_, v30_, v31_, v32_, v33_, v34_, v35_, v36_, v37_, v38_, v39_, v40_, v41_, v42_, v43_, v44_, v45_, v46_, (pt g17), (iv p3.Num), v49_, v50_, v51_, v52_, v53_, v54_, v55_, v56_, v57_, v58_, v59_, v60_, v61_, v62_, v63_, v64_, v65_, v66_, v67_, v68_, v69_, v70_, v71_, v72_, v73_, v74_, g87, g88, g89, g90, g91, fb_, ha_, (H_.upd 28 (iv p3.Num) rfl), hS_⟩
     ·intro d_ a_ w_ hd_ hj_ hc_ hI_
      have hi_ : 29 < 55 := by decide
      refine ex10 hI_ fun v20_ v21_ v22_ v23_ v24_ v25_ v26_ v27_ v28_ v29_ h0_ => ?_
      refine ex10 h0_ fun v30_ v31_ v32_ v33_ v34_ v35_ v36_ v37_ v38_ v39_ h1_ => ?_
      refine ex10 h1_ fun v40_ v41_ v42_ v43_ v44_ v45_ v46_ v47_ v48_ v49_ h2_ => ?_
      refine ex10 h2_ fun v50_ v51_ v52_ v53_ v54_ v55_ v56_ v57_ v58_ v59_ h3_ => ?_
      refine ex10 h3_ fun v60_ v61_ v62_ v63_ v64_ v65_ v66_ v67_ v68_ v69_ h4_ => ?_
      refine ex10 h4_ fun v70_ v71_ v72_ v73_ v74_ g87 g88 g89 g90 g91 h5_ => ?_
      obtain ⟨fb_, ha_, H_, hS_⟩ := h5_
      clear hI_ h0_ h1_ h2_ h3_ h4_
      refine op_WL hi_ ha_ ?_
      refine seg 1 [] [20, 21, 22, 23, 24, 25, 26, 27, 28, 29, 30, 31, 32, 33, 34, 35, 36, 37, 38, 39, 40, 41, 42, 43, 44, 45, 46, 47, 48, 49, 50, 51, 52, 53, 54, 55, 56, 57, 58, 59, 60, 61, 62, 63, 64, 65, 66, 67, 68, 69, 70, 71, 72, 73, 74, 5, 6, 7, 8, 9, 12, 13, 16, 17] [(20, v20_), (21, v21_), (22, v22_), (23, v23_), (24, v24_), (25, v25_), (26, v26_), (27, v27_), (28, v28_), (29, v29_), (30, v30_), (31, v31_), (32, v32_), (33, v33_), (34, v34_), (35, v35_), (36, v36_), (37, v37_), (38, v38_), (39, v39_), (40, v40_), (41, v41_), (42, v42_), (43, v43_), (44, v44_), (45, v45_), (46, v46_), (47, v47_), (48, v48_), (49, (.pointer (some ⟨g6, 1, none⟩))), (50, v50_), (51, v51_), (52, v52_), (53, v53_), (54, v54_), (55, v55_), (56, v56_), (57, v57_), (58, v58_), (59, v59_), (60, v60_), (61, v61_), (62, v62_), (63, v63_), (64, v64_), (65, v65_), (66, v66_), (67, v67_), (68, v68_), (69, v69_), (70, v70_), (71, v71_), (72, v72_), (73, v73_), (74, v74_), (5, (pt g6)), (6, (pt g9)), (7, (pt g14)), (8, (pt g17)), (9, (pt g75)), (12, (.int .u64 (getI [2305843009213693951, 2305843009213693921, 2305843009213693907] x78))), (13, (.int .u64 0)), (16, (.agg #[(.int .u64 2305843009213693951), (.int .u64 2305843009213693921), (.int .u64 2305843009213693907)])), (17, (iv x78))] [] (fun fb => by kernel_rfl) rfl trivial ?_
      refine WL.done rfl ?_
      exact fun fb_ a_ ha_ => ⟨v20_, v21_, v22_, v23_, v24_, v25_, v26_, v27_, v28_, v29_, v30_, v31_, v32_, v33_, v34_, v35_, v36_, v37_, v38_, v39_, v40_, v41_, v42_, v43_, v44_, v45_, v46_, v47_, v48_, (.pointer (some ⟨g6, 1, none⟩)), v50_, v51_, v52_, v53_, v54_, v55_, v56_, v57_, v58_, v59_, v60_, v61_, v62_, v63_, v64_, v65_, v66_, v67_, v68_, v69_, v70_, v71_, v72_, v73_, v74_, g87, g88, g89, g90, g91, fb_, ha_, (H_.upd 29 (.pointer (some ⟨g6, 1, none⟩)) rfl), hS_⟩
     ·intro d_ a_ w_ hd_ hj_ hc_ hI_
      have hi_ : 30 < 55 := by decide
      refine ex10 hI_ fun v20_ v21_ v22_ v23_ v24_ v25_ v26_ v27_ v28_ v29_ h0_ => ?_
      refine ex10 h0_ fun v30_ v31_ v32_ v33_ v34_ v35_ v36_ v37_ v38_ v39_ h1_ => ?_
      refine ex10 h1_ fun v40_ v41_ v42_ v43_ v44_ v45_ v46_ v47_ v48_ v49_ h2_ => ?_
      refine ex10 h2_ fun v50_ v51_ v52_ v53_ v54_ v55_ v56_ v57_ v58_ v59_ h3_ => ?_
      refine ex10 h3_ fun v60_ v61_ v62_ v63_ v64_ v65_ v66_ v67_ v68_ v69_ h4_ => ?_
      refine ex10 h4_ fun v70_ v71_ v72_ v73_ v74_ g87 g88 g89 g90 g91 h5_ => ?_
      obtain ⟨fb_, ha_, H_, hS_⟩ := h5_
      clear hI_ h0_ h1_ h2_ h3_ h4_
      obtain rfl : v49_ = (.pointer (some ⟨g6, 1, none⟩)) := H_ 29 _ rfl (hj_ 29 (memN_iff.1 (by kernel_rfl)))
      refine op_WL hi_ ha_ ?_
      refine seg 1 [.v (iv p0.Den)] [20, 21, 22, 23, 24, 25, 26, 27, 28, 29, 30, 31, 32, 33, 34, 35, 36, 37, 38, 39, 40, 41, 42, 43, 44, 45, 46, 47, 48, 49, 50, 51, 52, 53, 54, 55, 56, 57, 58, 59, 60, 61, 62, 63, 64, 65, 66, 67, 68, 69, 70, 71, 72, 73, 74, 5, 6, 7, 8, 9, 12, 13, 16, 17] [(20, v20_), (21, v21_), (22, v22_), (23, v23_), (24, v24_), (25, v25_), (26, v26_), (27, v27_), (28, v28_), (29, v29_), (30, v30_), (31, v31_), (32, v32_), (33, v33_), (34, v34_), (35, v35_), (36, v36_), (37, v37_), (38, v38_), (39, v39_), (40, v40_), (41, v41_), (42, v42_), (43, v43_), (44, v44_), (45, v45_), (46, v46_), (47, v47_), (48, v48_), (49, (.pointer (some ⟨g6, 1, none⟩))), (50, (iv p0.Den)), (51, v51_), (52, v52_), (53, v53_), (54, v54_), (55, v55_), (56, v56_), (57, v57_), (58, v58_), (59, v59_), (60, v60_), (61, v61_), (62, v62_), (63, v63_), (64, v64_), (65, v65_), (66, v66_), (67, v67_), (68, v68_), (69, v69_), (70, v70_), (71, v71_), (72, v72_), (73, v73_), (74, v74_), (5, (pt g6)), (6, (pt g9)), (7, (pt g14)), (8, (pt g17)), (9, (pt g75)), (12, (.int .u64 (getI [2305843009213693951, 2305843009213693921, 2305843009213693907] x78))), (13, (.int .u64 0)), (16, (.agg #[(.int .u64 2305843009213693951), (.int .u64 2305843009213693921), (.int .u64 2305843009213693907)])), (17, (iv x78))] [.cell ⟨g6, 1, none⟩ (iv p0.Den)] (fun fb => by kernel_rfl) rfl ⟨hS_.cell 5 rfl 1 rfl, trivial⟩ ?_
      refine WL.done rfl ?_
      exact fun fb_ a_ ha_ => ⟨v20_, v21_, v22_, v23_, v24_, v25_, v26_, v27_, v28_, v29_, v30_, v31_, v32_, v33_, v34_, v35_, v36_, v37_, v38_, v39_, v40_, v41_, v42_, v43_, v44_, v45_, v46_, v47_, v48_, (.pointer (some ⟨g6, 1, none⟩)), (iv p0.Den), v51_, v52_, v53_, v54_, v55_, v56_, v57_, v58_, v59_, v60_, v61_, v62_, v63_, v64_, v65_, v66_, v67_, v68_, v69_, v70_, v71_, v72_, v73_, v74_, g87, g88, g89, g90, g91, fb_, ha_, (H_.upd 30 (iv p0.Den) rfl), hS_⟩
     ·intro d_ a_ w_ hd_ hj_ hc_ hI_
      have hi_ : 31 < 55 := by decide
      refine ex10 hI_ fun v20_ v21_ v22_ v23_ v24_ v25_ v26_ v27_ v28_ v29_ h0_ => ?_
      refine ex10 h0_ fun v30_ v31_ v32_ v33_ v34_ v35_ v36_ v37_ v38_ v39_ h1_ => ?_
      refine ex10 h1_ fun v40_ v41_ v42_ v43_ v44_ v45_ v46_ v47_ v48_ v49_ h2_ => ?_
      refine ex10 h2_ fun v50_ v51_ v52_ v53_ v54_ v55_ v56_ v57_ v58_ v59_ h3_ => ?_
      refine ex10 h3_ fun v60_ v61_ v62_ v63_ v64_ v65_ v66_ v67_ v68_ v69_ h4_ => ?_
      refine ex10 h4_ fun v70_ v71_ v72_ v73_ v74_ g87 g88 g89 g90 g91 h5_ => ?_
      obtain ⟨fb_, ha_, H_, hS_⟩ := h5_
      clear hI_ h0_ h1_ h2_ h3_ h4_
      refine op_WL hi_ ha_ ?_
      refine seg 1 [] [20, 21, 22, 23, 24, 25, 26, 27, 28, 29, 30, 31, 32, 33, 34, 35, 36, 37, 38, 39, 40, 41, 42, 43, 44, 45, 46, 47, 48, 49, 50, 51, 52, 53, 54, 55, 56, 57, 58, 59, 60, 61, 62, 63, 64, 65, 66, 67, 68, 69, 70, 71, 72, 73, 74, 5, 6, 7, 8, 9, 12, 13, 16, 17] [(20, v20_), (21, v21_), (22, v22_), (23, v23_), (24, v24_), (25, v25_), (26, v26_), (27, v27_), (28, v28_), (29, v29_), (30, v30_), (31, v31_), (32, v32_), (33, v33_), (34, v34_), (35, v35_), (36, v36_), (37, v37_), (38, v38_), (39, v39_), (40, v40_), (41, v41_), (42, v42_), (43, v43_), (44, v44_), (45, v45_), (46, v46_), (47, v47_), (48, v48_), (49, v49_), (50, v50_), (51, (.pointer (some ⟨g9, 1, none⟩))), (52, v52_), (53, v53_), (54, v54_), (55, v55_), (56, v56_), (57, v57_), (58, v58_), (59, v59_), (60, v60_), (61, v61_), (62, v62_), (63, v63_), (64, v64_), (65, v65_), (66, v66_), (67, v67_), (68, v68_), (69, v69_), (70, v70_), (71, v71_), (72, v72_), (73, v73_), (74, v74_), (5, (pt g6)), (6, (pt g9)), (7, (pt g14)), (8, (pt g17)), (9, (pt g75)), (12, (.int .u64 (getI [2305843009213693951, 2305843009213693921, 2305843009213693907] x78))), (13, (.int .u64 0)), (16, (.agg #[(.int .u64 2305843009213693951), (.int .u64 2305843009213693921), (.int .u64 2305843009213693907)])), (17, (iv x78))] [] (fun fb => by kernel_rfl) rfl trivial ?_
      refine WL.done rfl ?_
      exact fun fb_ a_ ha_ => ⟨v20_, v21_, v22_, v23_, v24_, v25_, v26_, v27_, v28_, v29_, v30_, v31_, v32_, v33_, v34_, v35_, v36_, v37_, v38_, v39_, v40_, v41_, v42_, v43_, v44_, v45_, v46_, v47_, v48_, v49_, v50_, (.pointer (some ⟨g9, 1, none⟩)), v52_, v53_, v54_, v55_, v56_, v57_, v58_, v59_, v60_, v61_, v62_, v63_, v64_, v65_, v66_, v67_, v68_, v69_, v70_, v71_, v72_, v73_, v74_, g87, g88, g89, g90, g91, fb_, ha_, (H_.upd 31 (.pointer (some ⟨g9, 1, none⟩)) rfl), hS_⟩
     ·intro d_ a_ w_ hd_ hj_ hc_ hI_
      have hi_ : 32 < 55 := by decide
      refine ex10 hI_ fun v20_ v21_ v22_ v23_ v24_ v25_ v26_ v27_ v28_ v29_ h0_ => ?_
      refine ex10 h0_ fun v30_ v31_ v32_ v33_ v34_ v35_ v36_ v37_ v38_ v39_ h1_ => ?_
      refine ex10 h1_ fun v40_ v41_ v42_ v43_ v44_ v45_ v46_ v47_ v48_ v49_ h2_ => ?_
      refine ex10 h2_ fun v50_ v51_ v52_ v53_ v54_ v55_ v56_ v57_ v58_ v59_ h3_ => ?_
      refine ex10 h3_ fun v60_ v61_ v62_ v63_ v64_ v65_ v66_ v67_ v68_ v69_ h4_ => ?_
      refine ex10 h4_ fun v70_ v71_ v72_ v73_ v74_ g87 g88 g89 g90 g91 h5_ => ?_
      obtain ⟨fb_, ha_, H_, hS_⟩ := h5_
      clear hI_ h0_ h1_ h2_ h3_ h4_
      obtain rfl : v51_ = (.pointer (some ⟨g9, 1, none⟩)) := H_ 31 _ rfl (hj_ 31 (memN_iff.1 (by kernel_rfl)))
      refine op_WL hi_ ha_ ?_
      refine seg 1 [.v (iv p1.Den)] [20, 21, 22, 23, 24, 25, 26, 27, 28, 29, 30, 31, 32, 33, 34, 35, 36, 37, 38, 39, 40, 41, 42, 43, 44, 45, 46, 47, 48, 49, 50, 51, 52, 53, 54, 55, 56, 57, 58, 59, 60, 61, 62, 63, 64, 65, 66, 67, 68, 69, 70, 71, 72, 73, 74, 5, 6, 7, 8, 9, 12, 13, 16, 17] [(20, v20_), (21, v21_), (22, v22_), (23, v23_), (24, v24_), (25, v25_), (26, v26_), (27, v27_), (28, v28_), (29, v29_), (30, v30_), (31, v31_), (32, v32_), (33, v33_), (34, v34_), (35, v35_), (36, v36_), (37, v37_), (38, v38_), (39, v39_), (40, v40_), (41, v41_), (42, v42_), (43, v43_), (44, v44_), (45, v45_), (46, v46_), (47, v47_), (48, v48_), (49, v49_), (50, v50_), (51, (.pointer (some ⟨g9, 1, none⟩))), (52, (iv p1.Den)), (53, v53_), (54, v54_), (55, v55_), (56, v56_), (57, v57_), (58, v58_), (59, v59_), (60, v60_), (61, v61_), (62, v62_), (63, v63_), (64, v64_), (65, v65_), (66, v66_), (67, v67_), (68, v68_), (69, v69_), (70, v70_), (71, v71_), (72, v72_), (73, v73_), (74, v74_), (5, (pt g6)), (6, (pt g9)), (7, (pt g14)), (8, (pt g17)), (9, (pt g75)), (12, (.int .u64 (getI [2305843009213693951, 2305843009213693921, 2305843009213693907] x78))), (13, (.int .u64 0)), (16, (.agg #[(.int .u64 2305843009213693951), (.int .u64 2305843009213693921), (.int .u64 2305843009213693907)])), (17, (iv x78))] [.cell ⟨g9, 1, none⟩ (iv p1.Den)] (fun fb => by kernel_rfl) rfl ⟨hS_.cell 6 rfl 1 rfl, trivial⟩ ?_
      refine WL.done rfl ?_
      exact fun fb_ a_ ha_ => ⟨v20_, v21_, v22_, v23_, v24_, v25_, v26_, v27_, v28_, v29_, v30_, v31_, v32_, v33_, v34_, v35_, v36_, v37_, v38_, v39_, v40_, v41_, v42_, v43_, v44_, v45_, v46_, v47_, v48_, v49_, v50_, (.pointer (some ⟨g9, 1, none⟩)), (iv p1.Den), v53_, v54_, v55_, v56_, v57_, v58_, v59_, v60_, v61_, v62_, v63_, v64_, v65_, v66_, v67_, v68_, v69_, v70_, v71_, v72_, v73_, v74_, g87, g88, g89, g90, g91, fb_, ha_, (H_.upd 32 (iv p1.Den) rfl), hS_⟩
     ·intro d_ a_ w_ hd_ hj_ hc_ hI_
      have hi_ : 33 < 55 := by decide
      refine ex10 hI_ fun v20_ v21_ v22_ v23_ v24_ v25_ v26_ v27_ v28_ v29_ h0_ => ?_
      refine ex10 h0_ fun v30_ v31_ v32_ v33_ v34_ v35_ v36_ v37_ v38_ v39_ h1_ => ?_
      refine ex10 h1_ fun v40_ v41_ v42_ v43_ v44_ v45_ v46_ v47_ v48_ v49_ h2_ => ?_
      refine ex10 h2_ fun v50_ v51_ v52_ v53_ v54_ v55_ v56_ v57_ v58_ v59_ h3_ => ?_
      refine ex10 h3_ fun v60_ v61_ v62_ v63_ v64_ v65_ v66_ v67_ v68_ v69_ h4_ => ?_
      refine ex10 h4_ fun v70_ v71_ v72_ v73_ v74_ g87 g88 g89 g90 g91 h5_ => ?_
      obtain ⟨fb_, ha_, H_, hS_⟩ := h5_
      clear hI_ h0_ h1_ h2_ h3_ h4_
      refine op_WL hi_ ha_ ?_
      refine seg 1 [] [20, 21, 22, 23, 24, 25, 26, 27, 28, 29, 30, 31, 32, 33, 34, 35, 36, 37, 38, 39, 40, 41, 42, 43, 44, 45, 46, 47, 48, 49, 50, 51, 52, 53, 54, 55, 56, 57, 58, 59, 60, 61, 62, 63, 64, 65, 66, 67, 68, 69, 70, 71, 72, 73, 74, 5, 6, 7, 8, 9, 12, 13, 16, 17] [(20, v20_), (21, v21_), (22, v22_), (23, v23_), (24, v24_), (25, v25_), (26, v26_), (27, v27_), (28, v28_), (29, v29_), (30, v30_), (31, v31_), (32, v32_), (33, v33_), (34, v34_), (35, v35_), (36, v36_), (37, v37_), (38, v38_), (39, v39_), (40, v40_), (41, v41_), (42, v42_), (43, v43_), (44, v44_), (45, v45_), (46, v46_), (47, v47_), (48, v48_), (49, v49_), (50, v50_), (51, v51_), (52, v52_), (53, (.pointer (some ⟨g14, 1, none⟩))), (54, v54_), (55, v55_), (56, v56_), (57, v57_), (58, v58_), (59, v59_), (60, v60_), (61, v61_), (62, v62_), (63, v63_), (64, v64_), (65, v65_), (66, v66_), (67, v67_), (68, v68_), (69, v69_), (70, v70_), (71, v71_), (72, v72_), (73, v73_), (74, v74_), (5, (pt g6)), (6, (pt g9)), (7, (pt g14)), (8, (pt g17)), (9, (pt g75)), (12, (.int .u64 (getI [2305843009213693951, 2305843009213693921, 2305843009213693907] x78))), (13, (.int .u64 0)), (16, (.agg #[(.int .u64 2305843009213693951), (.int .u64 2305843009213693921), (.int .u64 2305843009213693907)])), (17, (iv x78))] [] (fun fb => by kernel_rfl) rfl trivial ?_
      refine WL.done rfl ?_
      exact fun fb_ a_ ha_ => ⟨v20_, v21_, v22_, v23_, v24_, v25_, v26_, v27_, v28_, v29_, v30_, v31_, v32_, v33_, v34_, v35_, v36_, v37_, v38_, v39_, v40_, v41_, v42_, v43_, v44_, v45_, v46_, v47_, v48_, v49_, v50_, v51_, v52_, (.pointer (some ⟨g14, 1, none⟩)), v54_, v55_, v56_, v57_, v58_, v59_, v60_, v61_, v62_, v63_, v64_, v65_, v66_, v67_, v68_, v69_, v70_, v71_, v72_, v73_, v74_, g87, g88, g89, g90, g91, fb_, ha_, (H_.upd 33 (.pointer (some ⟨g14, 1, none⟩)) rfl), hS_⟩
     ·intro d_ a_ w_ hd_ hj_ hc_ hI_
      have hi_ : 34 < 55 := by decide
      refine ex10 hI_ fun v20_ v21_ v22_ v23_ v24_ v25_ v26_ v27_ v28_ v29_ h0_ => ?_
      refine ex10 h0_ fun v30_ v31_ v32_ v33_ v34_ v35_ v36_ v37_ v38_ v39_ h1_ => ?_
      refine ex10 h1_ fun v40_ v41_ v42_ v43_ v44_ v45_ v46_ v47_ v48_ v49_ h2_ => ?_
      refine ex10 h2_ fun v50_ v51_ v52_ v53_ v54_ v55_ v56_ v57_ v58_ v59_ h3_ => ?_
      refine ex10 h3_ fun v60_ v61_ v62_ v63_ v64_ v65_ v66_ v67_ v68_ v69_ h4_ => ?_
      refine ex10 h4_ fun v70_ v71_ v72_ v73_ v74_ g87 g88 g89 g90 g91 h5_ => ?_
      obtain ⟨fb_, ha_, H_, hS_⟩ := h5_
      clear hI_ h0_ h1_ h2_ h3_ h4_
      obtain rfl : v53_ = (.pointer (some ⟨g14, 1, none⟩)) := H_ 33 _ rfl (hj_ 33 (memN_iff.1 (by kernel_rfl)))
      refine op_WL hi_ ha_ ?_
      refine seg 1 [.v (iv p2.Den)] [20, 21, 22, 23, 24, 25, 26, 27, 28, 29, 30, 31, 32, 33, 34, 35, 36, 37, 38, 39, 40, 41, 42, 43, 44, 45, 46, 47, 48, 49, 50, 51, 52, 53, 54, 55, 56, 57, 58, 59, 60, 61, 62, 63, 64, 65, 66, 67, 68, 69, 70, 71, 72, 73, 74, 5, 6, 7, 8, 9, 12, 13, 16, 17] [(20, v20_), (21, v21_), (22, v22_), (23, v23_), (24, v24_), (25, v25_), (26, v26_), (27, v27_), (28, v28_), (29, v29_), (30, v30_), (31, v31_), (32, v32_), (33, v33_), (34, v34_), (35, v35_), (36, v36_), (37, v37_), (38, v38_), (39, v39_), (40, v40_), (41, v41_), (42, v42_), (43, v43_), (44, v44_), (45, v45_), (46, v46_), (47, v47_), (48, v48_), (49, v49_), (50, v50_), (51, v51_), (52, v52_), (53, (.pointer (some ⟨g14, 1, none⟩))), (54, (iv p2.Den)), (55, v55_), (56, v56_), (57, v57_), (58, v58_), (59, v59_), (60, v60_), (61, v61_), (62, v62_), (63, v63_), (64, v64_), (65, v65_), (66, v66_), (67, v67_), (68, v68_), (69, v69_), (70, v70_), (71, v71_), (72, v72_), (73, v73_), (74, v74_), (5, (pt g6)), (6, (pt g9)), (7, (pt g14)), (8, (pt g17)), (9, (pt g75)), (12, (.int .u64 (getI [2305843009213693951, 2305843009213693921, 2305843009213693907] x78))), (13, (.int .u64 0)), (16, (.agg #[(.int .u64 2305843009213693951), (.int .u64 2305843009213693921), (.int .u64 2305843009213693907)])), (17, (iv x78))] [.cell ⟨g14, 1, none⟩ (iv p2.Den)] (fun fb => by kernel_rfl) rfl ⟨hS_.cell 7 rfl 1 rfl, trivial⟩ ?_
      refine WL.done rfl ?_
      exact fun fb_ a_ ha_ => ⟨v20_, v21_, v22_, v23_, v24_, v25_, v26_, v27_, v28_, v29_, v30_, v31_, v32_, v33_, v34_, v35_, v36_, v37_, v38_, v39_, v40_, v41_, v42_, v43_, v44_, v45_, v46_, v47_, v48_, v49_, v50_, v51_, v52_, (.pointer (some ⟨g14, 1, none⟩)), (iv p2.Den), v55_, v56_, v57_, v58_, v59_, v60_, v61_, v62_, v63_, v64_, v65_, v66_, v67_, v68_, v69_, v70_, v71_, v72_, v73_, v74_, g87, g88, g89, g90, g91, fb_, ha_, (H_.upd 34 (iv p2.Den) rfl), hS_⟩
     ·intro d_ a_ w_ hd_ hj_ hc_ hI_
      have hi_ : 35 < 55 := by decide
      refine ex10 hI_ fun v20_ v21_ v22_ v23_ v24_ v25_ v26_ v27_ v28_ v29_ h0_ => ?_
      refine ex10 h0_ fun v30_ v31_ v32_ v33_ v34_ v35_ v36_ v37_ v38_ v39_ h1_ => ?_
      refine ex10 h1_ fun v40_ v41_ v42_ v43_ v44_ v45_ v46_ v47_ v48_ v49_ h2_ => ?_
      refine ex10 h2_ fun v50_ v51_ v52_ v53_ v54_ v55_ v56_ v57_ v58_ v59_ h3_ => ?_
      refine ex10 h3_ fun v60_ v61_ v62_ v63_ v64_ v65_ v66_ v67_ v68_ v69_ h4_ => ?_
      refine ex10 h4_ fun v70_ v71_ v72_ v73_ v74_ g87 g88 g89 g90 g91 h5_ => ?_
      obtain ⟨fb_, ha_, H_, hS_⟩ := h5_
      clear hI_ h0_ h1_ h2_ h3_ h4_
      refine op_WL hi_ ha_ ?_
      refine seg 1 [] [20, 21, 22, 23, 24, 25, 26, 27, 28, 29, 30, 31, 32, 33, 34, 35, 36, 37, 38, 39, 40, 41, 42, 43, 44, 45, 46, 47, 48, 49, 50, 51, 52, 53, 54, 55, 56, 57, 58, 59, 60, 61, 62, 63, 64, 65, 66, 67, 68, 69, 70, 71, 72, 73, 74, 5, 6, 7, 8, 9, 12, 13, 16, 17] [(20, v20_), (21, v21_), (22, v22_), (23, v23_), (24, v24_), (25, v25_), (26, v26_), (27, v27_), (28, v28_), (29, v29_), (30, v30_), (31, v31_), (32, v32_), (33, v33_), (34, v34_), (35, v35_), (36, v36_), (37, v37_), (38, v38_), (39, v39_), (40, v40_), (41, v41_), (42, v42_), (43, v43_), (44, v44_), (45, v45_), (46, v46_), (47, v47_), (48, v48_), (49, v49_), (50, v50_), (51, v51_), (52, v52_), (53, v53_), (54, v54_), (55, (.pointer (some ⟨g75, 1, none⟩))), (56, v56_), (57, v57_), (58, v58_), (59, v59_), (60, v60_), (61, v61_), (62, v62_), (63, v63_), (64, v64_), (65, v65_), (66, v66_), (67, v67_), (68, v68_), (69, v69_), (70, v70_), (71, v71_), (72, v72_), (73, v73_), (74, v74_), (5, (pt g6)), (6, (pt g9)), (7, (pt g14)), (8, (pt g17)), (9, (pt g75)), (12, (.int .u64 (getI [2305843009213693951, 2305843009213693921, 2305843009213693907] x78))), (13, (.int .u64 0)), (16, (.agg #[(.int .u64 2305843009213693951), (.int .u64 2305843009213693921), (.int .u64 2305843009213693907)])), (17, (iv x78))] [] (fun fb => by kernel_rfl) rfl trivial ?_
      refine WL.done rfl ?_
      exact fun fb_ a_ ha_ => ⟨v20_, v21_, v22_, v23_, v24_, v25_, v26_, v27_, v28_, v29_, v30_, v31_, v32_, v33_, v34_, v35_, v36_, v37_, v38_, v39_, v40_, v41_, v42_, v43_, v44_, v45_, v46_, v47_, v48_, v49_, v50_, v51_, v52_, v53_, v54_, (.pointer (some ⟨g75, 1, none⟩)), v56_, v57_, v58_, v59_, v60_, v61_, v62_, v63_, v64_, v65_, v66_, v67_, v68_, v69_, v70_, v71_, v72_, v73_, v74_, g87, g88, g89, g90, g91, fb_, ha_, (H_.upd 35 (.pointer (some ⟨g75, 1, none⟩)) rfl), hS_⟩
     ·intro d_ a_ w_ hd_ hj_ hc_ hI_
      have hi_ : 36 < 55 := by decide
      refine ex10 hI_ fun v20_ v21_ v22_ v23_ v24_ v25_ v26_ v27_ v28_ v29_ h0_ => ?_
      refine ex10 h0_ fun v30_ v31_ v32_ v33_ v34_ v35_ v36_ v37_ v38_ v39_ h1_ => ?_
      refine ex10 h1_ fun v40_ v41_ v42_ v43_ v44_ v45_ v46_ v47_ v48_ v49_ h2_ => ?_
      refine ex10 h2_ fun v50_ v51_ v52_ v53_ v54_ v55_ v56_ v57_ v58_ v59_ h3_ => ?_
      refine ex10 h3_ fun v60_ v61_ v62_ v63_ v64_ v65_ v66_ v67_ v68_ v69_ h4_ => ?_
      refine ex10 h4_ fun v70_ v71_ v72_ v73_ v74_ g87 g88 g89 g90 g91 h5_ => ?_
      obtain ⟨fb_, ha_, H_, hS_⟩ := h5_
      clear hI_ h0_ h1_ h2_ h3_ h4_
      obtain rfl : v55_ = (.pointer (some ⟨g75, 1, none⟩)) := H_ 35 _ rfl (hj_ 35 (memN_iff.1 (by kernel_rfl)))
      refine op_WL hi_ ha_ ?_
      refine seg 1 [.v (iv p4.Den)] [20, 21, 22, 23, 24, 25, 26, 27, 28, 29, 30, 31, 32, 33, 34, 35, 36, 37, 38, 39, 40, 41, 42, 43, 44, 45, 46, 47, 48, 49, 50, 51, 52, 53, 54, 55, 56, 57, 58, 59, 60, 61, 62, 63, 64, 65, 66, 67, 68, 69, 70, 71, 72, 73, 74, 5, 6, 7, 8, 9, 12, 13, 16, 17] [(20, v20_), (21, v21_), (22, v22_), (23, v23_), (24, v24_), (25, v25_), (26, v26_), (27, v27_), (28, v28_), (29, v29_), (30, v30_), (31, v31_), (32, v32_), (33, v33_), (34, v34_), (35, v35_), (36, v36_), (37, v37_), (38, v38_), (39, v39_), (40, v40_), (41, v41_), (42, v42_), (43, v43_), (44, v44_), (45, v45_), (46, v46_), (47, v47_), (48, v48_), (49, v49_), (50, v50_), (51, v51_), (52, v52_), (53, v53_), (54, v54_), (55, (.pointer (some ⟨g75, 1, none⟩))), (56, (iv p4.Den)), (57, v57_), (58, v58_), (59, v59_), (60, v60_), (61, v61_), (62, v62_), (63, v63_), (64, v64_), (65, v65_), (66, v66_), (67, v67_), (68, v68_), (69, v69_), (70, v70_), (71, v71_), (72, v72_), (73, v73_), (74, v74_), (5, (pt g6)), (6, (pt g9)), (7, (pt g14)), (8, (pt g17)), (9, (pt g75)), (12, (.int .u64 (getI [2305843009213693951, 2305843009213693921, 2305843009213693907] x78))), (13, (.int .u64 0)), (16, (.agg #[(.int .u64 2305843009213693951), (.int .u64 2305843009213693921), (.int .u64 2305843009213693907)])), (17, (iv x78))] [.cell ⟨g75, 1, none⟩ (iv p4.Den)] (fun fb => by kernel_rfl) rfl ⟨hS_.cell 9 rfl 1 rfl, trivial⟩ ?_
      refine WL.done rfl ?_
      exact fun fb_ a_ ha_ => ⟨v20_, v21_, v22_, v23_, v24_, v25_, v26_, v27_, v28_, v29_, v30_, v31_, v32_, v33_, v34_, v35_, v36_, v37_, v38_, v39_, v40_, v41_, v42_, v43_, v44_, v45_, v46_, v47_, v48_, v49_, v50_, v51_, v52_, v53_, v54_, (.pointer (some ⟨g75, 1, none⟩)), (iv p4.Den), v57_, v58_, v59_, v60_, v61_, v62_, v63_, v64_, v65_, v66_, v67_, v68_, v69_, v70_, v71_, v72_, v73_, v74_, g87, g88, g89, g90, g91, fb_, ha_, (H_.upd 36 (iv p4.Den) rfl), hS_⟩
     ·intro d_ a_ w_ hd_ hj_ hc_ hI_
      have hi_ : 37 < 55 := by decide
      refine ex10 hI_ fun v20_ v21_ v22_ v23_ v24_ v25_ v26_ v27_ v28_ v29_ h0_ => ?_
      refine ex10 h0_ fun v30_ v31_ v32_ v33_ v34_ v35_ v36_ v37_ v38_ v39_ h1_ => ?_
      refine ex10 h1_ fun v40_ v41_ v42_ v43_ v44_ v45_ v46_ v47_ v48_ v49_ h2_ => ?_
      refine ex10 h2_ fun v50_ v51_ v52_ v53_ v54_ v55_ v56_ v57_ v58_ v59_ h3_ => ?_
      refine ex10 h3_ fun v60_ v61_ v62_ v63_ v64_ v65_ v66_ v67_ v68_ v69_ h4_ => ?_
      refine ex10 h4_ fun v70_ v71_ v72_ v73_ v74_ g87 g88 g89 g90 g91 h5_ => ?_
      obtain ⟨fb_, ha_, H_, hS_⟩ := h5_
      clear hI_ h0_ h1_ h2_ h3_ h4_
      obtain rfl : v48_ = (iv p3.Num) := H_ 28 _ rfl (hj_ 28 (memN_iff.1 (by kernel_rfl)))
      obtain rfl : v50_ = (iv p0.Den) := H_ 30 _ rfl (hj_ 30 (memN_iff.1 (by kernel_rfl)))
      obtain rfl : v52_ = (iv p1.Den) := H_ 32 _ rfl (hj_ 32 (memN_iff.1 (by kernel_rfl)))
      obtain rfl : v54_ = (iv p2.Den) := H_ 34 _ rfl (hj_ 34 (memN_iff.1 (by kernel_rfl)))
      obtain rfl : v56_ = (iv p4.Den) := H_ 36 _ rfl (hj_ 36 (memN_iff.1 (by kernel_rfl)))
      refine op_WL hi_ ha_ ?_
      refine WL.new hS_ 57 [] (fun g => (.slice (some ⟨g, 0, none⟩) 5 5)) (.cells #[(iv p3.Num), (iv p0.Den), (iv p1.Den), (iv p2.Den), (iv p4.Den)] 3 (0, 0)) [] (fun fb g => by kernel_rfl) trivial (fun g110 w111 hS112 => ?_)
      refine ⟨trivial, ?_⟩
      have hS113 := hS.go w111 [rowO 3 encInt (some ⟨g110, 0, none⟩) 5 [p3.Num, p0.Den, p1.Den, p2.Den, p4.Den], sO (d_ 11) (rowO 3 encInt (some ⟨g87, 0, none⟩) 5 [p0.Num, p1.Num, p2.Den, p3.Den, p4.Den]), sO (d_ 24) (rowO 3 encInt (some ⟨g88, 0, none⟩) 5 [p2.Num, p0.Den, p1.Den, p3.Den, p4.Den]), sO (d_ 37) (rowO 3 encInt (some ⟨g89, 0, none⟩) 5 [p3.Num, p0.Den, p1.Den, p2.Den, p4.Den]), sO (d_ 50) (rowO 3 encInt (some ⟨g90, 0, none⟩) 5 [p4.Num, p0.Den, p1.Den, p2.Den, p3.Den]), sO (d_ 52) (rowO 60 encU64 (some ⟨g91, 0, none⟩) 4 [t96, t105, t114, t123]), blk g6 (.cells #[(iv p0.Num), (iv p0.Den)] 36 (0, 0)), blk g9 (.cells #[(iv p1.Num), (iv p1.Den)] 36 (0, 0)), blk g14 (.cells #[(iv p2.Num), (iv p2.Den)] 36 (0, 0)), blk g17 (.cells #[(iv p3.Num), (iv p3.Den)] 36 (0, 0)), blk g75 (.cells #[(iv p4.Num), (iv p4.Den)] 36 (0, 0))] (hS112.map1 0 _ (fun h => rowO.ofBlk h rfl (Nat.le_of_ble_eq_true (by kernel_rfl))) (fun _ h => by obtain ⟨_, h1, h2⟩ := h; injection h1 with h1; subst h1; exact h2) [1, 2, 3, 4, 5, 6, 7, 8, 9, 10] (by decide) (by decide))
      refine WL.reE [20, 21, 22, 23, 24, 25, 26, 27, 28, 29, 30, 31, 32, 33, 34, 35, 36, 37, 38, 39, 40, 41, 42, 43, 44, 45, 46, 47, 48, 49, 50, 51, 52, 53, 54, 55, 56, 57, 58, 59, 60, 61, 62, 63, 64, 65, 66, 67, 68, 69, 70, 71, 72, 73, 74, 5, 6, 7, 8, 9, 12, 13, 16, 17] [(20, v20_), (21, v21_), (22, v22_), (23, v23_), (24, v24_), (25, v25_), (26, v26_), (27, v27_), (28, v28_), (29, v29_), (30, v30_), (31, v31_), (32, v32_), (33, v33_), (34, v34_), (35, v35_), (36, v36_), (37, v37_), (38, v38_), (39, v39_), (40, v40_), (41, v41_), (42, v42_), (43, v43_), (44, v44_), (45, v45_), (46, v46_), (47, v47_), (48, (iv p3.Num)), (49, v49_), (50, (iv p0.Den)), (51, v51_), (52, (iv p1.Den)), (53, v53_), (54, (iv p2.Den)), (55, v55_), (56, (iv p4.Den)), (57, (.slice (some ⟨g110, 0, none⟩) [p3.Num, p0.Den, p1.Den, p2.Den, p4.Den].length 5)), (58, v58_), (59, v59_), (60, v60_), (61, v61_), (62, v62_), (63, v63_), (64, v64_), (65, v65_), (66, v66_), (67, v67_), (68, v68_), (69, v69_), (70, v70_), (71, v71_), (72, v72_), (73, v73_), (74, v74_), (5, (pt g6)), (6, (pt g9)), (7, (pt g14)), (8, (pt g17)), (9, (pt g75)), (12, (.int .u64 (getI [2305843009213693951, 2305843009213693921, 2305843009213693907] x78))), (13, (.int .u64 0)), (16, (.agg #[(.int .u64 2305843009213693951), (.int .u64 2305843009213693921), (.int .u64 2305843009213693907)])), (17, (iv x78))] [(20, v20_), (21, v21_), (22, v22_), (23, v23_), (24, v24_), (25, v25_), (26, v26_), (27, v27_), (28, v28_), (29, v29_), (30, v30_), (31, v31_), (32, v32_), (33, v33_), (34, v34_), (35, v35_), (36, v36_), (37, v37_), (38, v38_), (39, v39_), (40, v40_), (41, v41_), (42, v42_), (43, v43_), (44, v44_), (45, v45_), (46, v46_), (47, v47_), (48, (iv p3.Num)), (49, v49_), (50, (iv p0.Den)), (51, v51_), (52, (iv p1.Den)), (53, v53_), (54, (iv p2.Den)), (55, v55_), (56, (iv p4.Den)), (57, (.slice (some ⟨g110, 0, none⟩) [p3.Num, p0.Den, p1.Den, p2.Den, p4.Den].length 5)), (58, v58_), (59, v59_), (60, v60_), (61, v61_), (62, v62_), (63, v63_), (64, v64_), (65, v65_), (66, v66_), (67, v67_), (68, v68_), (69, v69_), (70, v70_), (71, v71_), (72, v72_), (73, v73_), (74, v74_), (5, (pt g6)), (6, (pt g9)), (7, (pt g14)), (8, (pt g17)), (9, (pt g75)), (12, (.int .u64 (getI [2305843009213693951, 2305843009213693921, 2305843009213693907] x78))), (13, (.int .u64 0)), (16, (.agg #[(.int .u64 2305843009213693951), (.int .u64 2305843009213693921), (.int .u64 2305843009213693907)])), (17, (iv x78))] rfl rfl ?_
      refine WL.done rfl ?_
      exact fun fb_ a_ ha_ => ⟨v20_, v21_, v22_, v23_, v24_, v25_, v26_, v27_, v28_, v29_, v30_, v31_, v32_, v33_, v34_, v35_, v36_, v37_, v38_, v39_, v40_, v41_, v42_, v43_, v44_, v45_, v46_, v47_, (iv p3.Num), v49_, (iv p0.Den), v51_, (iv p1.Den), v53_, (iv p2.Den), v55_, (iv p4.Den), (sv (some ⟨g110, 0, none⟩) [p3.Num, p0.Den, p1.Den, p2.Den, p4.Den] 5), v58_, v59_, v60_, v61_, v62_, v63_, v64_, v65_, v66_, v67_, v68_, v69_, v70_, v71_, v72_, v73_, v74_, g87, g88, g110, g90, g91, fb_, ha_, (H_.upd 37 (sv (some ⟨g110, 0, none⟩) [p3.Num, p0.Den, p1.Den, p2.Den, p4.Den] 5) rfl), (hS113.sub [1, 2, 0, 4, 5, 6, 7, 8, 9, 10] (by decide))⟩
     ·intro d_ a_ w_ hd_ hj_ hc_ hI_
      have hi_ : 38 < 55 := by decide
      refine ex10 hI_ fun v20_ v21_ v22_ v23_ v24_ v25_ v26_ v27_ v28_ v29_ h0_ => ?_
      refine ex10 h0_ fun v30_ v31_ v32_ v33_ v34_ v35_ v36_ v37_ v38_ v39_ h1_ => ?_
      refine ex10 h1_ fun v40_ v41_ v42_ v43_ v44_ v45_ v46_ v47_ v48_ v49_ h2_ => ?_
      refine ex10 h2_ fun v50_ v51_ v52_ v53_ v54_ v55_ v56_ v57_ v58_ v59_ h3_ => ?_
      refine ex10 h3_ fun v60_ v61_ v62_ v63_ v64_ v65_ v66_ v67_ v68_ v69_ h4_ => ?_
      refine ex10 h4_ fun v70_ v71_ v72_ v73_ v74_ g87 g88 g89 g90 g91 h5_ => ?_
      obtain ⟨fb_, ha_, H_, hS_⟩ := h5_
      clear hI_ h0_ h1_ h2_ h3_ h4_
      obtain rfl : v46_ = (.int .u64 (getI [2305843009213693951, 2305843009213693921, 2305843009213693907] x78)) := H_ 26 _ rfl (hj_ 26 (memN_iff.1 (by kernel_rfl)))
      obtain rfl : v57_ = (sv (some ⟨g89, 0, none⟩) [p3.Num, p0.Den, p1.Den, p2.Den, p4.Den] 5) := H_ 37 _ rfl (hj_ 37 (memN_iff.1 (by kernel_rfl)))
      have e37_ : d_ 37 = true := hj_ 37 (memN_iff.1 (by kernel_rfl))
      rw [e37_] at hS_
      refine op_WL hi_ ha_ ?_
      refine WL.call (some 58) 32 #[(.int .u64 (getI [2305843009213693951, 2305843009213693921, 2305843009213693907] x78)), (iv (-1)), (sv (some ⟨g89, 0, none⟩) [p3.Num, p0.Den, p1.Den, p2.Den, p4.Den] 5)] (fun fb => by kernel_rfl) (weight_product_calls _ (getI [2305843009213693951, 2305843009213693921, 2305843009213693907] x78) (-1) [p3.Num, p0.Den, p1.Den, p2.Den, p4.Den] (some ⟨g89, 0, none⟩) 5 t114 _ (hS_.ow 2).ofO ht115) (fun v w116 hR117 => ?_)
      obtain ⟨rfl, hk_⟩ := hR117
      have hS118 := hS_.keepN hk_
      refine ⟨trivial, ?_⟩
      refine WL.reE [20, 21, 22, 23, 24, 25, 26, 27, 28, 29, 30, 31, 32, 33, 34, 35, 36, 37, 38, 39, 40, 41, 42, 43, 44, 45, 46, 47, 48, 49, 50, 51, 52, 53, 54, 55, 56, 57, 58, 59, 60, 61, 62, 63, 64, 65, 66, 67, 68, 69, 70, 71, 72, 73, 74, 5, 6, 7, 8, 9, 12, 13, 16, 17] [(20, v20_), (21, v21_), (22, v22_), (23, v23_), (24, v24_), (25, v25_), (26, v26_), (27, v27_), (28, v28_), (29, v29_), (30, v30_), (31, v31_), (32, v32_), (33, v33_), (34, v34_), (35, v35_), (36, v36_), (37, v37_), (38, v38_), (39, v39_), (40, v40_), (41, v41_), (42, v42_), (43, v43_), (44, v44_), (45, v45_), (46, (.int .u64 (getI [2305843009213693951, 2305843009213693921, 2305843009213693907] x78))), (47, v47_), (48, v48_), (49, v49_), (50, v50_), (51, v51_), (52, v52_), (53, v53_), (54, v54_), (55, v55_), (56, v56_), (57, (.slice (some ⟨g89, 0, none⟩) [p3.Num, p0.Den, p1.Den, p2.Den, p4.Den].length 5)), (58, (.int .u64 t114)), (59, v59_), (60, v60_), (61, v61_), (62, v62_), (63, v63_), (64, v64_), (65, v65_), (66, v66_), (67, v67_), (68, v68_), (69, v69_), (70, v70_), (71, v71_), (72, v72_), (73, v73_), (74, v74_), (5, (pt g6)), (6, (pt g9)), (7, (pt g14)), (8, (pt g17)), (9, (pt g75)), (12, (.int .u64 (getI [2305843009213693951, 2305843009213693921, 2305843009213693907] x78))), (13, (.int .u64 0)), (16, (.agg #[(.int .u64 2305843009213693951), (.int .u64 2305843009213693921), (.int .u64 2305843009213693907)])), (17, (iv x78))] [(20, v20_), (21, v21_), (22, v22_), (23, v23_), (24, v24_), (25, v25_), (26, v26_), (27, v27_), (28, v28_), (29, v29_), (30, v30_), (31, v31_), (32, v32_), (33, v33_), (34, v34_), (35, v35_), (36, v36_), (37, v37_), (38, v38_), (39, v39_), (40, v40_), (41, v41_), (42, v42_), (43, v43_), (44, v44_), (45, v45_), (46, (.int .u64 (getI [2305843009213693951, 2305843009213693921, 2305843009213693907] x78))), (47, v47_), (48, v48_), (49, v49_), (50, v50_), (51, v51_), (52, v52_), (53, v53_), (54, v54_), (55, v55_), (56, v56_), (57, (.slice (some ⟨g89, 0, none⟩) [p3.Num, p0.Den, p1.Den, p2.Den, p4.Den].length 5)), (58, (.int .u64 t114)), (59, v59_), (60, v60_), (61, v61_), (62, v62_), (63, v63_), (64, v64_), (65, v65_), (66, v66_), (67, v67_), (68, v68_), (69, v69_), (70, v70_), (71, v71_), (72, v72_), (73, v73_), (74, v74_), (5, (pt g6)), (6, (pt g9)), (7, (pt g14)), (8, (pt g17)), (9, (pt g75)), (12, (.int .u64 (getI [2305843009213693951, 2305843009213693921, 2305843009213693907] x78))), (13, (.int .u64 0)), (16, (.agg #[(.int .u64 2305843009213693951), (.int .u64 2305843009213693921), (.int .u64 2305843009213693907)])), (17, (iv x78))] rfl rfl ?_
      refine WL.done rfl ?_
      exact fun fb_ a_ ha_ => ⟨v20_, v21_, v22_, v23_, v24_, v25_, v26_, v27_, v28_, v29_, v30_, v31_, v32_, v33_, v34_, v35_, v36_, v37_, v38_, v39_, v40_, v41_, v42_, v43_, v44_, v45_, (.int .u64 (getI [2305843009213693951, 2305843009213693921, 2305843009213693907] x78)), v47_, v48_, v49_, v50_, v51_, v52_, v53_, v54_, v55_, v56_, (.slice (some ⟨g89, 0, none⟩) [p3.Num, p0.Den, p1.Den, p2.Den, p4.Den].length 5), (.int .u64 t114), v59_, v60_, v61_, v62_, v63_, v64_, v65_, v66_, v67_, v68_, v69_, v70_, v71_, v72_, v73_, v74_, g87, g88, g89, g90, g91, fb_, ha_, (H_.upd 38 (.int .u64 t114) rfl), (by rw [show upd d_ 38 37 = true from e37_]; exact hS118)⟩
     ·intro d_ a_ w_ hd_ hj_ hc_ hI_
      have hi_ : 39 < 55 := by decide
      refine ex10 hI_ fun v20_ v21_ v22_ v23_ v24_ v25_ v26_ v27_ v28_ v29_ h0_ => ?_
      refine ex10 h0_ fun v30_ v31_ v32_ v33_ v34_ v35_ v36_ v37_ v38_ v39_ h1_ => ?_
      refine ex10 h1_ fun v40_ v41_ v42_ v43_ v44_ v45_ v46_ v47_ v48_ v49_ h2_ => ?_
      refine ex10 h2_ fun v50_ v51_ v52_ v53_ v54_ v55_ v56_ v57_ v58_ v59_ h3_ => ?_
      refine ex10 h3_ fun v60_ v61_ v62_ v63_ v64_ v65_ v66_ v67_ v68_ v69_ h4_ => ?_
      refine ex10 h4_ fun v70_ v71_ v72_ v73_ v74_ g87 g88 g89 g90 g91 h5_ => ?_
      obtain ⟨fb_, ha_, H_, hS_⟩ := h5_
      clear hI_ h0_ h1_ h2_ h3_ h4_
      refine op_WL hi_ ha_ ?_
      refine seg 1 [] [20, 21, 22, 23, 24, 25, 26, 27, 28, 29, 30, 31, 32, 33, 34, 35, 36, 37, 38, 39, 40, 41, 42, 43, 44, 45, 46, 47, 48, 49, 50, 51, 52, 53, 54, 55, 56, 57, 58, 59, 60, 61, 62, 63, 64, 65, 66, 67, 68, 69, 70, 71, 72, 73, 74, 5, 6, 7, 8, 9, 12, 13, 16, 17] [(20, v20_), (21, v21_), (22, v22_), (23, v23_), (24, v24_), (25, v25_), (26, v26_), (27, v27_), (28, v28_), (29, v29_), (30, v30_), (31, v31_), (32, v32_), (33, v33_), (34, v34_), (35, v35_), (36, v36_), (37, v37_), (38, v38_), (39, v39_), (40, v40_), (41, v41_), (42, v42_), (43, v43_), (44, v44_), (45, v45_), (46, v46_), (47, v47_), (48, v48_), (49, v49_), (50, v50_), (51, v51_), (52, v52_), (53, v53_), (54, v54_), (55, v55_), (56, v56_), (57, v57_), (58, v58_), (59, (.int .u64 (getI [2305843009213693951, 2305843009213693921, 2305843009213693907] x78))), (60, v60_), (61, v61_), (62, v62_), (63, v63_), (64, v64_), (65, v65_), (66, v66_), (67, v67_), (68, v68_), (69, v69_), (70, v70_), (71, v71_), (72, v72_), (73, v73_), (74, v74_), (5, (pt g6)), (6, (pt g9)), (7, (pt g14)), (8, (pt g17)), (9, (pt g75)), (12, (.int .u64 (getI [2305843009213693951, 2305843009213693921, 2305843009213693907] x78))), (13, (.int .u64 0)), (16, (.agg #[(.int .u64 2305843009213693951), (.int .u64 2305843009213693921), (.int .u64 2305843009213693907)])), (17, (iv x78))] [] (fun fb => by kernel_rfl) rfl trivial ?_
      refine WL.done rfl ?_
      exact fun fb_ a_ ha_ => ⟨v20_, v21_, v22_, v23_, v24_, v25_, v26_, v27_, v28_, v29_, v30_, v31_, v32_, v33_, v34_, v35_, v36_, v37_, v38_, v39_, v40_, v41_, v42_, v43_, v44_, v45_, v46_, v47_, v48_, v49_, v50_, v51_, v52_, v53_, v54_, v55_, v56_, v57_, v58_, (.int .u64 (getI [2305843009213693951, 2305843009213693921, 2305843009213693907] x78)), v60_, v61_, v62_, v63_, v64_, v65_, v66_, v67_, v68_, v69_, v70_, v71_, v72_, v73_, v74_, g87, g88, g89, g90, g91, fb_, ha_, (H_.upd 39 (.int .u64 (getI [2305843009213693951, 2305843009213693921, 2305843009213693907] x78)) rfl), hS_⟩
     ·intro d_ a_ w_ hd_ hj_ hc_ hI_
      have hi_ : 40 < 55 := by decide
      refine ex10 hI_ fun v20_ v21_ v22_ v23_ v24_ v25_ v26_ v27_ v28_ v29_ h0_ => ?_
      refine ex10 h0_ fun v30_ v31_ v32_ v33_ v34_ v35_ v36_ v37_ v38_ v39_ h1_ => ?_
      refine ex10 h1_ fun v40_ v41_ v42_ v43_ v44_ v45_ v46_ v47_ v48_ v49_ h2_ => ?_
      refine ex10 h2_ fun v50_ v51_ v52_ v53_ v54_ v55_ v56_ v57_ v58_ v59_ h3_ => ?_
      refine ex10 h3_ fun v60_ v61_ v62_ v63_ v64_ v65_ v66_ v67_ v68_ v69_ h4_ => ?_
      refine ex10 h4_ fun v70_ v71_ v72_ v73_ v74_ g87 g88 g89 g90 g91 h5_ => ?_
      obtain ⟨fb_, ha_, H_, hS_⟩ := h5_
      clear hI_ h0_ h1_ h2_ h3_ h4_
      refine op_WL hi_ ha_ ?_
      refine seg 1 [] [20, 21, 22, 23, 24, 25, 26, 27, 28, 29, 30, 31, 32, 33, 34, 35, 36, 37, 38, 39, 40, 41, 42, 43, 44, 45, 46, 47, 48, 49, 50, 51, 52, 53, 54, 55, 56, 57, 58, 59, 60, 61, 62, 63, 64, 65, 66, 67, 68, 69, 70, 71, 72, 73, 74, 5, 6, 7, 8, 9, 12, 13, 16, 17] [(20, v20_), (21, v21_), (22, v22_), (23, v23_), (24, v24_), (25, v25_), (26, v26_), (27, v27_), (28, v28_), (29, v29_), (30, v30_), (31, v31_), (32, v32_), (33, v33_), (34, v34_), (35, v35_), (36, v36_), (37, v37_), (38, v38_), (39, v39_), (40, v40_), (41, v41_), (42, v42_), (43, v43_), (44, v44_), (45, v45_), (46, v46_), (47, v47_), (48, v48_), (49, v49_), (50, v50_), (51, v51_), (52, v52_), (53, v53_), (54, v54_), (55, v55_), (56, v56_), (57, v57_), (58, v58_), (59, v59_), (60, (pt g75)), (61, v61_), (62, v62_), (63, v63_), (64, v64_), (65, v65_), (66, v66_), (67, v67_), (68, v68_), (69, v69_), (70, v70_), (71, v71_), (72, v72_), (73, v73_), (74, v74_), (5, (pt g6)), (6, (pt g9)), (7, (pt g14)), (8, (pt g17)), (9, (pt g75)), (12, (.int .u64 (getI [2305843009213693951, 2305843009213693921, 2305843009213693907] x78))), (13, (.int .u64 0)), (16, (.agg #[(.int .u64 2305843009213693951), (.int .u64 2305843009213693921), (.int .u64 2305843009213693907)])), (17, (iv x78))] [] (fun fb => by kernel_rfl) rfl trivial ?_
      refine WL.done rfl ?_
      exact fun fb_ a_ ha_ => ⟨v20_, v21_, v22_, v23_, v24_, v25_, v26_, v27_, v28_, v29_, v30_, v31_, v32_, v33_, v34_, v35_, v36_, v37_, v38_, v39_, v40_, v41_, v42_, v43_, v44_, v45_, v46_, v47_, v48_, v49_, v50_, v51_, v52_, v53_, v54_, v55_, v56_, v57_, v58_, v59_, (pt g75), v61_, v62_, v63_, v64_, v65_, v66_, v67_, v68_, v69_, v70_, v71_, v72_, v73_, v74_, g87, g88, g89, g90, g91, fb_, ha_, (H_.upd 40 (pt g75) rfl), hS_⟩
     ·intro d_ a_ w_ hd_ hj_ hc_ hI_
      have hi_ : 41 < 55 := by decide
      refine ex10 hI_ fun v20_ v21_ v22_ v23_ v24_ v25_ v26_ v27_ v28_ v29_ h0_ => ?_
      refine ex10 h0_ fun v30_ v31_ v32_ v33_ v34_ v35_ v36_ v37_ v38_ v39_ h1_ => ?_
      refine ex10 h1_ fun v40_ v41_ v42_ v43_ v44_ v45_ v46_ v47_ v48_ v49_ h2_ => ?_
      refine ex10 h2_ fun v50_ v51_ v52_ v53_ v54_ v55_ v56_ v57_ v58_ v59_ h3_ => ?_
      refine ex10 h3_ fun v60_ v61_ v62_ v63_ v64_ v65_ v66_ v67_ v68_ v69_ h4_ => ?_
      refine ex10 h4_ fun v70_ v71_ v72_ v73_ v74_ g87 g88 g89 g90 g91 h5_ => ?_
      obtain ⟨fb_, ha_, H_, hS_⟩ := h5_
      clear hI_ h0_ h1_ h2_ h3_ h4_
      obtain rfl : v60_ = (pt g75) := H_ 40 _ rfl (hj_ 40 (memN_iff.1 (by kernel_rfl)))
      refine op_WL hi_ ha_ ?_
      refine seg 1 [.v (iv p4.Num)] [20, 21, 22, 23, 24, 25, 26, 27, 28, 29, 30, 31, 32, 33, 34, 35, 36, 37, 38, 39, 40, 41, 42, 43, 44, 45, 46, 47, 48, 49, 50, 51, 52, 53, 54, 55, 56, 57, 58, 59, 60, 61, 62, 63, 64, 65, 66, 67, 68, 69, 70, 71, 72, 73, 74, 5, 6, 7, 8, 9, 12, 13, 16, 17] [(20, v20_), (21, v21_), (22, v22_), (23, v23_), (24, v24_), (25, v25_), (26, v26_), (27, v27_), (28, v28_), (29, v29_), (30, v30_), (31, v31_), (32, v32_), (33, v33_), (34, v34_), (35, v35_), (36, v36_), (37, v37_), (38, v38_), (39, v39_), (40, v40_), (41, v41_), (42, v42_), (43, v43_), (44, v44_), (45, v45_), (46, v46_), (47, v47_), (48, v48_), (49, v49_), (50, v50_), (51, v51_), (52, v52_), (53, v53_), (54, v54_), (55, v55_), (56, v56_), (57, v57_), (58, v58_), (59, v59_), (60, (pt g75)), (61, (iv p4.Num)), (62, v62_), (63, v63_), (64, v64_), (65, v65_), (66, v66_), (67, v67_), (68, v68_), (69, v69_), (70, v70_), (71, v71_), (72, v72_), (73, v73_), (74, v74_), (5, (pt g6)), (6, (pt g9)), (7, (pt g14)), (8, (pt g17)), (9, (pt g75)), (12, (.int .u64 (getI [2305843009213693951, 2305843009213693921, 2305843009213693907] x78))), (13, (.int .u64 0)), (16, (.agg #[(.int .u64 2305843009213693951), (.int .u64 2305843009213693921), (.int .u64 2305843009213693907)])), (17, (iv x78))] [.cell ⟨g75, 0, none⟩ (iv p4.Num)] (fun fb => by kernel_rfl) rfl ⟨hS_.cell 9 rfl 0 rfl, trivial⟩ ?_
      refine WL.done rfl ?_
      exact fun fb_ a_ ha_ => ⟨v20_, v21_, v22_, v23_, v24_, v25_, v26_, v27_, v28_, v29_, v30_, v31_, v32_, v33_, v34_, v35_, v36_, v37_, v38_, v39_, v40_, v41_, v42_, v43_, v44_, v45_, v46_, v47_, v48_, v49_, v50_, v51_, v52_, v53_, v54_, v55_, v56_, v57_, v58_, v59_, (pt g75), (iv p4.Num), v62_, v63_, v64_, v65_, v66_, v67_, v68_, v69_, v70_, v71_, v72_, v73_, v74_, g87, g88, g89, g90, g91, fb_, ha_, (H_.upd 41 (iv p4.Num) rfl), hS_⟩
     ·intro d_ a_ w_ hd_ hj_ hc_ hI_
      have hi_ : 42 < 55 := by decide
      refine ex10 hI_ fun v20_ v21_ v22_ v23_ v24_ v25_ v26_ v27_ v28_ v29_ h0_ => ?_
      refine ex10 h0_ fun v30_ v31_ v32_ v33_ v34_ v35_ v36_ v37_ v38_ v39_ h1_ => ?_
      refine ex10 h1_ fun v40_ v41_ v42_ v43_ v44_ v45_ v46_ v47_ v48_ v49_ h2_ => ?_
      refine ex10 h2_ fun v50_ v51_ v52_ v53_ v54_ v55_ v56_ v57_ v58_ v59_ h3_ => ?_
      refine ex10 h3_ fun v60_ v61_ v62_ v63_ v64_ v65_ v66_ v67_ v68_ v69_ h4_ => ?_
      refine ex10 h4_ fun v70_ v71_ v72_ v73_ v74_ g87 g88 g89 g90 g91 h5_ => ?_
      obtain ⟨fb_, ha_, H_, hS_⟩ := h5_
      clear hI_ h0_ h1_ h2_ h3_ h4_
      refine op_WL hi_ ha_ ?_
      refine seg 1 [] [20, 21, 22, 23, 24, 25, 26, 27, 28, 29, 30, 31, 32, 33, 34, 35, 36, 37, 38, 39, 40, 41, 42, 43, 44, 45, 46, 47, 48, 49, 50, 51, 52, 53, 54, 55, 56, 57, 58, 59, 60, 61, 62, 63, 64, 65, 66, 67, 68, 69, 70, 71, 72, 73, 74, 5, 6, 7, 8, 9, 12, 13, 16, 17] [(20, v20_), (21, v21_), (22, v22_), (23, v23_), (24, v24_), (25, v25_), (26, v26_), (27, v27_), (28, v28_), (29, v29_), (30, v30_), (31, v31_), (32, v32_), (33, v33_), (34, v34_), (35, v35_), (36, v36_), (37, v37_), (38, v38_), (39, v39_), (40, v40_), (41, v41_), (42, v42_), (43, v43_), (44, v44_), (45, v45_), (46, v46_), (47, v47_), (48, v48_), (49, v49_), (50, v50_), (51, v51_), (52, v52_), (53, v53_), (54, v54_), (55, v55_), (56, v56_), (57, v57_), (58, v58_), (59, v59_), (60, v60_), (61, v61_), (62, (.pointer (some ⟨g6, 1, none⟩))), (63, v63_), (64, v64_), (65, v65_), (66, v66_), (67, v67_), (68, v68_), (69, v69_), (70, v70_), (71, v71_), (72, v72_), (73, v73_), (74, v74_), (5, (pt g6)), (6, (pt g9)), (7, (pt g14)), (8, (pt g17)), (9, (pt g75)), (12, (.int .u64 (getI [2305843009213693951, 2305843009213693921, 2305843009213693907] x78))), (13, (.int .u64 0)), (16, (.agg #[(.int .u64 2305843009213693951), (.int .u64 2305843009213693921), (.int .u64 2305843009213693907)])), (17, (iv x78))] [] (fun fb => by kernel_rfl) rfl trivial ?_
      refine WL.done rfl ?_
      exact fun fb_ a_ ha_ => ⟨v20_, v21_, v22_, v23_, v24_, v25_, v26_, v27_, v28_, v29_, v30_, v31_, v32_, v33_, v34_, v35_, v36_, v37_, v38_, v39_, v40_, v41_, v42_, v43_, v44_, v45_, v46_, v47_, v48_, v49_, v50_, v51_, v52_, v53_, v54_, v55_, v56_, v57_, v58_, v59_, v60_, v61_, (.pointer (some ⟨g6, 1, none⟩)), v63_, v64_, v65_, v66_, v67_, v68_, v69_, v70_, v71_, v72_, v73_, v74_, g87, g88, g89, g90, g91, fb_, ha_, (H_.upd 42 (.pointer (some ⟨g6, 1, none⟩)) rfl), hS_⟩
     ·intro d_ a_ w_ hd_ hj_ hc_ hI_
      have hi_ : 43 < 55 := by decide
      refine ex10 hI_ fun v20_ v21_ v22_ v23_ v24_ v25_ v26_ v27_ v28_ v29_ h0_ => ?_
      refine ex10 h0_ fun v30_ v31_ v32_ v33_ v34_ v35_ v36_ v37_ v38_ v39_ h1_ => ?_
      refine ex10 h1_ fun v40_ v41_ v42_ v43_ v44_ v45_ v46_ v47_ v48_ v49_ h2_ => ?_
      refine ex10 h2_ fun v50_ v51_ v52_ v53_ v54_ v55_ v56_ v57_ v58_ v59_ h3_ => ?_
      refine ex10 h3_ fun v60_ v61_ v62_ v63_ v64_ v65_ v66_ v67_ v68_ v69_ h4_ => ?_
      refine ex10 h4_ fun v70_ v71_ v72_ v73_ v74_ g87 g88 g89 g90 g91 h5_ => ?_
      obtain ⟨fb_, ha_, H_, hS_⟩ := h5_
      clear hI_ h0_ h1_ h2_ h3_ h4_
      obtain rfl : v62_ = (.pointer (some ⟨g6, 1, none⟩)) := H_ 42 _ rfl (hj_ 42 (memN_iff.1 (by kernel_rfl)))
      refine op_WL hi_ ha_ ?_
      refine seg 1 [.v (iv p0.Den)] [20, 21, 22, 23, 24, 25, 26, 27, 28, 29, 30, 31, 32, 33, 34, 35, 36, 37, 38, 39, 40, 41, 42, 43, 44, 45, 46, 47, 48, 49, 50, 51, 52, 53, 54, 55, 56, 57, 58, 59, 60, 61, 62, 63, 64, 65, 66, 67, 68, 69, 70, 71, 72, 73, 74, 5, 6, 7, 8, 9, 12, 13, 16, 17] [(20, v20_), (21, v21_), (22, v22_), (23, v23_), (24, v24_), (25, v25_), (26, v26_), (27, v27_), (28, v28_), (29, v29_), (30, v30_), (31, v31_), (32, v32_), (33, v33_), (34, v34_), (35, v35_), (36, v36_), (37, v37_), (38, v38_), (39, v39_), (40, v40_), (41, v41_), (42, v42_), (43, v43_), (44, v44_), (45, v45_), (46, v46_), (47, v47_), (48, v48_), (49, v49_), (50, v50_), (51, v51_), (52, v52_), (53, v53_), (54, v54_), (55, v55_), (56, v56_), (57, v57_), (58, v58_), (59, v59_), (60, v60_), (61, v61_), (62, (.pointer (some ⟨g6, 1, none⟩))), (63, (iv p0.Den)), (64, v64_), (65, v65_), (66, v66_), (67, v67_), (68, v68_), (69, v69_), (70, v70_), (71, v71_), (72, v72_), (73, v73_), (74, v74_), (5, (pt g6)), (6, (pt g9)), (7, (pt g14)), (8, (pt g17)), (9, (pt g75)), (12, (.int .u64 (getI [2305843009213693951, 2305843009213693921, 2305843009213693907] x78))), (13, (.int .u64 0)), (16, (.agg #[(.int .u64 2305843009213693951), (.int .u64 2305843009213693921), (.int .u64 2305843009213693907)])), (17, (iv x78))] [.cell ⟨g6, 1, none⟩ (iv p0.Den)] (fun fb => by kernel_rfl) rfl ⟨hS_.cell 5 rfl 1 rfl, trivial⟩ ?_
      refine WL.done rfl ?_
      exact fun fb_ a_ ha_ => ⟨v20_, v21_, v22_, v23_, v24_, v25_, v26_, v27_, v28_, v29_, v30_, v31_, v32_, v33_, v34_, v35_, v36_, v37_, v38_, v39_, v40_, v41_, v42_, v43_, v44_, v45_, v46_, v47_, v48_, v49_, v50_, v51_, v52_, v53_, v54_, v55_, v56_, v57_, v58_, v59_, v60_, v61_, (.pointer (some ⟨g6, 1, none⟩)), (iv p0.Den), v64_, v65_, v66_, v67_, v68_, v69_, v70_, v71_, v72_, v73_, v74_, g87, g88, g89, g90, g91, fb_, ha_, (H_.upd 43 (iv p0.Den) rfl), hS_⟩
     ·intro d_ a_ w_ hd_ hj_ hc_ hI_
      have hi_ : 44 < 55 := by decide
      refine ex10 hI_ fun v20_ v21_ v22_ v23_ v24_ v25_ v26_ v27_ v28_ v29_ h0_ => ?_
      refine ex10 h0_ fun v30_ v31_ v32_ v33_ v34_ v35_ v36_ v37_ v38_ v39_ h1_ => ?_
      refine ex10 h1_ fun v40_ v41_ v42_ v43_ v44_ v45_ v46_ v47_ v48_ v49_ h2_ => ?_
      refine ex10 h2_ fun v50_ v51_ v52_ v53_ v54_ v55_ v56_ v57_ v58_ v59_ h3_ => ?_
      refine ex10 h3_ fun v60_ v61_ v62_ v63_ v64_ v65_ v66_ v67_ v68_ v69_ h4_ => ?_
      refine ex10 h4_ fun v70_ v71_ v72_ v73_ v74_ g87 g88 g89 g90 g91 h5_ => ?_
      obtain ⟨fb_, ha_, H_, hS_⟩ := h5_
      clear hI_ h0_ h1_ h2_ h3_ h4_
      refine op_WL hi_ ha_ ?_
      refine seg 1 [] [20, 21, 22, 23, 24, 25, 26, 27, 28, 29, 30, 31, 32, 33, 34, 35, 36, 37, 38, 39, 40, 41, 42, 43, 44, 45, 46, 47, 48, 49, 50, 51, 52, 53, 54, 55, 56, 57, 58, 59, 60, 61, 62, 63, 64, 65, 66, 67, 68, 69, 70, 71, 72, 73, 74, 5, 6, 7, 8, 9, 12, 13, 16, 17] [(20, v20_), (21, v21_), (22, v22_), (23, v23_), (24, v24_), (25, v25_), (26, v26_), (27, v27_), (28, v28_), (29, v29_), (30, v30_), (31, v31_), (32, v32_), (33, v33_), (34, v34_), (35, v35_), (36, v36_), (37, v37_), (38, v38_), (39, v39_), (40, v40_), (41, v41_), (42, v42_), (43, v43_), (44, v44_), (45, v45_), (46, v46_), (47, v47_), (48, v48_), (49, v49_), (50, v50_), (51, v51_), (52, v52_), (53, v53_), (54, v54_), (55, v55_), (56, v56_), (57, v57_), (58, v58_), (59, v59_), (60, v60_), (61, v61_), (62, v62_), (63, v63_), (64, (.pointer (some ⟨g9, 1, none⟩))), (65, v65_), (66, v66_), (67, v67_), (68, v68_), (69, v69_), (70, v70_), (71, v71_), (72, v72_), (73, v73_), (74, v74_), (5, (pt g6)), (6, (pt g9)), (7, (pt g14)), (8, (pt g17)), (9, (pt g75)), (12, (.int .u64 (getI [2305843009213693951, 2305843009213693921, 2305843009213693907] x78))), (13, (.int .u64 0)), (16, (.agg #[(.int .u64 2305843009213693951), (.int .u64 2305843009213693921), (.int .u64 2305843009213693907)])), (17, (iv x78))] [] (fun fb => by kernel_rfl) rfl trivial ?_
      refine WL.done rfl ?_
      exact fun fb_ a_ ha_ => ⟨v20_, v21_, v22_, v23_, v24_, v25_, v26_, v27_, v28_, v29_, v30_, v31_, v32_, v33_, v34_, v35_, v36_, v37_, v38_, v39_, v40_, v41_, v42_, v43_, v44_, v45_, v46_, v47_, v48_, v49_, v50_, v51_, v52_, v53_, v54_, v55_, v56_, v57_, v58_, v59_, v60_, v61_, v62_, v63_, (.pointer (some ⟨g9, 1, none⟩)), v65_, v66_, v67_, v68_, v69_, v70_, v71_, v72_, v73_, v74_, g87, g88, g89, g90, g91, fb_, ha_, (H_.upd 44 (.pointer (some ⟨g9, 1, none⟩)) rfl), hS_⟩
     ·intro d_ a_ w_ hd_ hj_ hc_ hI_
      have hi_ : 45 < 55 := by decide
      refine ex10 hI_ fun v20_ v21_ v22_ v23_ v24_ v25_ v26_ v27_ v28_ v29_ h0_ => ?_
      refine ex10 h0_ fun v30_ v31_ v32_ v33_ v34_ v35_ v36_ v37_ v38_ v39_ h1_ => ?_
      refine ex10 h1_ fun v40_ v41_ v42_ v43_ v44_ v45_ v46_ v47_ v48_ v49_ h2_ => ?_
      refine ex10 h2_ fun v50_ v51_ v52_ v53_ v54_ v55_ v56_ v57_ v58_ v59_ h3_ => ?_
      refine ex10 h3_ fun v60_ v61_ v62_ v63_ v64_ v65_ v66_ v67_ v68_ v69_ h4_ => ?_
      refine ex10 h4_ fun v70_ v71_ v72_ v73_ v74_ g87 g88 g89 g90 g91 h5_ => ?_
      obtain ⟨fb_, ha_, H_, hS_⟩ := h5_
      clear hI_ h0_ h1_ h2_ h3_ h4_
      obtain rfl : v64_ = (.pointer (some ⟨g9, 1, none⟩)) := H_ 44 _ rfl (hj_ 44 (memN_iff.1 (by kernel_rfl)))
      refine op_WL hi_ ha_ ?_
      refine seg 1 [.v (iv p1.Den)] [20, 21, 22, 23, 24, 25, 26, 27, 28, 29, 30, 31, 32, 33, 34, 35, 36, 37, 38, 39, 40, 41, 42, 43, 44, 45, 46, 47, 48, 49, 50, 51, 52, 53, 54, 55, 56, 57, 58, 59, 60, 61, 62, 63, 64, 65, 66, 67, 68, 69, 70, 71, 72, 73, 74, 5, 6, 7, 8, 9, 12, 13, 16, 17] [(20, v20_), (21, v21_), (22, v22_), (23, v23_), (24, v24_), (25, v25_), (26, v26_), (27, v27_), (28, v28_), (29, v29_), (30, v30_), (31, v31_), (32, v32_), (33, v33_), (34, v34_), (35, v35_), (36, v36_), (37, v37_), (38, v38_), (39, v39_), (40, v40_), (41, v41_), (42, v42_), (43, v43_), (44, v44_), (45, v45_), (46, v46_), (47, v47_), (48, v48_), (49, v49_), (50, v50_), (51, v51_), (52, v52_), (53, v53_), (54, v54_), (55, v55_), (56, v56_), (57, v57_), (58, v58_), (59, v59_), (60, v60_), (61, v61_), (62, v62_), (63, v63_), (64, (.pointer (some ⟨g9, 1, none⟩))), (65, (iv p1.Den)), (66, v66_), (67, v67_), (68, v68_), (69, v69_), (70, v70_), (71, v71_), (72, v72_), (73, v73_), (74, v74_), (5, (pt g6)), (6, (pt g9)), (7, (pt g14)), (8, (pt g17)), (9, (pt g75)), (12, (.int .u64 (getI [2305843009213693951, 2305843009213693921, 2305843009213693907] x78))), (13, (.int .u64 0)), (16, (.agg #[(.int .u64 2305843009213693951), (.int .u64 2305843009213693921), (.int .u64 2305843009213693907)])), (17, (iv x78))] [.cell ⟨g9, 1, none⟩ (iv p1.Den)] (fun fb => by kernel_rfl) rfl ⟨hS_.cell 6 rfl 1 rfl, trivial⟩ ?_
      refine WL.done rfl ?_
      exact fun fb_ a_ ha_ => ⟨v20_, v21_, v22_, v23_, v24_, v25_, v26_, v27_, v28_, v29_, v30_, v31_, v32_, v33_, v34_, v35_, v36_, v37_, v38_, v39_, v40_, v41_, v42_, v43_, v44_, v45_, v46_, v47_, v48_, v49_, v50_, v51_, v52_, v53_, v54_, v55_, v56_, v57_, v58_, v59_, v60_, v61_, v62_, v63_, (.pointer (some ⟨g9, 1, none⟩)), (iv p1.Den), v66_, v67_, v68_, v69_, v70_, v71_, v72_, v73_, v74_, g87, g88, g89, g90, g91, fb_, ha_, (H_.upd 45 (iv p1.Den) rfl), hS_⟩
     ·intro d_ a_ w_ hd_ hj_ hc_ hI_
      have hi_ : 46 < 55 := by decide
      refine ex10 hI_ fun v20_ v21_ v22_ v23_ v24_ v25_ v26_ v27_ v28_ v29_ h0_ => ?_
      refine ex10 h0_ fun v30_ v31_ v32_ v33_ v34_ v35_ v36_ v37_ v38_ v39_ h1_ => ?_
      refine ex10 h1_ fun v40_ v41_ v42_ v43_ v44_ v45_ v46_ v47_ v48_ v49_ h2_ => ?_
      refine ex10 h2_ fun v50_ v51_ v52_ v53_ v54_ v55_ v56_ v57_ v58_ v59_ h3_ => ?_
      refine ex10 h3_ fun v60_ v61_ v62_ v63_ v64_ v65_ v66_ v67_ v68_ v69_ h4_ => ?_
      refine ex10 h4_ fun v70_ v71_ v72_ v73_ v74_ g87 g88 g89 g90 g91 h5_ => ?_
      obtain ⟨fb_, ha_, H_, hS_⟩ := h5_
      clear hI_ h0_ h1_ h2_ h3_ h4_
      refine op_WL hi_ ha_ ?_
      refine seg 1 [] [20, 21, 22, 23, 24, 25, 26, 27, 28, 29, 30, 31, 32, 33, 34, 35, 36, 37, 38, 39, 40, 41, 42, 43, 44, 45, 46, 47, 48, 49, 50, 51, 52, 53, 54, 55, 56, 57, 58, 59, 60, 61, 62, 63, 64, 65, 66, 67, 68, 69, 70, 71, 72, 73, 74, 5, 6, 7, 8, 9, 12, 13, 16, 17] [(20, v20_), (21, v21_), (22, v22_), (23, v23_), (24, v24_), (25, v25_), (26, v26_), (27, v27_), (28, v28_), (29, v29_), (30, v30_), (31, v31_), (32, v32_), (33, v33_), (34, v34_), (35, v35_), (36, v36_), (37, v37_), (38, v38_), (39, v39_), (40, v40_), (41, v41_), (42, v42_), (43, v43_), (44, v44_), (45, v45_), (46, v46_), (47, v47_), (48, v48_), (49, v49_), (50, v50_), (51, v51_), (52, v52_), (53, v53_), (54, v54_), (55, v55_), (56, v56_), (57, v57_), (58, v58_), (59, v59_), (60, v60_), (61, v61_), (62, v62_), (63, v63_), (64, v64_), (65, v65_), (66, (.pointer (some ⟨g14, 1, none⟩))), (67, v67_), (68, v68_), (69, v69_), (70, v70_), (71, v71_), (72, v72_), (73, v73_), (74, v74_), (5, (pt g6)), (6, (pt g9)), (7, (pt g14)), (8, (pt g17)), (9, (pt g75)), (12, (.int .u64 (getI [2305843009213693951, 2305843009213693921, 2305843009213693907] x78))), (13, (.int .u64 0)), (16, (.agg #[(.int .u64 2305843009213693951), (.int .u64 2305843009213693921), (.int .u64 2305843009213693907)])), (17, (iv x78))] [] (fun fb => by kernel_rfl) rfl trivial ?_
      refine WL.done rfl ?_
      exact fun fb_ a_ ha_ => ⟨v20_, v21_, v22_, v23_, v24_, v25_, v26_, v27_, v28_, v29_, v30_, v31_, v32_, v33_, v34_, v35_, v36_, v37_, v38_, v39_, v40_, v41_, v42_, v43_, v44_, v45_, v46_, v47_, v48_, v49_, v50_, v51_, v52_, v53_, v54_, v55_, v56_, v57_, v58_, v59_, v60_, v61_, v62_, v63_, v64_, v65_, (.pointer (some ⟨g14, 1, none⟩)), v67_, v68_, v69_, v70_, v71_, v72_, v73_, v74_, g87, g88, g89, g90, g91, fb_, ha_, (H_.upd 46 (.pointer (some ⟨g14, 1, none⟩)) rfl), hS_⟩
     ·intro d_ a_ w_ hd_ hj_ hc_ hI_
      have hi_ : 47 < 55 := by decide
      refine ex10 hI_ fun v20_ v21_ v22_ v23_ v24_ v25_ v26_ v27_ v28_ v29_ h0_ => ?_
      refine ex10 h0_ fun v30_ v31_ v32_ v33_ v34_ v35_ v36_ v37_ v38_ v39_ h1_ => ?_
      refine ex10 h1_ fun v40_ v41_ v42_ v43_ v44_ v45_ v46_ v47_ v48_ v49_ h2_ => ?_
      refine ex10 h2_ fun v50_ v51_ v52_ v53_ v54_ v55_ v56_ v57_ v58_ v59_ h3_ => ?_
      refine ex10 h3_ fun v60_ v61_ v62_ v63_ v64_ v65_ v66_ v67_ v68_ v69_ h4_ => ?_
      refine ex10 h4_ fun v70_ v71_ v72_ v73_ v74_ g87 g88 g89 g90 g91 h5_ => ?_
      obtain ⟨fb_, ha_, H_, hS_⟩ := h5_
      clear hI_ h0_ h1_ h2_ h3_ h4_
      obtain rfl : v66_ = (.pointer (some ⟨g14, 1, none⟩)) := H_ 46 _ rfl (hj_ 46 (memN_iff.1 (by kernel_rfl)))
      refine op_WL hi_ ha_ ?_
      refine seg 1 [.v (iv p2.Den)] [20, 21, 22, 23, 24, 25, 26, 27, 28, 29, 30, 31, 32, 33, 34, 35, 36, 37, 38, 39, 40, 41, 42, 43, 44, 45, 46, 47, 48, 49, 50, 51, 52, 53, 54, 55, 56, 57, 58, 59, 60, 61, 62, 63, 64, 65, 66, 67, 68, 69, 70, 71, 72, 73, 74, 5, 6, 7, 8, 9, 12, 13, 16, 17] [(20, v20_), (21, v21_), (22, v22_), (23, v23_), (24, v24_), (25, v25_), (26, v26_), (27, v27_), (28, v28_), (29, v29_), (30, v30_), (31, v31_), (32, v32_), (33, v33_), (34, v34_), (35, v35_), (36, v36_), (37, v37_), (38, v38_), (39, v39_), (40, v40_), (41, v41_), (42, v42_), (43, v43_), (44, v44_), (45, v45_), (46, v46_), (47, v47_), (48, v48_), (49, v49_), (50, v50_), (51, v51_), (52, v52_), (53, v53_), (54, v54_), (55, v55_), (56, v56_), (57, v57_), (58, v58_), (59, v59_), (60, v60_), (61, v61_), (62, v62_), (63, v63_), (64, v64_), (65, v65_), (66, (.pointer (some ⟨g14, 1, none⟩))), (67, (iv p2.Den)), (68, v68_), (69, v69_), (70, v70_), (71, v71_), (72, v72_), (73, v73_), (74, v74_), (5, (pt g6)), (6, (pt g9)), (7, (pt g14)), (8, (pt g17)), (9, (pt g75)), (12, (.int .u64 (getI [2305843009213693951, 2305843009213693921, 2305843009213693907] x78))), (13, (.int .u64 0)), (16, (.agg #[(.int .u64 2305843009213693951), (.int .u64 2305843009213693921), (.int .u64 2305843009213693907)])), (17, (iv x78))] [.cell ⟨g14, 1, none⟩ (iv p2.Den)] (fun fb => by kernel_rfl) rfl ⟨hS_.cell 7 rfl 1 rfl, trivial⟩ ?_
      refine WL.done rfl ?_
      exact fun fb_ a_ ha_ => ⟨v20_, v21_, v22_, v23_, v24_, v25_, v26_, v27_, v28_, v29_, v30_, v31_, v32_, v33_, v34_, v35_, v36_, v37_, v38_, v39_, v40_, v41_, v42_, v43_, v44_, v45_, v46_, v47_, v48_, v49_, v50_, v51_, v52_, v53_, v54_, v55_, v56_, v57_, v58_, v59_, v60_, v61_, v62_, v63_, v64_, v65_, (.pointer (some ⟨g14, 1, none⟩)), (iv p2.Den), v68_, v69_, v70_, v71_, v72_, v73_, v74_, g87, g88, g89, g90, g91, fb_, ha_, (H_.upd 47 (iv p2.Den) rfl), hS_⟩
     ·intro d_ a_ w_ hd_ hj_ hc_ hI_
      have hi_ : 48 < 55 := by decide
      refine ex10 hI_ fun v20_ v21_ v22_ v23_ v24_ v25_ v26_ v27_ v28_ v29_ h0_ => ?_
      refine ex10 h0_ fun v30_ v31_ v32_ v33_ v34_ v35_ v36_ v37_ v38_ v39_ h1_ => ?_
      refine ex10 h1_ fun v40_ v41_ v42_ v43_ v44_ v45_ v46_ v47_ v48_ v49_ h2_ => ?_
      refine ex10 h2_ fun v50_ v51_ v52_ v53_ v54_ v55_ v56_ v57_ v58_ v59_ h3_ => ?_
      refine ex10 h3_ fun v60_ v61_ v62_ v63_ v64_ v65_ v66_ v67_ v68_ v69_ h4_ => ?_
      refine ex10 h4_ fun v70_ v71_ v72_ v73_ v74_ g87 g88 g89 g90 g91 h5_ => ?_
      obtain ⟨fb_, ha_, H_, hS_⟩ := h5_
      clear hI_ h0_ h1_ h2_ h3_ h4_
      refine op_WL hi_ ha_ ?_
      refine seg 1 [] [20, 21, 22, 23, 24, 25, 26, 27, 28, 29, 30, 31, 32, 33, 34, 35, 36, 37, 38, 39, 40, 41, 42, 43, 44, 45, 46, 47, 48, 49, 50, 51, 52, 53, 54, 55, 56, 57, 58, 59, 60, 61, 62, 63, 64, 65, 66, 67, 68, 69, 70, 71, 72, 73, 74, 5, 6, 7, 8, 9, 12, 13, 16, 17] [(20, v20_), (21, v21_), (22, v22_), (23, v23_), (24, v24_), (25, v25_), (26, v26_), (27, v27_), (28, v28_), (29, v29_), (30, v30_), (31, v31_), (32, v32_), (33, v33_), (34, v34_), (35, v35_), (36, v36_), (37, v37_), (38, v38_), (39, v39_), (40, v40_), (41, v41_), (42, v42_), (43, v43_), (44, v44_), (45, v45_), (46, v46_), (47, v47_), (48, v48_), (49, v49_), (50, v50_), (51, v51_), (52, v52_), (53, v53_), (54, v54_), (55, v55_), (56, v56_), (57, v57_), (58, v58_), (59, v59_), (60, v60_), (61, v61_), (62, v62_), (63, v63_), (64, v64_), (65, v65_), (66, v66_), (67, v67_), (68, (.pointer (some ⟨g17, 1, none⟩))), (69, v69_), (70, v70_), (71, v71_), (72, v72_), (73, v73_), (74, v74_), (5, (pt g6)), (6, (pt g9)), (7, (pt g14)), (8, (pt g17)), (9, (pt g75)), (12, (.int .u64 (getI [2305843009213693951, 2305843009213693921, 2305843009213693907] x78))), (13, (.int .u64 0)), (16, (.agg #[(.int .u64 2305843009213693951), (.int .u64 2305843009213693921), (.int .u64 2305843009213693907)])), (17, (iv x78))] [] (fun fb => by kernel_rfl) rfl trivial ?_
      refine WL.done rfl ?_
      exact fun fb_ a_ ha_ => ⟨v20_, v21_, v22_, v23_, v24_, v25_, v26_, v27_, v28_, v29_, v30_, v31_, v32_, v33_, v34_, v35_, v36_, v37_, v38_, v39_, v40_, v41_, v42_, v43_, v44_, v45_, v46_, v47_, v48_, v49_, v50_, v51_, v52_, v53_, v54_, v55_, v56_, v57_, v58_, v59_, v60_, v61_, v62_, v63_, v64_, v65_, v66_, v67_, (.pointer (some ⟨g17, 1, none⟩)), v69_, v70_, v71_, v72_, v73_, v74_, g87, g88, g89, g90, g91, fb_, ha_, (H_.upd 48 (.pointer (some ⟨g17, 1, none⟩)) rfl), hS_⟩
     ·intro d_ a_ w_ hd_ hj_ hc_ hI_
      have hi_ : 49 < 55 := by decide
      refine ex10 hI_ fun v20_ v21_ v22_ v23_ v24_ v25_ v26_ v27_ v28_ v29_ h0_ => ?_
      refine ex10 h0_ fun v30_ v31_ v32_ v33_ v34_ v35_ v36_ v37_ v38_ v39_ h1_ => ?_
      refine ex10 h1_ fun v40_ v41_ v42_ v43_ v44_ v45_ v46_ v47_ v48_ v49_ h2_ => ?_
      refine ex10 h2_ fun v50_ v51_ v52_ v53_ v54_ v55_ v56_ v57_ v58_ v59_ h3_ => ?_
      refine ex10 h3_ fun v60_ v61_ v62_ v63_ v64_ v65_ v66_ v67_ v68_ v69_ h4_ => ?_
      refine ex10 h4_ fun v70_ v71_ v72_ v73_ v74_ g87 g88 g89 g90 g91 h5_ => ?_
      obtain ⟨fb_, ha_, H_, hS_⟩ := h5_
      clear hI_ h0_ h1_ h2_ h3_ h4_
      obtain rfl : v68_ = (.pointer (some ⟨g17, 1, none⟩)) := H_ 48 _ rfl (hj_ 48 (memN_iff.1 (by kernel_rfl)))
      refine op_WL hi_ ha_ ?_
      refine seg 1 [.v (iv p3.Den)] [20, 21, 22, 23, 24, 25, 26, 27, 28, 29, 30, 31, 32, 33, 34, 35, 36, 37, 38, 39, 40, 41, 42, 43, 44, 45, 46, 47, 48, 49, 50, 51, 52, 53, 54, 55, 56, 57, 58, 59, 60, 61, 62, 63, 64, 65, 66, 67, 68, 69, 70, 71, 72, 73, 74, 5, 6, 7, 8, 9, 12, 13, 16, 17] [(20, v20_), (21, v21_), (22, v22_), (23, v23_), (24, v24_), (25, v25_), (26, v26_), (27, v27_), (28, v28_), (29, v29_), (30, v30_), (31, v31_), (32, v32_), (33, v33_), (34, v34_), (35, v35_), (36, v36_), (37, v37_), (38, v38_), (39, v39_), (40, v40_), (41, v41_), (42, v42_), (43, v43_), (44, v44_), (45, v45_), (46, v46_), (47, v47_), (48, v48_), (49, v49_), (50, v50_), (51, v51_), (52, v52_), (53, v53_), (54, v54_), (55, v55_), (56, v56_), (57, v57_), (58, v58_), (59, v59_), (60, v60_), (61, v61_), (62, v62_), (63, v63_), (64, v64_), (65, v65_), (66, v66_), (67, v67_), (68, (.pointer (some ⟨g17, 1, none⟩))), (69, (iv p3.Den)), (70, v70_), (71, v71_), (72, v72_), (73, v73_), (74, v74_), (5, (pt g6)), (6, (pt g9)), (7, (pt g14)), (8, (pt g17)), (9, (pt g75)), (12, (.int .u64 (getI [2305843009213693951, 2305843009213693921, 2305843009213693907] x78))), (13, (.int .u64 0)), (16, (.agg #[(.int .u64 2305843009213693951), (.int .u64 2305843009213693921), (.int .u64 2305843009213693907)])), (17, (iv x78))] [.cell ⟨g17, 1, none⟩ (iv p3.Den)] (fun fb => by kernel_rfl) rfl ⟨hS_.cell 8 rfl 1 rfl, trivial⟩ ?_
      refine WL.done rfl ?_
      exact fun fb_ a_ ha_ => ⟨v20_, v21_, v22_, v23_, v24_, v25_, v26_, v27_, v28_, v29_, v30_, v31_, v32_, v33_, v34_, v35_, v36_, v37_, v38_, v39_, v40_, v41_, v42_, v43_, v44_, v45_, v46_, v47_, v48_, v49_, v50_, v51_, v52_, v53_, v54_, v55_, v56_, v57_, v58_, v59_, v60_, v61_, v62_, v63_, v64_, v65_, v66_, v67_, (.pointer (some ⟨g17, 1, none⟩)), (iv p3.Den), v70_, v71_, v72_, v73_, v74_, g87, g88, g89, g90, g91, fb_, ha_, (H_.upd 49 (iv p3.Den) rfl), hS_⟩
     ·intro d_ a_ w_ hd_ hj_ hc_ hI_
      have hi_ : 50 < 55 := by decide
      refine ex10 hI_ fun v20_ v21_ v22_ v23_ v24_ v25_ v26_ v27_ v28_ v29_ h0_ => ?_
      refine ex10 h0_ fun v30_ v31_ v32_ v33_ v34_ v35_ v36_ v37_ v38_ v39_ h1_ => ?_
      refine ex10 h1_ fun v40_ v41_ v42_ v43_ v44_ v45_ v46_ v47_ v48_ v49_ h2_ => ?_
      refine ex10 h2_ fun v50_ v51_ v52_ v53_ v54_ v55_ v56_ v57_ v58_ v59_ h3_ => ?_
      refine ex10 h3_ fun v60_ v61_ v62_ v63_ v64_ v65_ v66_ v67_ v68_ v69_ h4_ => ?_
      refine ex10 h4_ fun v70_ v71_ v72_ v73_ v74_ g87 g88 g89 g90 g91 h5_ => ?_
      obtain ⟨fb_, ha_, H_, hS_⟩ := h5_
      clear hI_ h0_ h1_ h2_ h3_ h4_
      obtain rfl : v61_ = (iv p4.Num) := H_ 41 _ rfl (hj_ 41 (memN_iff.1 (by kernel_rfl)))
      obtain rfl : v63_ = (iv p0.Den) := H_ 43 _ rfl (hj_ 43 (memN_iff.1 (by kernel_rfl)))
      obtain rfl : v65_ = (iv p1.Den) := H_ 45 _ rfl (hj_ 45 (memN_iff.1 (by kernel_rfl)))
      obtain rfl : v67_ = (iv p2.Den) := H_ 47 _ rfl (hj_ 47 (memN_iff.1 (by kernel_rfl)))
      obtain rfl : v69_ = (iv p3.Den) := H_ 49 _ rfl (hj_ 49 (memN_iff.1 (by kernel_rfl)))
      refine op_WL hi_ ha_ ?_
      refine WL.new hS_ 70 [] (fun g => (.slice (some ⟨g, 0, none⟩) 5 5)) (.cells #[(iv p4.Num), (iv p0.Den), (iv p1.Den), (iv p2.Den), (iv p3.Den)] 3 (0, 0)) [] (fun fb g => by kernel_rfl) trivial (fun g119 w120 hS121 => ?_)
      refine ⟨trivial, ?_⟩
      have hS122 := hS.go w120 [rowO 3 encInt (some ⟨g119, 0, none⟩) 5 [p4.Num, p0.Den, p1.Den, p2.Den, p3.Den], sO (d_ 11) (rowO 3 encInt (some ⟨g87, 0, none⟩) 5 [p0.Num, p1.Num, p2.Den, p3.Den, p4.Den]), sO (d_ 24) (rowO 3 encInt (some ⟨g88, 0, none⟩) 5 [p2.Num, p0.Den, p1.Den, p3.Den, p4.Den]), sO (d_ 37) (rowO 3 encInt (some ⟨g89, 0, none⟩) 5 [p3.Num, p0.Den, p1.Den, p2.Den, p4.Den]), sO (d_ 50) (rowO 3 encInt (some ⟨g90, 0, none⟩) 5 [p4.Num, p0.Den, p1.Den, p2.Den, p3.Den]), sO (d_ 52) (rowO 60 encU64 (some ⟨g91, 0, none⟩) 4 [t96, t105, t114, t123]), blk g6 (.cells #[(iv p0.Num), (iv p0.Den)] 36 (0, 0)), blk g9 (.cells #[(iv p1.Num), (iv p1.Den)] 36 (0, 0)), blk g14 (.cells #[(iv p2.Num), (iv p2.Den)] 36 (0, 0)), blk g17 (.cells #[(iv p3.Num), (iv p3.Den)] 36 (0, 0)), blk g75 (.cells #[(iv p4.Num), (iv p4.Den)] 36 (0, 0))] (hS121.map1 0 _ (fun h => rowO.ofBlk h rfl (Nat.le_of_ble_eq_true (by kernel_rfl))) (fun _ h => by obtain ⟨_, h1, h2⟩ := h; injection h1 with h1; subst h1; exact h2) [1, 2, 3, 4, 5, 6, 7, 8, 9, 10] (by decide) (by decide))
      refine WL.reE [20, 21, 22, 23, 24, 25, 26, 27, 28, 29, 30, 31, 32, 33, 34, 35, 36, 37, 38, 39, 40, 41, 42, 43, 44, 45, 46, 47, 48, 49, 50, 51, 52, 53, 54, 55, 56, 57, 58, 59, 60, 61, 62, 63, 64, 65, 66, 67, 68, 69, 70, 71, 72, 73, 74, 5, 6, 7, 8, 9, 12, 13, 16, 17] [(20, v20_), (21, v21_), (22, v22_), (23, v23_), (24, v24_), (25, v25_), (26, v26_), (27, v27_), (28, v28_), (29, v29_), (30, v30_), (31, v31_), (32, v32_), (33, v33_), (34, v34_), (35, v35_), (36, v36_), (37, v37_), (38, v38_), (39, v39_), (40, v40_), (41, v41_), (42, v42_), (43, v43_), (44, v44_), (45, v45_), (46, v46_), (47, v47_), (48, v48_), (49, v49_), (50, v50_), (51, v51_), (52, v52_), (53, v53_), (54, v54_), (55, v55_), (56, v56_), (57, v57_), (58, v58_), (59, v59_), (60, v60_), (61, (iv p4.Num)), (62, v62_), (63, (iv p0.Den)), (64, v64_), (65, (iv p1.Den)), (66, v66_), (67, (iv p2.Den)), (68, v68_), (69, (iv p3.Den)), (70, (.slice (some ⟨g119, 0, none⟩) [p4.Num, p0.Den, p1.Den, p2.Den, p3.Den].length 5)), (71, v71_), (72, v72_), (73, v73_), (74, v74_), (5, (pt g6)), (6, (pt g9)), (7, (pt g14)), (8, (pt g17)), (9, (pt g75)), (12, (.int .u64 (getI [2305843009213693951, 2305843009213693921, 2305843009213693907] x78))), (13, (.int .u64 0)), (16, (.agg #[(.int .u64 2305843009213693951), (.int .u64 2305843009213693921), (.int .u64 2305843009213693907)])), (17, (iv x78))] [(20, v20_), (21, v21_), (22, v22_), (23, v23_), (24, v24_), (25, v25_), (26, v26_), (27, v27_), (28, v28_), (29, v29_), (30, v30_), (31, v31_), (32, v32_), (33, v33_), (34, v34_), (35, v35_), (36, v36_), (37, v37_), (38, v38_), (39, v39_), (40, v40_), (41, v41_), (42, v42_), (43, v43_), (44, v44_), (45, v45_), (46, v46_), (47, v47_), (48, v48_), (49, v49_), (50, v50_), (51, v51_), (52, v52_), (53, v53_), (54, v54_), (55, v55_), (56, v56_), (57, v57_), (58, v58_), (59, v59_), (60, v60_), (61, (iv p4.Num)), (62, v62_), (63, (iv p0.Den)), (64, v64_), (65, (iv p1.Den)), (66, v66_), (67, (iv p2.Den)), (68, v68_), (69, (iv p3.Den)), (70, (.slice (some ⟨g119, 0, none⟩) [p4.Num, p0.Den, p1.Den, p2.Den, p3.Den].length 5)), (71, v71_), (72, v72_), (73, v73_), (74, v74_), (5, (pt g6)), (6, (pt g9)), (7, (pt g14)), (8, (pt g17)), (9, (pt g75)), (12, (.int .u64 (getI [2305843009213693951, 2305843009213693921, 2305843009213693907] x78))), (13, (.int .u64 0)), (16, (.agg #[(.int .u64 2305843009213693951), (.int .u64 2305843009213693921), (.int .u64 2305843009213693907)])), (17, (iv x78))] rfl rfl ?_
      refine WL.done rfl ?_
      exact fun fb_ a_ ha_ => ⟨v20_, v21_, v22_, v23_, v24_, v25_, v26_, v27_, v28_, v29_, v30_, v31_, v32_, v33_, v34_, v35_, v36_, v37_, v38_, v39_, v40_, v41_, v42_, v43_, v44_, v45_, v46_, v47_, v48_, v49_, v50_, v51_, v52_, v53_, v54_, v55_, v56_, v57_, v58_, v59_, v60_, (iv p4.Num), v62_, (iv p0.Den), v64_, (iv p1.Den), v66_, (iv p2.Den), v68_, (iv p3.Den), (sv (some ⟨g119, 0, none⟩) [p4.Num, p0.Den, p1.Den, p2.Den, p3.Den] 5), v71_, v72_, v73_, v74_, g87, g88, g89, g119, g91, fb_, ha_, (H_.upd 50 (sv (some ⟨g119, 0, none⟩) [p4.Num, p0.Den, p1.Den, p2.Den, p3.Den] 5) rfl), (hS122.sub [1, 2, 3, 0, 5, 6, 7, 8, 9, 10] (by decide))⟩
     ·intro d_ a_ w_ hd_ hj_ hc_ hI_
      have hi_ : 51 < 55 := by decide
      refine ex10 hI_ fun v20_ v21_ v22_ v23_ v24_ v25_ v26_ v27_ v28_ v29_ h0_ => ?_
      refine ex10 h0_ fun v30_ v31_ v32_ v33_ v34_ v35_ v36_ v37_ v38_ v39_ h1_ => ?_
      refine ex10 h1_ fun v40_ v41_ v42_ v43_ v44_ v45_ v46_ v47_ v48_ v49_ h2_ => ?_
      refine ex10 h2_ fun v50_ v51_ v52_ v53_ v54_ v55_ v56_ v57_ v58_ v59_ h3_ => ?_
      refine ex10 h3_ fun v60_ v61_ v62_ v63_ v64_ v65_ v66_ v67_ v68_ v69_ h4_ => ?_
      refine ex10 h4_ fun v70_ v71_ v72_ v73_ v74_ g87 g88 g89 g90 g91 h5_ => ?_
      obtain ⟨fb_, ha_, H_, hS_⟩ := h5_
      clear hI_ h0_ h1_ h2_ h3_ h4_
      obtain rfl : v59_ = (.int .u64 (getI [2305843009213693951, 2305843009213693921, 2305843009213693907] x78)) := H_ 39 _ rfl (hj_ 39 (memN_iff.1 (by kernel_rfl)))
      obtain rfl : v70_ = (sv (some ⟨g90, 0, none⟩) [p4.Num, p0.Den, p1.Den, p2.Den, p3.Den] 5) := H_ 50 _ rfl (hj_ 50 (memN_iff.1 (by kernel_rfl)))
      have e50_ : d_ 50 = true := hj_ 50 (memN_iff.1 (by kernel_rfl))
      rw [e50_] at hS_
      refine op_WL hi_ ha_ ?_
      refine WL.call (some 71) 32 #[(.int .u64 (getI [2305843009213693951, 2305843009213693921, 2305843009213693907] x78)), (iv (-1)), (sv (some ⟨g90, 0, none⟩) [p4.Num, p0.Den, p1.Den, p2.Den, p3.Den] 5)] (fun fb => by kernel_rfl) (weight_product_calls _ (getI [2305843009213693951, 2305843009213693921, 2305843009213693907] x78) (-1) [p4.Num, p0.Den, p1.Den, p2.Den, p3.Den] (some ⟨g90, 0, none⟩) 5 t123 _ (hS_.ow 3).ofO ht124) (fun v w125 hR126 => ?_)
      obtain ⟨rfl, hk_⟩ := hR126
      have hS127 := hS_.keepN hk_
      refine ⟨trivial, ?_⟩
      refine WL.reE [20, 21, 22, 23, 24, 25, 26, 27, 28, 29, 30, 31, 32, 33, 34, 35, 36, 37, 38, 39, 40, 41, 42, 43, 44, 45, 46, 47, 48, 49, 50, 51, 52, 53, 54, 55, 56, 57, 58, 59, 60, 61, 62, 63, 64, 65, 66, 67, 68, 69, 70, 71, 72, 73, 74, 5, 6, 7, 8, 9, 12, 13, 16, 17] [(20, v20_), (21, v21_), (22, v22_), (23, v23_), (24, v24_), (25, v25_), (26, v26_), (27, v27_), (28, v28_), (29, v29_), (30, v30_), (31, v31_), (32, v32_), (33, v33_), (34, v34_), (35, v35_), (36, v36_), (37, v37_), (38, v38_), (39, v39_), (40, v40_), (41, v41_), (42, v42_), (43, v43_), (44, v44_), (45, v45_), (46, v46_), (47, v47_), (48, v48_), (49, v49_), (50, v50_), (51, v51_), (52, v52_), (53, v53_), (54, v54_), (55, v55_), (56, v56_), (57, v57_), (58, v58_), (59, (.int .u64 (getI [2305843009213693951, 2305843009213693921, 2305843009213693907] x78))), (60, v60_), (61, v61_), (62, v62_), (63, v63_), (64, v64_), (65, v65_), (66, v66_), (67, v67_), (68, v68_), (69, v69_), (70, (.slice (some ⟨g90, 0, none⟩) [p4.Num, p0.Den, p1.Den, p2.Den, p3.Den].length 5)), (71, (.int .u64 t123)), (72, v72_), (73, v73_), (74, v74_), (5, (pt g6)), (6, (pt g9)), (7, (pt g14)), (8, (pt g17)), (9, (pt g75)), (12, (.int .u64 (getI [2305843009213693951, 2305843009213693921, 2305843009213693907] x78))), (13, (.int .u64 0)), (16, (.agg #[(.int .u64 2305843009213693951), (.int .u64 2305843009213693921), (.int .u64 2305843009213693907)])), (17, (iv x78))] [(20, v20_), (21, v21_), (22, v22_), (23, v23_), (24, v24_), (25, v25_), (26, v26_), (27, v27_), (28, v28_), (29, v29_), (30, v30_), (31, v31_), (32, v32_), (33, v33_), (34, v34_), (35, v35_), (36, v36_), (37, v37_), (38, v38_), (39, v39_), (40, v40_), (41, v41_), (42, v42_), (43, v43_), (44, v44_), (45, v45_), (46, v46_), (47, v47_), (48, v48_), (49, v49_), (50, v50_), (51, v51_), (52, v52_), (53, v53_), (54, v54_), (55, v55_), (56, v56_), (57, v57_), (58, v58_), (59, (.int .u64 (getI [2305843009213693951, 2305843009213693921, 2305843009213693907] x78))), (60, v60_), (61, v61_), (62, v62_), (63, v63_), (64, v64_), (65, v65_), (66, v66_), (67, v67_), (68, v68_), (69, v69_), (70, (.slice (some ⟨g90, 0, none⟩) [p4.Num, p0.Den, p1.Den, p2.Den, p3.Den].length 5)), (71, (.int .u64 t123)), (72, v72_), (73, v73_), (74, v74_), (5, (pt g6)), (6, (pt g9)), (7, (pt g14)), (8, (pt g17)), (9, (pt g75)), (12, (.int .u64 (getI [2305843009213693951, 2305843009213693921, 2305843009213693907] x78))), (13, (.int .u64 0)), (16, (.agg #[(.int .u64 2305843009213693951), (.int .u64 2305843009213693921), (.int .u64 2305843009213693907)])), (17, (iv x78))] rfl rfl ?_
      refine WL.done rfl ?_
      exact fun fb_ a_ ha_ => ⟨v20_, v21_, v22_, v23_, v24_, v25_, v26_, v27_, v28_, v29_, v30_, v31_, v32_, v33_, v34_, v35_, v36_, v37_, v38_, v39_, v40_, v41_, v42_, v43_, v44_, v45_, v46_, v47_, v48_, v49_, v50_, v51_, v52_, v53_, v54_, v55_, v56_, v57_, v58_, (.int .u64 (getI [2305843009213693951, 2305843009213693921, 2305843009213693907] x78)), v60_, v61_, v62_, v63_, v64_, v65_, v66_, v67_, v68_, v69_, (.slice (some ⟨g90, 0, none⟩) [p4.Num, p0.Den, p1.Den, p2.Den, p3.Den].length 5), (.int .u64 t123), v72_, v73_, v74_, g87, g88, g89, g90, g91, fb_, ha_, (H_.upd 51 (.int .u64 t123) rfl), (by rw [show upd d_ 51 50 = true from e50_]; exact hS127)⟩
     ·intro d_ a_ w_ hd_ hj_ hc_ hI_
      have hi_ : 52 < 55 := by decide
      refine ex10 hI_ fun v20_ v21_ v22_ v23_ v24_ v25_ v26_ v27_ v28_ v29_ h0_ => ?_
      refine ex10 h0_ fun v30_ v31_ v32_ v33_ v34_ v35_ v36_ v37_ v38_ v39_ h1_ => ?_
      refine ex10 h1_ fun v40_ v41_ v42_ v43_ v44_ v45_ v46_ v47_ v48_ v49_ h2_ => ?_
      refine ex10 h2_ fun v50_ v51_ v52_ v53_ v54_ v55_ v56_ v57_ v58_ v59_ h3_ => ?_
      refine ex10 h3_ fun v60_ v61_ v62_ v63_ v64_ v65_ v66_ v67_ v68_ v69_ h4_ => ?_
      refine ex10 h4_ fun v70_ v71_ v72_ v73_ v74_ g87 g88 g89 g90 g91 h5_ => ?_
      obtain ⟨fb_, ha_, H_, hS_⟩ := h5_
      clear hI_ h0_ h1_ h2_ h3_ h4_
      obtain rfl : v32_ = (.int .u64 t96) := H_ 12 _ rfl (hj_ 12 (memN_iff.1 (by kernel_rfl)))
      obtain rfl : v45_ = (.int .u64 t105) := H_ 25 _ rfl (hj_ 25 (memN_iff.1 (by kernel_rfl)))
      obtain rfl : v58_ = (.int .u64 t114) := H_ 38 _ rfl (hj_ 38 (memN_iff.1 (by kernel_rfl)))
      obtain rfl : v71_ = (.int .u64 t123) := H_ 51 _ rfl (hj_ 51 (memN_iff.1 (by kernel_rfl)))
      refine op_WL hi_ ha_ ?_
      refine WL.new hS_ 72 [] (fun g => (.slice (some ⟨g, 0, none⟩) 4 4)) (.cells #[(.int .u64 t96), (.int .u64 t105), (.int .u64 t114), (.int .u64 t123)] 60 (0, 0)) [] (fun fb g => by kernel_rfl) trivial (fun g128 w129 hS130 => ?_)
      refine ⟨trivial, ?_⟩
      have hS131 := hS.go w129 [rowO 60 encU64 (some ⟨g128, 0, none⟩) 4 [t96, t105, t114, t123], sO (d_ 11) (rowO 3 encInt (some ⟨g87, 0, none⟩) 5 [p0.Num, p1.Num, p2.Den, p3.Den, p4.Den]), sO (d_ 24) (rowO 3 encInt (some ⟨g88, 0, none⟩) 5 [p2.Num, p0.Den, p1.Den, p3.Den, p4.Den]), sO (d_ 37) (rowO 3 encInt (some ⟨g89, 0, none⟩) 5 [p3.Num, p0.Den, p1.Den, p2.Den, p4.Den]), sO (d_ 50) (rowO 3 encInt (some ⟨g90, 0, none⟩) 5 [p4.Num, p0.Den, p1.Den, p2.Den, p3.Den]), sO (d_ 52) (rowO 60 encU64 (some ⟨g91, 0, none⟩) 4 [t96, t105, t114, t123]), blk g6 (.cells #[(iv p0.Num), (iv p0.Den)] 36 (0, 0)), blk g9 (.cells #[(iv p1.Num), (iv p1.Den)] 36 (0, 0)), blk g14 (.cells #[(iv p2.Num), (iv p2.Den)] 36 (0, 0)), blk g17 (.cells #[(iv p3.Num), (iv p3.Den)] 36 (0, 0)), blk g75 (.cells #[(iv p4.Num), (iv p4.Den)] 36 (0, 0))] (hS130.map1 0 _ (fun h => rowO.ofBlk h rfl (Nat.le_of_ble_eq_true (by kernel_rfl))) (fun _ h => by obtain ⟨_, h1, h2⟩ := h; injection h1 with h1; subst h1; exact h2) [1, 2, 3, 4, 5, 6, 7, 8, 9, 10] (by decide) (by decide))
      refine WL.reE [20, 21, 22, 23, 24, 25, 26, 27, 28, 29, 30, 31, 32, 33, 34, 35, 36, 37, 38, 39, 40, 41, 42, 43, 44, 45, 46, 47, 48, 49, 50, 51, 52, 53, 54, 55, 56, 57, 58, 59, 60, 61, 62, 63, 64, 65, 66, 67, 68, 69, 70, 71, 72, 73, 74, 5, 6, 7, 8, 9, 12, 13, 16, 17] [(20, v20_), (21, v21_), (22, v22_), (23, v23_), (24, v24_), (25, v25_), (26, v26_), (27, v27_), (28, v28_), (29, v29_), (30, v30_), (31, v31_), (32, (.int .u64 t96)), (33, v33_), (34, v34_), (35, v35_), (36, v36_), (37, v37_), (38, v38_), (39, v39_), (40, v40_), (41, v41_), (42, v42_), (43, v43_), (44, v44_), (45, (.int .u64 t105)), (46, v46_), (47, v47_), (48, v48_), (49, v49_), (50, v50_), (51, v51_), (52, v52_), (53, v53_), (54, v54_), (55, v55_), (56, v56_), (57, v57_), (58, (.int .u64 t114)), (59, v59_), (60, v60_), (61, v61_), (62, v62_), (63, v63_), (64, v64_), (65, v65_), (66, v66_), (67, v67_), (68, v68_), (69, v69_), (70, v70_), (71, (.int .u64 t123)), (72, (.slice (some ⟨g128, 0, none⟩) [t96, t105, t114, t123].length 4)), (73, v73_), (74, v74_), (5, (pt g6)), (6, (pt g9)), (7, (pt g14)), (8, (pt g17)), (9, (pt g75)), (12, (.int .u64 (getI [2305843009213693951, 2305843009213693921, 2305843009213693907] x78))), (13, (.int .u64 0)), (16, (.agg #[(.int .u64 2305843009213693951), (.int .u64 2305843009213693921), (.int .u64 2305843009213693907)])), (17, (iv x78))] [(20, v20_), (21, v21_), (22, v22_), (23, v23_), (24, v24_), (25, v25_), (26, v26_), (27, v27_), (28, v28_), (29, v29_), (30, v30_), (31, v31_), (32, (.int .u64 t96)), (33, v33_), (34, v34_), (35, v35_), (36, v36_), (37, v37_), (38, v38_), (39, v39_), (40, v40_), (41, v41_), (42, v42_), (43, v43_), (44, v44_), (45, (.int .u64 t105)), (46, v46_), (47, v47_), (48, v48_), (49, v49_), (50, v50_), (51, v51_), (52, v52_), (53, v53_), (54, v54_), (55, v55_), (56, v56_), (57, v57_), (58, (.int .u64 t114)), (59, v59_), (60, v60_), (61, v61_), (62, v62_), (63, v63_), (64, v64_), (65, v65_), (66, v66_), (67, v67_), (68, v68_), (69, v69_), (70, v70_), (71, (.int .u64 t123)), (72, (.slice (some ⟨g128, 0, none⟩) [t96, t105, t114, t123].length 4)), (73, v73_), (74, v74_), (5, (pt g6)), (6, (pt g9)), (7, (pt g14)), (8, (pt g17)), (9, (pt g75)), (12, (.int .u64 (getI [2305843009213693951, 2305843009213693921, 2305843009213693907] x78))), (13, (.int .u64 0)), (16, (.agg #[(.int .u64 2305843009213693951), (.int .u64 2305843009213693921), (.int .u64 2305843009213693907)])), (17, (iv x78))] rfl rfl ?_
      refine WL.done rfl ?_
      exact fun fb_ a_ ha_ => ⟨v20_, v21_, v22_, v23_, v24_, v25_, v26_, v27_, v28_, v29_, v30_, v31_, (.int .u64 t96), v33_, v34_, v35_, v36_, v37_, v38_, v39_, v40_, v41_, v42_, v43_, v44_, (.int .u64 t105), v46_, v47_, v48_, v49_, v50_, v51_, v52_, v53_, v54_, v55_, v56_, v57_, (.int .u64 t114), v59_, v60_, v61_, v62_, v63_, v64_, v65_, v66_, v67_, v68_, v69_, v70_, (.int .u64 t123), (sv (some ⟨g128, 0, none⟩) [t96, t105, t114, t123] 4), v73_, v74_, g87, g88, g89, g90, g128, fb_, ha_, (H_.upd 52 (sv (some ⟨g128, 0, none⟩) [t96, t105, t114, t123] 4) rfl), (hS131.sub [1, 2, 3, 4, 0, 6, 7, 8, 9, 10] (by decide))⟩
     ·intro d_ a_ w_ hd_ hj_ hc_ hI_
      have hi_ : 53 < 55 := by decide
      refine ex10 hI_ fun v20_ v21_ v22_ v23_ v24_ v25_ v26_ v27_ v28_ v29_ h0_ => ?_
      refine ex10 h0_ fun v30_ v31_ v32_ v33_ v34_ v35_ v36_ v37_ v38_ v39_ h1_ => ?_
      refine ex10 h1_ fun v40_ v41_ v42_ v43_ v44_ v45_ v46_ v47_ v48_ v49_ h2_ => ?_
      refine ex10 h2_ fun v50_ v51_ v52_ v53_ v54_ v55_ v56_ v57_ v58_ v59_ h3_ => ?_
      refine ex10 h3_ fun v60_ v61_ v62_ v63_ v64_ v65_ v66_ v67_ v68_ v69_ h4_ => ?_
      refine ex10 h4_ fun v70_ v71_ v72_ v73_ v74_ g87 g88 g89 g90 g91 h5_ => ?_
      obtain ⟨fb_, ha_, H_, hS_⟩ := h5_
      clear hI_ h0_ h1_ h2_ h3_ h4_
      obtain rfl : v72_ = (sv (some ⟨g91, 0, none⟩) [t96, t105, t114, t123] 4) := H_ 52 _ rfl (hj_ 52 (memN_iff.1 (by kernel_rfl)))
      refine op_WL hi_ ha_ ?_
      refine seg 1 [] [20, 21, 22, 23, 24, 25, 26, 27, 28, 29, 30, 31, 32, 33, 34, 35, 36, 37, 38, 39, 40, 41, 42, 43, 44, 45, 46, 47, 48, 49, 50, 51, 52, 53, 54, 55, 56, 57, 58, 59, 60, 61, 62, 63, 64, 65, 66, 67, 68, 69, 70, 71, 72, 73, 74, 5, 6, 7, 8, 9, 12, 13, 16, 17] [(20, v20_), (21, v21_), (22, v22_), (23, v23_), (24, v24_), (25, v25_), (26, v26_), (27, v27_), (28, v28_), (29, v29_), (30, v30_), (31, v31_), (32, v32_), (33, v33_), (34, v34_), (35, v35_), (36, v36_), (37, v37_), (38, v38_), (39, v39_), (40, v40_), (41, v41_), (42, v42_), (43, v43_), (44, v44_), (45, v45_), (46, v46_), (47, v47_), (48, v48_), (49, v49_), (50, v50_), (51, v51_), (52, v52_), (53, v53_), (54, v54_), (55, v55_), (56, v56_), (57, v57_), (58, v58_), (59, v59_), (60, v60_), (61, v61_), (62, v62_), (63, v63_), (64, v64_), (65, v65_), (66, v66_), (67, v67_), (68, v68_), (69, v69_), (70, v70_), (71, v71_), (72, (sv (some ⟨g91, 0, none⟩) [t96, t105, t114, t123] 4)), (73, (iv ([t96, t105, t114, t123].length : Int))), (74, v74_), (5, (pt g6)), (6, (pt g9)), (7, (pt g14)), (8, (pt g17)), (9, (pt g75)), (12, (.int .u64 (getI [2305843009213693951, 2305843009213693921, 2305843009213693907] x78))), (13, (.int .u64 0)), (16, (.agg #[(.int .u64 2305843009213693951), (.int .u64 2305843009213693921), (.int .u64 2305843009213693907)])), (17, (iv x78))] [] (fun fb => by kernel_rfl) rfl trivial ?_
      refine WL.done rfl ?_
      exact fun fb_ a_ ha_ => ⟨v20_, v21_, v22_, v23_, v24_, v25_, v26_, v27_, v28_, v29_, v30_, v31_, v32_, v33_, v34_, v35_, v36_, v37_, v38_, v39_, v40_, v41_, v42_, v43_, v44_, v45_, v46_, v47_, v48_, v49_, v50_, v51_, v52_, v53_, v54_, v55_, v56_, v57_, v58_, v59_, v60_, v61_, v62_, v63_, v64_, v65_, v66_, v67_, v68_, v69_, v70_, v71_, (sv (some ⟨g91, 0, none⟩) [t96, t105, t114, t123] 4), (iv ([t96, t105, t114, t123].length : Int)), v74_, g87, g88, g89, g90, g91, fb_, ha_, (H_.upd 53 (iv ([t96, t105, t114, t123].length : Int)) rfl), hS_⟩
     ·intro d_ a_ w_ hd_ hj_ hc_ hI_
      have hi_ : 54 < 55 := by decide
      refine ex10 hI_ fun v20_ v21_ v22_ v23_ v24_ v25_ v26_ v27_ v28_ v29_ h0_ => ?_
      refine ex10 h0_ fun v30_ v31_ v32_ v33_ v34_ v35_ v36_ v37_ v38_ v39_ h1_ => ?_
      refine ex10 h1_ fun v40_ v41_ v42_ v43_ v44_ v45_ v46_ v47_ v48_ v49_ h2_ => ?_
      refine ex10 h2_ fun v50_ v51_ v52_ v53_ v54_ v55_ v56_ v57_ v58_ v59_ h3_ => ?_
      refine ex10 h3_ fun v60_ v61_ v62_ v63_ v64_ v65_ v66_ v67_ v68_ v69_ h4_ => ?_
      refine ex10 h4_ fun v70_ v71_ v72_ v73_ v74_ g87 g88 g89 g90 g91 h5_ => ?_
      obtain ⟨fb_, ha_, H_, hS_⟩ := h5_
      clear hI_ h0_ h1_ h2_ h3_ h4_
      refine op_WL hi_ ha_ ?_
      refine seg 1 [] [20, 21, 22, 23, 24, 25, 26, 27, 28, 29, 30, 31, 32, 33, 34, 35, 36, 37, 38, 39, 40, 41, 42, 43, 44, 45, 46, 47, 48, 49, 50, 51, 52, 53, 54, 55, 56, 57, 58, 59, 60, 61, 62, 63, 64, 65, 66, 67, 68, 69, 70, 71, 72, 73, 74, 5, 6, 7, 8, 9, 12, 13, 16, 17] [(20, v20_), (21, v21_), (22, v22_), (23, v23_), (24, v24_), (25, v25_), (26, v26_), (27, v27_), (28, v28_), (29, v29_), (30, v30_), (31, v31_), (32, v32_), (33, v33_), (34, v34_), (35, v35_), (36, v36_), (37, v37_), (38, v38_), (39, v39_), (40, v40_), (41, v41_), (42, v42_), (43, v43_), (44, v44_), (45, v45_), (46, v46_), (47, v47_), (48, v48_), (49, v49_), (50, v50_), (51, v51_), (52, v52_), (53, v53_), (54, v54_), (55, v55_), (56, v56_), (57, v57_), (58, v58_), (59, v59_), (60, v60_), (61, v61_), (62, v62_), (63, v63_), (64, v64_), (65, v65_), (66, v66_), (67, v67_), (68, v68_), (69, v69_), (70, v70_), (71, v71_), (72, v72_), (73, v73_), (74, (iv 0)), (5, (pt g6)), (6, (pt g9)), (7, (pt g14)), (8, (pt g17)), (9, (pt g75)), (12, (.int .u64 (getI [2305843009213693951, 2305843009213693921, 2305843009213693907] x78))), (13, (.int .u64 0)), (16, (.agg #[(.int .u64 2305843009213693951), (.int .u64 2305843009213693921), (.int .u64 2305843009213693907)])), (17, (iv x78))] [] (fun fb => by kernel_rfl) rfl trivial ?_
      refine WL.done rfl ?_
      exact fun fb_ a_ ha_ => ⟨v20_, v21_, v22_, v23_, v24_, v25_, v26_, v27_, v28_, v29_, v30_, v31_, v32_, v33_, v34_, v35_, v36_, v37_, v38_, v39_, v40_, v41_, v42_, v43_, v44_, v45_, v46_, v47_, v48_, v49_, v50_, v51_, v52_, v53_, v54_, v55_, v56_, v57_, v58_, v59_, v60_, v61_, v62_, v63_, v64_, v65_, v66_, v67_, v68_, v69_, v70_, v71_, v72_, v73_, (iv 0), g87, g88, g89, g90, g91, fb_, ha_, (H_.upd 54 (iv 0) rfl), hS_⟩
    intro d_ a_ w132 hd_ hI_
    refine ex10 hI_ fun v20_ v21_ v22_ v23_ v24_ v25_ v26_ v27_ v28_ v29_ h0_ => ?_
    refine ex10 h0_ fun v30_ v31_ v32_ v33_ v34_ v35_ v36_ v37_ v38_ v39_ h1_ => ?_
    refine ex10 h1_ fun v40_ v41_ v42_ v43_ v44_ v45_ v46_ v47_ v48_ v49_ h2_ => ?_
    refine ex10 h2_ fun v50_ v51_ v52_ v53_ v54_ v55_ v56_ v57_ v58_ v59_ h3_ => ?_
    refine ex10 h3_ fun v60_ v61_ v62_ v63_ v64_ v65_ v66_ v67_ v68_ v69_ h4_ => ?_
    refine ex10 h4_ fun v70_ v71_ v72_ v73_ v74_ g87 g88 g89 g90 g91 h5_ => ?_
    obtain ⟨fb_, ha_, H_, hS_⟩ := h5_
    clear hI_ h0_ h1_ h2_ h3_ h4_
    obtain rfl : v20_ = (.int .u64 (getI [2305843009213693951, 2305843009213693921, 2305843009213693907] x78)) := H_ 0 _ rfl (hd_ 0 (by decide))
    obtain rfl : v21_ = (pt g6) := H_ 1 _ rfl (hd_ 1 (by decide))
    obtain rfl : v22_ = (iv p0.Num) := H_ 2 _ rfl (hd_ 2 (by decide))
    obtain rfl : v23_ = (pt g9) := H_ 3 _ rfl (hd_ 3 (by decide))
    obtain rfl : v24_ = (iv p1.Num) := H_ 4 _ rfl (hd_ 4 (by decide))
    obtain rfl : v25_ = (.pointer (some ⟨g14, 1, none⟩)) := H_ 5 _ rfl (hd_ 5 (by decide))
    obtain rfl : v26_ = (iv p2.Den) := H_ 6 _ rfl (hd_ 6 (by decide))
    obtain rfl : v27_ = (.pointer (some ⟨g17, 1, none⟩)) := H_ 7 _ rfl (hd_ 7 (by decide))
    obtain rfl : v28_ = (iv p3.Den) := H_ 8 _ rfl (hd_ 8 (by decide))
    obtain rfl : v29_ = (.pointer (some ⟨g75, 1, none⟩)) := H_ 9 _ rfl (hd_ 9 (by decide))
    obtain rfl : v30_ = (iv p4.Den) := H_ 10 _ rfl (hd_ 10 (by decide))
    obtain rfl : v31_ = (sv (some ⟨g87, 0, none⟩) [p0.Num, p1.Num, p2.Den, p3.Den, p4.Den] 5) := H_ 11 _ rfl (hd_ 11 (by decide))
    obtain rfl : v32_ = (.int .u64 t96) := H_ 12 _ rfl (hd_ 12 (by decide))
    obtain rfl : v33_ = (.int .u64 (getI [2305843009213693951, 2305843009213693921, 2305843009213693907] x78)) := H_ 13 _ rfl (hd_ 13 (by decide))
    obtain rfl : v34_ = (pt g14) := H_ 14 _ rfl (hd_ 14 (by decide))
    obtain rfl : v35_ = (iv p2.Num) := H_ 15 _ rfl (hd_ 15 (by decide))
    obtain rfl : v36_ = (.pointer (some ⟨g6, 1, none⟩)) := H_ 16 _ rfl (hd_ 16 (by decide))
    obtain rfl : v37_ = (iv p0.Den) := H_ 17 _ rfl (hd_ 17 (by decide))
    obtain rfl : v38_ = (.pointer (some ⟨g9, 1, none⟩)) := H_ 18 _ rfl (hd_ 18 (by decide))
    obtain rfl : v39_ = (iv p1.Den) := H_ 19 _ rfl (hd_ 19 (by decide))
    obtain rfl : v40_ = (.pointer (some ⟨g17, 1, none⟩)) := H_ 20 _ rfl (hd_ 20 (by decide))
    obtain rfl : v41_ = (iv p3.Den) := H_ 21 _ rfl (hd_ 21 (by decide))
    obtain rfl : v42_ = (.pointer (some ⟨g75, 1, none⟩)) := H_ 22 _ rfl (hd_ 22 (by decide))
    obtain rfl : v43_ = (iv p4.Den) := H_ 23 _ rfl (hd_ 23 (by decide))
    obtain rfl : v44_ = (sv (some ⟨g88, 0, none⟩) [p2.Num, p0.Den, p1.Den, p3.Den, p4.Den] 5) := H_ 24 _ rfl (hd_ 24 (by decide))
    obtain rfl : v45_ = (.int .u64 t105) := H_ 25 _ rfl (hd_ 25 (by decide))
    obtain rfl : v46_ = (.int .u64 (getI [2305843009213693951, 2305843009213693921, 2305843009213693907] x78)) := H_ 26 _ rfl (hd_ 26 (by decide))
    obtain rfl : v47_ = (pt g17) := H_ 27 _ rfl (hd_ 27 (by decide))
    obtain rfl : v48_ = (iv p3.Num) := H_ 28 _ rfl (hd_ 28 (by decide))
    obtain rfl : v49_ = (.pointer (some ⟨g6, 1, none⟩)) := H_ 29 _ rfl (hd_ 29 (by decide))
    obtain rfl : v50_ = (iv p0.Den) := H_ 30 _ rfl (hd_ 30 (by decide))
    obtain rfl : v51_ = (.pointer (some ⟨g9, 1, none⟩)) := H_ 31 _ rfl (hd_ 31 (by decide))
    obtain rfl : v52_ = (iv p1.Den) := H_ 32 _ rfl (hd_ 32 (by decide))
    obtain rfl : v53_ = (.pointer (some ⟨g14, 1, none⟩)) := H_ 33 _ rfl (hd_ 33 (by decide))
    obtain rfl : v54_ = (iv p2.Den) := H_ 34 _ rfl (hd_ 34 (by decide))
    obtain rfl : v55_ = (.pointer (some ⟨g75, 1, none⟩)) := H_ 35 _ rfl (hd_ 35 (by decide))
    obtain rfl : v56_ = (iv p4.Den) := H_ 36 _ rfl (hd_ 36 (by decide))
    obtain rfl : v57_ = (sv (some ⟨g89, 0, none⟩) [p3.Num, p0.Den, p1.Den, p2.Den, p4.Den] 5) := H_ 37 _ rfl (hd_ 37 (by decide))
    obtain rfl : v58_ = (.int .u64 t114) := H_ 38 _ rfl (hd_ 38 (by decide))
    obtain rfl : v59_ = (.int .u64 (getI [2305843009213693951, 2305843009213693921, 2305843009213693907] x78)) := H_ 39 _ rfl (hd_ 39 (by decide))
    obtain rfl : v60_ = (pt g75) := H_ 40 _ rfl (hd_ 40 (by decide))
    obtain rfl : v61_ = (iv p4.Num) := H_ 41 _ rfl (hd_ 41 (by decide))
    obtain rfl : v62_ = (.pointer (some ⟨g6, 1, none⟩)) := H_ 42 _ rfl (hd_ 42 (by decide))
    obtain rfl : v63_ = (iv p0.Den) := H_ 43 _ rfl (hd_ 43 (by decide))
    obtain rfl : v64_ = (.pointer (some ⟨g9, 1, none⟩)) := H_ 44 _ rfl (hd_ 44 (by decide))
    obtain rfl : v65_ = (iv p1.Den) := H_ 45 _ rfl (hd_ 45 (by decide))
    obtain rfl : v66_ = (.pointer (some ⟨g14, 1, none⟩)) := H_ 46 _ rfl (hd_ 46 (by decide))
    obtain rfl : v67_ = (iv p2.Den) := H_ 47 _ rfl (hd_ 47 (by decide))
    obtain rfl : v68_ = (.pointer (some ⟨g17, 1, none⟩)) := H_ 48 _ rfl (hd_ 48 (by decide))
    obtain rfl : v69_ = (iv p3.Den) := H_ 49 _ rfl (hd_ 49 (by decide))
    obtain rfl : v70_ = (sv (some ⟨g90, 0, none⟩) [p4.Num, p0.Den, p1.Den, p2.Den, p3.Den] 5) := H_ 50 _ rfl (hd_ 50 (by decide))
    obtain rfl : v71_ = (.int .u64 t123) := H_ 51 _ rfl (hd_ 51 (by decide))
    obtain rfl : v72_ = (sv (some ⟨g91, 0, none⟩) [t96, t105, t114, t123] 4) := H_ 52 _ rfl (hd_ 52 (by decide))
    obtain rfl : v73_ = (iv ([t96, t105, t114, t123].length : Int)) := H_ 53 _ rfl (hd_ 53 (by decide))
    obtain rfl : v74_ = (iv 0) := H_ 54 _ rfl (hd_ 54 (by decide))
    have e11_ := hd_ 11 (by decide)
    have e24_ := hd_ 24 (by decide)
    have e37_ := hd_ 37 (by decide)
    have e50_ := hd_ 50 (by decide)
    have e52_ := hd_ 52 (by decide)
    rw [e11_, e24_, e37_, e50_, e52_] at hS_
    have hS133 := hS.go w132 [rowO 3 encInt (some ⟨g87, 0, none⟩) 5 [p0.Num, p1.Num, p2.Den, p3.Den, p4.Den], rowO 3 encInt (some ⟨g88, 0, none⟩) 5 [p2.Num, p0.Den, p1.Den, p3.Den, p4.Den], rowO 3 encInt (some ⟨g89, 0, none⟩) 5 [p3.Num, p0.Den, p1.Den, p2.Den, p4.Den], rowO 3 encInt (some ⟨g90, 0, none⟩) 5 [p4.Num, p0.Den, p1.Den, p2.Den, p3.Den], rowO 60 encU64 (some ⟨g91, 0, none⟩) 4 [t96, t105, t114, t123], blk g6 (.cells #[(iv p0.Num), (iv p0.Den)] 36 (0, 0)), blk g9 (.cells #[(iv p1.Num), (iv p1.Den)] 36 (0, 0)), blk g14 (.cells #[(iv p2.Num), (iv p2.Den)] 36 (0, 0)), blk g17 (.cells #[(iv p3.Num), (iv p3.Den)] 36 (0, 0)), blk g75 (.cells #[(iv p4.Num), (iv p4.Den)] 36 (0, 0))] (hS_)
    refine (show WX _ .normal 87 [(5, (pt g6)), (6, (pt g9)), (7, (pt g14)), (8, (pt g17)), (9, (pt g75)), (12, (.int .u64 (getI [2305843009213693951, 2305843009213693921, 2305843009213693907] x78))), (13, (.int .u64 0)), (16, (.agg #[(.int .u64 2305843009213693951), (.int .u64 2305843009213693921), (.int .u64 2305843009213693907)])), (17, (iv x78)), (72, (sv (some ⟨g91, 0, none⟩) [t96, t105, t114, t123] 4)), (73, (iv ([t96, t105, t114, t123].length : Int))), (74, (iv 0))] w132 from ?_) _ _ (ha_.picked (show pick _ [5, 6, 7, 8, 9, 12, 13, 16, 17, 72, 73, 74] = some [(5, (pt g6)), (6, (pt g9)), (7, (pt g14)), (8, (pt g17)), (9, (pt g75)), (12, (.int .u64 (getI [2305843009213693951, 2305843009213693921, 2305843009213693907] x78))), (13, (.int .u64 0)), (16, (.agg #[(.int .u64 2305843009213693951), (.int .u64 2305843009213693921), (.int .u64 2305843009213693907)])), (17, (iv x78)), (72, (sv (some ⟨g91, 0, none⟩) [t96, t105, t114, t123] 4)), (73, (iv ([t96, t105, t114, t123].length : Int))), (74, (iv 0))] from rfl))
    refine WX.next ?_
    obtain ⟨x136, hx137, hl84⟩ := bind_some hl84
    refine WC.cutN (T := Int) (fun t => [(5, (pt g6)), (6, (pt g9)), (7, (pt g14)), (8, (pt g17)), (9, (pt g75)), (13, (.int .u64 t)), (16, (.agg #[(.int .u64 2305843009213693951), (.int .u64 2305843009213693921), (.int .u64 2305843009213693907)])), (17, (iv x78))]) (fun t w1 => St NoS w w1 [tabO 0 #[(.int .u64 2305843009213693951), (.int .u64 2305843009213693921), (.int .u64 2305843009213693907)]] [blk g6 (.cells #[(iv p0.Num), (iv p0.Den)] 36 (0, 0)), blk g9 (.cells #[(iv p1.Num), (iv p1.Den)] 36 (0, 0)), blk g14 (.cells #[(iv p2.Num), (iv p2.Den)] 36 (0, 0)), blk g17 (.cells #[(iv p3.Num), (iv p3.Den)] 36 (0, 0)), blk g75 (.cells #[(iv p4.Num), (iv p4.Den)] 36 (0, 0))] ∧ x136 = t) (fun Kx136 => ?_) ?_
    ·
     refine WC.block ?_
     refine WC.loop (T := Int × Int) (fun t => [(5, (pt g6)), (6, (pt g9)), (7, (pt g14)), (8, (pt g17)), (9, (pt g75)), (12, (.int .u64 (getI [2305843009213693951, 2305843009213693921, 2305843009213693907] x78))), (13, (.int .u64 t.1)), (16, (.agg #[(.int .u64 2305843009213693951), (.int .u64 2305843009213693921), (.int .u64 2305843009213693907)])), (17, (iv x78)), (72, (sv (some ⟨g91, 0, none⟩) [t96, t105, t114, t123] 4)), (73, (iv ([t96, t105, t114, t123].length : Int))), (74, (iv t.2))]) (fun n t w1 => St NoS w w1 [tabO 0 #[(.int .u64 2305843009213693951), (.int .u64 2305843009213693921), (.int .u64 2305843009213693907)]] [blk g6 (.cells #[(iv p0.Num), (iv p0.Den)] 36 (0, 0)), blk g9 (.cells #[(iv p1.Num), (iv p1.Den)] 36 (0, 0)), blk g14 (.cells #[(iv p2.Num), (iv p2.Den)] 36 (0, 0)), blk g17 (.cells #[(iv p3.Num), (iv p3.Den)] 36 (0, 0)), blk g75 (.cells #[(iv p4.Num), (iv p4.Den)] 36 (0, 0)), rowO 60 encU64 (some ⟨g91, 0, none⟩) 4 [t96, t105, t114, t123]] ∧ weight_balanced.l1 n t.1 t.2 x78 t96 t105 t114 t123 = some x136) k81 (0, 0) [5, 6, 7, 8, 9, 12, 13, 16, 17, 72, 73, 74] rfl ⟨(hS133.subR [0]).sub [5, 6, 7, 8, 9, 4] (by decide), hx137⟩ ?_
     rintro k138 ⟨x134, x135⟩ w139 ⟨hS140, hl141⟩
     cases k138 with
     | zero => rw [weight_balanced.l1] at hl141; cases hl141
     | succ k138 =>
      rw [weight_balanced.l1] at hl141
      refine WC.seq (WC.region ?_)
      refine seg 1 [] [5, 6, 7, 8, 9, 12, 13, 16, 17, 72, 73, 74, 75] [(5, (pt g6)), (6, (pt g9)), (7, (pt g14)), (8, (pt g17)), (9, (pt g75)), (12, (.int .u64 (getI [2305843009213693951, 2305843009213693921, 2305843009213693907] x78))), (13, (.int .u64 x134)), (16, (.agg #[(.int .u64 2305843009213693951), (.int .u64 2305843009213693921), (.int .u64 2305843009213693907)])), (17, (iv x78)), (72, (sv (some ⟨g91, 0, none⟩) [t96, t105, t114, t123] 4)), (73, (iv ([t96, t105, t114, t123].length : Int))), (74, (iv x135)), (75, (bv (decide (x135 < ([t96, t105, t114, t123].length : Int)))))] [] (fun fb => by kernel_rfl) rfl trivial ?_
      refine WL.done rfl (WX.next (WC.seq ?_))
      rcases br_some hl141 with ⟨h142, hl141⟩ | ⟨h142, hl141⟩
      ·refine WC.condT2 (fun fb => by kernel_rfl) h142 ?_
       refine WC.skip (WX.next (WC.seq (WC.block (WC.seq (WC.region ?_)))))
       obtain ⟨h143, hl141⟩ := as_some hl141
       refine seg 3 [.v (.int .u64 (rdD [t96, t105, t114, t123] x135 0))] [5, 6, 7, 8, 9, 12, 13, 15, 16, 17, 72, 73, 74] [(5, (pt g6)), (6, (pt g9)), (7, (pt g14)), (8, (pt g17)), (9, (pt g75)), (12, (.int .u64 (getI [2305843009213693951, 2305843009213693921, 2305843009213693907] x78))), (13, (.int .u64 x134)), (15, (.int .u64 (rdD [t96, t105, t114, t123] x135 0))), (16, (.agg #[(.int .u64 2305843009213693951), (.int .u64 2305843009213693921), (.int .u64 2305843009213693907)])), (17, (iv x78)), (72, (sv (some ⟨g91, 0, none⟩) [t96, t105, t114, t123] 4)), (73, (iv ([t96, t105, t114, t123].length : Int))), (74, (iv x135))] [.idx (some ⟨g91, 0, none⟩) x135 [t96, t105, t114, t123].length, .cell ((adr (some ⟨g91, 0, none⟩)).add ((x135).toNat * 1)) (.int .u64 (rdD [t96, t105, t114, t123] x135 0))] (fun fb => by kernel_rfl) rfl ⟨rowR.adr (rowO.rd (hS140.own 5).1) h143.1 h143.2, rowR.cell (rowO.rd (hS140.own 5).1) 0 h143.1 h143.2 0 rfl, trivial⟩ ?_
       refine WL.done rfl (WX.next (WC.region ?_))
       refine seg 4 [] [5, 6, 7, 8, 9, 12, 16, 17, 72, 73, 74, 80, 81] [(5, (pt g6)), (6, (pt g9)), (7, (pt g14)), (8, (pt g17)), (9, (pt g75)), (12, (.int .u64 (getI [2305843009213693951, 2305843009213693921, 2305843009213693907] x78))), (16, (.agg #[(.int .u64 2305843009213693951), (.int .u64 2305843009213693921), (.int .u64 2305843009213693907)])), (17, (iv x78)), (72, (sv (some ⟨g91, 0, none⟩) [t96, t105, t114, t123] 4)), (73, (iv ([t96, t105, t114, t123].length : Int))), (74, (iv x135)), (80, (.int .u64 (IntKind.wrap .u64 (x134 + (rdD [t96, t105, t114, t123] x135 0))))), (81, (.int .u64 (getI [2305843009213693951, 2305843009213693921, 2305843009213693907] x78)))] [] (fun fb => by kernel_rfl) rfl trivial ?_
       obtain ⟨h144, hl141⟩ := as_some hl141
       refine seg 6 [] [5, 6, 7, 8, 9, 12, 13, 16, 17, 72, 73, 74] [(5, (pt g6)), (6, (pt g9)), (7, (pt g14)), (8, (pt g17)), (9, (pt g75)), (12, (.int .u64 (getI [2305843009213693951, 2305843009213693921, 2305843009213693907] x78))), (13, (.int .u64 (Int.tmod (IntKind.wrap .u64 (x134 + (rdD [t96, t105, t114, t123] x135 0))) (getI [2305843009213693951, 2305843009213693921, 2305843009213693907] x78)))), (16, (.agg #[(.int .u64 2305843009213693951), (.int .u64 2305843009213693921), (.int .u64 2305843009213693907)])), (17, (iv x78)), (72, (sv (some ⟨g91, 0, none⟩) [t96, t105, t114, t123] 4)), (73, (iv ([t96, t105, t114, t123].length : Int))), (74, (iv x135))] [.ne (getI [2305843009213693951, 2305843009213693921, 2305843009213693907] x78)] (fun fb => by kernel_rfl) rfl ⟨h144, trivial⟩ ?_
       refine WL.done rfl ?_
       refine WX.blockN (WX.next ?_)
       refine WC.region ?_
       refine seg 2 [] [5, 6, 7, 8, 9, 12, 13, 16, 17, 72, 73, 74] [(5, (pt g6)), (6, (pt g9)), (7, (pt g14)), (8, (pt g17)), (9, (pt g75)), (12, (.int .u64 (getI [2305843009213693951, 2305843009213693921, 2305843009213693907] x78))), (13, (.int .u64 (Int.tmod (IntKind.wrap .u64 (x134 + (rdD [t96, t105, t114, t123] x135 0))) (getI [2305843009213693951, 2305843009213693921, 2305843009213693907] x78)))), (16, (.agg #[(.int .u64 2305843009213693951), (.int .u64 2305843009213693921), (.int .u64 2305843009213693907)])), (17, (iv x78)), (72, (sv (some ⟨g91, 0, none⟩) [t96, t105, t114, t123] 4)), (73, (iv ([t96, t105, t114, t123].length : Int))), (74, (iv (w64 (x135 + 1))))] [] (fun fb => by kernel_rfl) rfl trivial ?_
       refine WL.done rfl ?_
       exact WX.again k138 (Nat.lt_succ_self _) (Int.tmod (IntKind.wrap .u64 (x134 + (rdD [t96, t105, t114, t123] x135 0))) (getI [2305843009213693951, 2305843009213693921, 2305843009213693907] x78), w64 (x135 + 1)) [5, 6, 7, 8, 9, 12, 13, 16, 17, 72, 73, 74] rfl ⟨(hS140.subR [0]).sub [0, 1, 2, 3, 4, 5] (by decide), hl141⟩
      refine WC.condF2 (fun fb => by kernel_rfl) h142 ?_
      refine WC.exit ?_
      injection hl141 with hl141
      exact WX.thenX (WX.thenX (WX.blockHere (WX.to Kx136 x134 [5, 6, 7, 8, 9, 13, 16, 17] rfl ⟨(hS140.subR [0]).sub [0, 1, 2, 3, 4] (by decide), hl141.symm⟩)))
    rintro y148 w145 ⟨hS146, hq147⟩
    subst hq147
    refine WX.next (WC.seq (WC.region ?_))
    refine seg 2 [] [5, 6, 7, 8, 9, 16, 17, 85] [(5, (pt g6)), (6, (pt g9)), (7, (pt g14)), (8, (pt g17)), (9, (pt g75)), (16, (.agg #[(.int .u64 2305843009213693951), (.int .u64 2305843009213693921), (.int .u64 2305843009213693907)])), (17, (iv x78)), (85, (bv (x136 != 0)))] [] (fun fb => by kernel_rfl) rfl trivial ?_
    refine WL.done rfl (WX.next ?_)
    rcases br_some hl84 with ⟨h149, hl84⟩ | ⟨h149, hl84⟩
    ·refine WC.condT2 (fun fb => by kernel_rfl) h149 ?_
     refine WC.seq (WC.region ?_)
     refine seg 1 [] [10] [(10, (bv false))] [] (fun fb => by kernel_rfl) rfl trivial ?_
     refine WL.done rfl (WX.next ?_)
     refine WC.ret ?_
     injection hl84 with hl84
     subst hl84
     injection hf with hf
     subst hf
     exact WX.blockR (WX.thenR (WX.thenR (WX.blockR (WX.thenR (WX.ret_ [] (bv false) [] (fun fb => by kernel_rfl) trivial ⟨_, rfl, rfl, hS146.keep⟩)))))
    refine WC.condF2 (fun fb => by kernel_rfl) h149 ?_
    refine WC.skip ?_
    refine WX.blockN (WX.next ?_)
    refine WC.region ?_
    refine seg 2 [] [5, 6, 7, 8, 9, 16, 17] [(5, (pt g6)), (6, (pt g9)), (7, (pt g14)), (8, (pt g17)), (9, (pt g75)), (16, (.agg #[(.int .u64 2305843009213693951), (.int .u64 2305843009213693921), (.int .u64 2305843009213693907)])), (17, (iv (w64 (x78 + 1))))] [] (fun fb => by kernel_rfl) rfl trivial ?_
    refine WL.done rfl ?_
    exact WX.again k81 (Nat.lt_succ_self _) (w64 (x78 + 1)) [5, 6, 7, 8, 9, 16, 17] rfl ⟨(hS146.subR [0]).sub [0, 1, 2, 3, 4] (by decide), hl84⟩
   refine WC.condF2 (fun fb => by kernel_rfl) h85 ?_
   refine WC.exit ?_
   injection hl84 with hl84
   exact WX.thenX (WX.thenX (WX.blockHere (WX.to Kx79 () [] rfl ⟨(hS83.subR [0]).sub [] (by decide), hl84.symm⟩)))
 rintro y153 w150 ⟨hS151, hq152⟩
 subst hq152
 have hf := sum_inr hf
 refine WX.next (WC.seq (WC.region ?_))
 refine seg 1 [] [10] [(10, (bv true))] [] (fun fb => by kernel_rfl) rfl trivial ?_
 refine WL.done rfl (WX.next ?_)
 refine WC.ret ?_
 injection hf with hf
 subst hf
 exact WX.ret_ [] (bv true) [] (fun fb => by kernel_rfl) trivial ⟨_, rfl, rfl, hS151.keep⟩
theorem weight_Check_1_calls (k : Nat) (f0 : List Tile) (f1 : Weights) (ga : Nat) (Aa : Option Addr) (ca : Nat) (gb : Nat) (Ab : Option Addr) (cb : Nat) (Ac : Option Addr) (cc : Nat) (Ad : Option Addr) (cd : Nat) (Ae : Option Addr) (ce : Nat) (Af : Option Addr) (cf : Nat) (r : Bool) (w : World) (hR0 : RO NoS w (blk ga (.cells #[(sv Aa f0 ca)] 22 (0, 0)))) (hR1 : RO NoS w (rowR enc_Tile Aa ca f0)) (hR2 : RO NoS w (blk gb (.cells #[(sv Ab f1.Values cb), (sv Ac f1.Carries cc), (sv Ad f1.Factors cd), (sv Ae f1.Primes ce), (sv Af f1.Logs cf)] 26 (0, 0)))) (hR3 : RO NoS w (rowR enc_Frac Ab cb f1.Values)) (hR4 : RO NoS w (rowR enc_Frac Ac cc f1.Carries)) (hR5 : RO NoS w (rowR enc_Frac Ad cd f1.Factors)) (hR6 : RO NoS w (rowR encInt Ae ce f1.Primes)) (hR7 : RO NoS w (rowR encInt Af cf f1.Logs)) (hR8 : RO NoS w (tabO 0 #[(.int .u64 2305843009213693951), (.int .u64 2305843009213693921), (.int .u64 2305843009213693907)])) (hf : weight_Check_1 k f0 f1 = some r) :
  CallsR Tryd.prog 10 #[(pt ga), (pt gb)] w (fun v w' => v = (bv r) ∧ Keeps NoS w w') := by
 have hS : St NoS w w [blk ga (.cells #[(sv Aa f0 ca)] 22 (0, 0)), rowR enc_Tile Aa ca f0, blk gb (.cells #[(sv Ab f1.Values cb), (sv Ac f1.Carries cc), (sv Ad f1.Factors cd), (sv Ae f1.Primes ce), (sv Af f1.Logs cf)] 26 (0, 0)), rowR enc_Frac Ab cb f1.Values, rowR enc_Frac Ac cc f1.Carries, rowR enc_Frac Ad cd f1.Factors, rowR encInt Ae ce f1.Primes, rowR encInt Af cf f1.Logs, tabO 0 #[(.int .u64 2305843009213693951), (.int .u64 2305843009213693921), (.int .u64 2305843009213693907)]] [] := St.init (ro_cons hR0 (ro_cons hR1 (ro_cons hR2 (ro_cons hR3 (ro_cons hR4 (ro_cons hR5 (ro_cons hR6 (ro_cons hR7 (ro_cons hR8 (ro_nil _ _))))))))))
 refine enter 44 Tryd.func10 rfl Tryd.ntmps10 rfl ?_
 unfold weight_Check_1 at hf
 refine WC.seq (WC.region ?_)
 refine seg 1 [] [0, 1] [(0, (pt ga)), (1, (pt gb))] [] (fun fb => by kernel_rfl) rfl trivial ?_
 refine WL.done rfl (WX.next (WC.seq (WC.seq (WC.region ?_))))
 refine seg 3 [.v (sv Aa f0 ca)] [1, 5, 6, 7] [(1, (pt gb)), (5, (sv Aa f0 ca)), (6, (iv (f0.length : Int))), (7, (iv 0))] [.cell ⟨ga, 0, none⟩ (sv Aa f0 ca)] (fun fb => by kernel_rfl) rfl ⟨blk_cell (hS.rd 0).1 0 rfl, trivial⟩ ?_
 refine WL.done rfl (WX.next ?_)
 obtain ⟨x11, hx12, hf⟩ := bind_some hf
 refine WC.cutN (T := Unit) (fun t => []) (fun t w1 => St NoS w w1 [blk ga (.cells #[(sv Aa f0 ca)] 22 (0, 0)), rowR enc_Tile Aa ca f0, blk gb (.cells #[(sv Ab f1.Values cb), (sv Ac f1.Carries cc), (sv Ad f1.Factors cd), (sv Ae f1.Primes ce), (sv Af f1.Logs cf)] 26 (0, 0)), rowR enc_Frac Ab cb f1.Values, rowR enc_Frac Ac cc f1.Carries, rowR enc_Frac Ad cd f1.Factors, rowR encInt Ae ce f1.Primes, rowR encInt Af cf f1.Logs, tabO 0 #[(.int .u64 2305843009213693951), (.int .u64 2305843009213693921), (.int .u64 2305843009213693907)]] [] ∧ x11 = .inr t) (fun Kx11 => ?_) ?_
 ·
  refine WC.block ?_
  refine WC.loop (T := Int) (fun t => [(1, (pt gb)), (5, (sv Aa f0 ca)), (6, (iv (f0.length : Int))), (7, (iv t))]) (fun n t w1 => St NoS w w1 [blk ga (.cells #[(sv Aa f0 ca)] 22 (0, 0)), rowR enc_Tile Aa ca f0, blk gb (.cells #[(sv Ab f1.Values cb), (sv Ac f1.Carries cc), (sv Ad f1.Factors cd), (sv Ae f1.Primes ce), (sv Af f1.Logs cf)] 26 (0, 0)), rowR enc_Frac Ab cb f1.Values, rowR enc_Frac Ac cc f1.Carries, rowR enc_Frac Ad cd f1.Factors, rowR encInt Ae ce f1.Primes, rowR encInt Af cf f1.Logs, tabO 0 #[(.int .u64 2305843009213693951), (.int .u64 2305843009213693921), (.int .u64 2305843009213693907)]] [] ∧ weight_Check_1.l0 n t f0 f1 = some x11) k 0 [1, 5, 6, 7] rfl ⟨(hS.subR [0, 1, 2, 3, 4, 5, 6, 7, 8]).sub [] (by decide), hx12⟩ ?_
  rintro k13 x9 w14 ⟨hS15, hl16⟩
  cases k13 with
  | zero => rw [weight_Check_1.l0] at hl16; cases hl16
  | succ k13 =>
   rw [weight_Check_1.l0] at hl16
   refine WC.seq (WC.region ?_)
   refine seg 1 [] [1, 5, 6, 7, 8] [(1, (pt gb)), (5, (sv Aa f0 ca)), (6, (iv (f0.length : Int))), (7, (iv x9)), (8, (bv (decide (x9 < (f0.length : Int)))))] [] (fun fb => by kernel_rfl) rfl trivial ?_
   refine WL.done rfl (WX.next (WC.seq ?_))
   rcases br_some hl16 with ⟨h17, hl16⟩ | ⟨h17, hl16⟩
   ·refine WC.condT2 (fun fb => by kernel_rfl) h17 ?_
    refine WC.skip (WX.next (WC.seq (WC.block (WC.seq (WC.region ?_)))))
    refine seg 1 [] [1, 5, 6, 7, 9] [(1, (pt gb)), (5, (sv Aa f0 ca)), (6, (iv (f0.length : Int))), (7, (iv x9)), (9, (iv x9))] [] (fun fb => by kernel_rfl) rfl trivial ?_
    obtain ⟨h18, hl16⟩ := as_some hl16
    refine seg 3 [.v (iv ((rdD f0 x9 z_Tile).N)), .v (iv ((rdD f0 x9 z_Tile).E)), .v (iv ((rdD f0 x9 z_Tile).S)), .v (iv ((rdD f0 x9 z_Tile).W))] [1, 5, 6, 7, 9, 11] [(1, (pt gb)), (5, (sv Aa f0 ca)), (6, (iv (f0.length : Int))), (7, (iv x9)), (9, (iv x9)), (11, (.agg #[(iv ((rdD f0 x9 z_Tile).N)), (iv ((rdD f0 x9 z_Tile).E)), (iv ((rdD f0 x9 z_Tile).S)), (iv ((rdD f0 x9 z_Tile).W))]))] [.idx Aa x9 f0.length, .cell ((adr Aa).add ((x9).toNat * 4)) (iv ((rdD f0 x9 z_Tile).N)), .cell (((adr Aa).add ((x9).toNat * 4)).add 1) (iv ((rdD f0 x9 z_Tile).E)), .cell (((adr Aa).add ((x9).toNat * 4)).add 2) (iv ((rdD f0 x9 z_Tile).S)), .cell (((adr Aa).add ((x9).toNat * 4)).add 3) (iv ((rdD f0 x9 z_Tile).W))] (fun fb => by kernel_rfl) rfl ⟨rowR.adr (hS15.rd 1).1 h18.1 h18.2, rowR.cell (hS15.rd 1).1 z_Tile h18.1 h18.2 0 rfl, rowR.cell (hS15.rd 1).1 z_Tile h18.1 h18.2 1 rfl, rowR.cell (hS15.rd 1).1 z_Tile h18.1 h18.2 2 rfl, rowR.cell (hS15.rd 1).1 z_Tile h18.1 h18.2 3 rfl, trivial⟩ ?_
    refine WL.new hS15 4 [] (fun g => (pt g)) (.cells #[(iv 0), (iv 0), (iv 0), (iv 0)] 39 (0, 0)) [] (fun fb g => by kernel_rfl) trivial (fun g19 w20 hS21 => ?_)
    refine ⟨trivial, ?_⟩
    refine seg 5 [] [1, 3, 4, 5, 6, 7, 11] [(1, (pt gb)), (3, (iv x9)), (4, (pt g19)), (5, (sv Aa f0 ca)), (6, (iv (f0.length : Int))), (7, (iv x9)), (11, (.agg #[(iv ((rdD f0 x9 z_Tile).N)), (iv ((rdD f0 x9 z_Tile).E)), (iv ((rdD f0 x9 z_Tile).S)), (iv ((rdD f0 x9 z_Tile).W))]))] [] (fun fb => by kernel_rfl) rfl trivial ?_
    refine WL.store hS21 0 rfl [(0, (iv ((rdD f0 x9 z_Tile).N))), (1, (iv ((rdD f0 x9 z_Tile).E))), (2, (iv ((rdD f0 x9 z_Tile).S))), (3, (iv ((rdD f0 x9 z_Tile).W)))] #[(iv ((rdD f0 x9 z_Tile).N)), (iv ((rdD f0 x9 z_Tile).E)), (iv ((rdD f0 x9 z_Tile).S)), (iv ((rdD f0 x9 z_Tile).W))] (fun fb => by kernel_rfl) (by kernel_rfl) rfl [] (by decide) (by decide) (fun w22 hS23 => ?_)
    refine ⟨trivial, ?_⟩
    refine WL.done rfl (WX.next (WC.seq ?_))
    obtain ⟨h26, hl16⟩ := as_some hl16
    obtain ⟨h27, hl16⟩ := as_some hl16
    obtain ⟨h28, hl16⟩ := as_some hl16
    obtain ⟨h29, hl16⟩ := as_some hl16
    obtain ⟨h30, hl16⟩ := as_some hl16
    refine WC.regionD ([(1, ⟨gb, 2, none⟩, (sv Ad f1.Factors cd)), (4, ((adr Ad).add ((x9).toNat * 2)), (iv ((rdD f1.Factors x9 z_Frac).Num))), (4, (((adr Ad).add ((x9).toNat * 2)).add 1), (iv ((rdD f1.Factors x9 z_Frac).Den))), (6, ⟨gb, 0, none⟩, (sv Ab f1.Values cb)), (8, ⟨g19, 2, none⟩, (iv ((rdD f0 x9 z_Tile).S))), (10, ((adr Ab).add (((rdD f0 x9 z_Tile).S).toNat * 2)), (iv ((rdD f1.Values ((rdD f0 x9 z_Tile).S) z_Frac).Num))), (10, (((adr Ab).add (((rdD f0 x9 z_Tile).S).toNat * 2)).add 1), (iv ((rdD f1.Values ((rdD f0 x9 z_Tile).S) z_Frac).Den))), (12, ⟨gb, 1, none⟩, (sv Ac f1.Carries cc)), (14, ⟨g19, 3, none⟩, (iv ((rdD f0 x9 z_Tile).W))), (16, ((adr Ac).add (((rdD f0 x9 z_Tile).W).toNat * 2)), (iv ((rdD f1.Carries ((rdD f0 x9 z_Tile).W) z_Frac).Num))), (16, (((adr Ac).add (((rdD f0 x9 z_Tile).W).toNat * 2)).add 1), (iv ((rdD f1.Carries ((rdD f0 x9 z_Tile).W) z_Frac).Den))), (18, ⟨gb, 0, none⟩, (sv Ab f1.Values cb)), (20, ⟨g19, 0, none⟩, (iv ((rdD f0 x9 z_Tile).N))), (22, ((adr Ab).add (((rdD f0 x9 z_Tile).N).toNat * 2)), (iv ((rdD f1.Values ((rdD f0 x9 z_Tile).N) z_Frac).Num))), (22, (((adr Ab).add (((rdD f0 x9 z_Tile).N).toNat * 2)).add 1), (iv ((rdD f1.Values ((rdD f0 x9 z_Tile).N) z_Frac).Den))), (24, ⟨gb, 1, none⟩, (sv Ac f1.Carries cc)), (26, ⟨g19, 1, none⟩, (iv ((rdD f0 x9 z_Tile).E))), (28, ((adr Ac).add (((rdD f0 x9 z_Tile).E).toNat * 2)), (iv ((rdD f1.Carries ((rdD f0 x9 z_Tile).E) z_Frac).Num))), (28, (((adr Ac).add (((rdD f0 x9 z_Tile).E).toNat * 2)).add 1), (iv ((rdD f1.Carries ((rdD f0 x9 z_Tile).E) z_Frac).Den)))], [0, 1, 2, 3, 4, 5, 6, 7, 8, 9, 10, 11, 12, 13, 14, 15, 16, 17, 18, 19, 20, 21, 22, 23, 24, 25, 26, 27, 28, 30], [[], [0], [], [0, 1, 2], [0, 1, 2, 3], [], [5], [], [7], [5, 6, 7, 8], [5, 6, 7, 8, 9], [], [11], [], [13], [11, 12, 13, 14], [11, 12, 13, 14, 15], [], [17], [], [19], [17, 18, 19, 20], [17, 18, 19, 20, 21], [], [23], [], [25], [23, 24, 25, 26], [23, 24, 25, 26, 27], [0, 1, 2, 3, 4, 5, 6, 7, 8, 9, 10, 11, 12, 13, 14, 15, 16, 17, 18, 19, 20, 21, 22, 23, 24, 25, 26, 27, 28], [0, 1, 2, 3, 4, 5, 6, 7, 8, 9, 10, 11, 12, 13, 14, 15, 16, 17, 18, 19, 20, 21, 22, 23, 24, 25, 26, 27, 28, 29]]) [[0, 1, 2, 3, 4, 5, 6, 7, 8, 9, 10, 11, 12, 13, 14, 15, 16, 17, 18, 19, 20, 21, 22, 23, 24, 25, 26, 27, 28, 29, 30]] (by kernel_rfl) (by kernel_rfl) (NoPanic.seq (NoPanic.block (NoPanic.seq (NoPanic.seq (NoPanic.block (NoPanic.seq (NoPanic.body))))))) ?_
    have hS25 := hS23.drew
    revert hS25
    generalize World.drew w22 = w24
    intro hS25
    refine ⟨⟨blk_cell (hS25.rd 2).1 2 rfl, rowR.cell (hS25.rd 5).1 z_Frac h26.1 h26.2 0 rfl, rowR.cell (hS25.rd 5).1 z_Frac h26.1 h26.2 1 rfl, blk_cell (hS25.rd 2).1 0 rfl, hS25.cell 0 rfl 2 rfl, rowR.cell (hS25.rd 3).1 z_Frac h27.1 h27.2 0 rfl, rowR.cell (hS25.rd 3).1 z_Frac h27.1 h27.2 1 rfl, blk_cell (hS25.rd 2).1 1 rfl, hS25.cell 0 rfl 3 rfl, rowR.cell (hS25.rd 4).1 z_Frac h28.1 h28.2 0 rfl, rowR.cell (hS25.rd 4).1 z_Frac h28.1 h28.2 1 rfl, blk_cell (hS25.rd 2).1 0 rfl, hS25.cell 0 rfl 0 rfl, rowR.cell (hS25.rd 3).1 z_Frac h29.1 h29.2 0 rfl, rowR.cell (hS25.rd 3).1 z_Frac h29.1 h29.2 1 rfl, blk_cell (hS25.rd 2).1 1 rfl, hS25.cell 0 rfl 1 rfl, rowR.cell (hS25.rd 4).1 z_Frac h30.1 h30.2 0 rfl, rowR.cell (hS25.rd 4).1 z_Frac h30.1 h30.2 1 rfl, trivial⟩, forallC ?_ (forallN)⟩
    refine segF 29 [.v (sv Ad f1.Factors cd), .v (iv ((rdD f1.Factors x9 z_Frac).Num)), .v (iv ((rdD f1.Factors x9 z_Frac).Den)), .v (sv Ab f1.Values cb), .v (iv ((rdD f0 x9 z_Tile).S)), .v (iv ((rdD f1.Values ((rdD f0 x9 z_Tile).S) z_Frac).Num)), .v (iv ((rdD f1.Values ((rdD f0 x9 z_Tile).S) z_Frac).Den)), .v (sv Ac f1.Carries cc), .v (iv ((rdD f0 x9 z_Tile).W)), .v (iv ((rdD f1.Carries ((rdD f0 x9 z_Tile).W) z_Frac).Num)), .v (iv ((rdD f1.Carries ((rdD f0 x9 z_Tile).W) z_Frac).Den)), .v (sv Ab f1.Values cb), .v (iv ((rdD f0 x9 z_Tile).N)), .v (iv ((rdD f1.Values ((rdD f0 x9 z_Tile).N) z_Frac).Num)), .v (iv ((rdD f1.Values ((rdD f0 x9 z_Tile).N) z_Frac).Den)), .v (sv Ac f1.Carries cc), .v (iv ((rdD f0 x9 z_Tile).E)), .v (iv ((rdD f1.Carries ((rdD f0 x9 z_Tile).E) z_Frac).Num)), .v (iv ((rdD f1.Carries ((rdD f0 x9 z_Tile).E) z_Frac).Den))] [1, 5, 6, 7, 16, 22, 28, 34, 40] [(1, (pt gb)), (5, (sv Aa f0 ca)), (6, (iv (f0.length : Int))), (7, (iv x9)), (16, (.agg #[(iv ((rdD f1.Factors x9 z_Frac).Num)), (iv ((rdD f1.Factors x9 z_Frac).Den))])), (22, (.agg #[(iv ((rdD f1.Values ((rdD f0 x9 z_Tile).S) z_Frac).Num)), (iv ((rdD f1.Values ((rdD f0 x9 z_Tile).S) z_Frac).Den))])), (28, (.agg #[(iv ((rdD f1.Carries ((rdD f0 x9 z_Tile).W) z_Frac).Num)), (iv ((rdD f1.Carries ((rdD f0 x9 z_Tile).W) z_Frac).Den))])), (34, (.agg #[(iv ((rdD f1.Values ((rdD f0 x9 z_Tile).N) z_Frac).Num)), (iv ((rdD f1.Values ((rdD f0 x9 z_Tile).N) z_Frac).Den))])), (40, (.agg #[(iv ((rdD f1.Carries ((rdD f0 x9 z_Tile).E) z_Frac).Num)), (iv ((rdD f1.Carries ((rdD f0 x9 z_Tile).E) z_Frac).Den))]))] [.idx Ad x9 f1.Factors.length, .idx Ab ((rdD f0 x9 z_Tile).S) f1.Values.length, .idx Ac ((rdD f0 x9 z_Tile).W) f1.Carries.length, .idx Ab ((rdD f0 x9 z_Tile).N) f1.Values.length, .idx Ac ((rdD f0 x9 z_Tile).E) f1.Carries.length] [0, 1, 2, 3, 4, 5, 6, 7, 8, 9, 10, 11, 12, 13, 14, 15, 16, 17, 18] [(1, ⟨gb, 2, none⟩, (sv Ad f1.Factors cd)), (4, ((adr Ad).add ((x9).toNat * 2)), (iv ((rdD f1.Factors x9 z_Frac).Num))), (4, (((adr Ad).add ((x9).toNat * 2)).add 1), (iv ((rdD f1.Factors x9 z_Frac).Den))), (6, ⟨gb, 0, none⟩, (sv Ab f1.Values cb)), (8, ⟨g19, 2, none⟩, (iv ((rdD f0 x9 z_Tile).S))), (10, ((adr Ab).add (((rdD f0 x9 z_Tile).S).toNat * 2)), (iv ((rdD f1.Values ((rdD f0 x9 z_Tile).S) z_Frac).Num))), (10, (((adr Ab).add (((rdD f0 x9 z_Tile).S).toNat * 2)).add 1), (iv ((rdD f1.Values ((rdD f0 x9 z_Tile).S) z_Frac).Den))), (12, ⟨gb, 1, none⟩, (sv Ac f1.Carries cc)), (14, ⟨g19, 3, none⟩, (iv ((rdD f0 x9 z_Tile).W))), (16, ((adr Ac).add (((rdD f0 x9 z_Tile).W).toNat * 2)), (iv ((rdD f1.Carries ((rdD f0 x9 z_Tile).W) z_Frac).Num))), (16, (((adr Ac).add (((rdD f0 x9 z_Tile).W).toNat * 2)).add 1), (iv ((rdD f1.Carries ((rdD f0 x9 z_Tile).W) z_Frac).Den))), (18, ⟨gb, 0, none⟩, (sv Ab f1.Values cb)), (20, ⟨g19, 0, none⟩, (iv ((rdD f0 x9 z_Tile).N))), (22, ((adr Ab).add (((rdD f0 x9 z_Tile).N).toNat * 2)), (iv ((rdD f1.Values ((rdD f0 x9 z_Tile).N) z_Frac).Num))), (22, (((adr Ab).add (((rdD f0 x9 z_Tile).N).toNat * 2)).add 1), (iv ((rdD f1.Values ((rdD f0 x9 z_Tile).N) z_Frac).Den))), (24, ⟨gb, 1, none⟩, (sv Ac f1.Carries cc)), (26, ⟨g19, 1, none⟩, (iv ((rdD f0 x9 z_Tile).E))), (28, ((adr Ac).add (((rdD f0 x9 z_Tile).E).toNat * 2)), (iv ((rdD f1.Carries ((rdD f0 x9 z_Tile).E) z_Frac).Num))), (28, (((adr Ac).add (((rdD f0 x9 z_Tile).E).toNat * 2)).add 1), (iv ((rdD f1.Carries ((rdD f0 x9 z_Tile).E) z_Frac).Den)))] (fun fb => by kernel_rfl) rfl ⟨rowR.adr (hS25.rd 5).1 h26.1 h26.2, rowR.adr (hS25.rd 3).1 h27.1 h27.2, rowR.adr (hS25.rd 4).1 h28.1 h28.2, rowR.adr (hS25.rd 3).1 h29.1 h29.2, rowR.adr (hS25.rd 4).1 h30.1 h30.2, trivial⟩ rfl ?_
    obtain ⟨t31, ht32, hl16⟩ := bind_some hl16
    refine WL.call (some 41) 11 #[(.agg #[(iv ((rdD f1.Factors x9 z_Frac).Num)), (iv ((rdD f1.Factors x9 z_Frac).Den))]), (.agg #[(iv ((rdD f1.Values ((rdD f0 x9 z_Tile).S) z_Frac).Num)), (iv ((rdD f1.Values ((rdD f0 x9 z_Tile).S) z_Frac).Den))]), (.agg #[(iv ((rdD f1.Carries ((rdD f0 x9 z_Tile).W) z_Frac).Num)), (iv ((rdD f1.Carries ((rdD f0 x9 z_Tile).W) z_Frac).Den))]), (.agg #[(iv ((rdD f1.Values ((rdD f0 x9 z_Tile).N) z_Frac).Num)), (iv ((rdD f1.Values ((rdD f0 x9 z_Tile).N) z_Frac).Den))]), (.agg #[(iv ((rdD f1.Carries ((rdD f0 x9 z_Tile).E) z_Frac).Num)), (iv ((rdD f1.Carries ((rdD f0 x9 z_Tile).E) z_Frac).Den))])] (fun fb => by kernel_rfl) (weight_balanced_calls _ (rdD f1.Factors x9 z_Frac) (rdD f1.Values ((rdD f0 x9 z_Tile).S) z_Frac) (rdD f1.Carries ((rdD f0 x9 z_Tile).W) z_Frac) (rdD f1.Values ((rdD f0 x9 z_Tile).N) z_Frac) (rdD f1.Carries ((rdD f0 x9 z_Tile).E) z_Frac) t31 _ (hS25.rd 8) ht32) (fun v w33 hR34 => ?_)
    obtain ⟨rfl, hk_⟩ := hR34
    have hS35 := hS25.keepN hk_
    refine ⟨trivial, ?_⟩
    refine seg 31 [] [1, 5, 6, 7, 42] [(1, (pt gb)), (5, (sv Aa f0 ca)), (6, (iv (f0.length : Int))), (7, (iv x9)), (42, (bv (!t31)))] [] (fun fb => by kernel_rfl) rfl trivial ?_
    refine WL.done rfl (WX.next ?_)
    rcases br_some hl16 with ⟨h36, hl16⟩ | ⟨h36, hl16⟩
    ·refine WC.condT2 (fun fb => by kernel_rfl) h36 ?_
     refine WC.seq (WC.region ?_)
     refine seg 1 [] [2] [(2, (bv false))] [] (fun fb => by kernel_rfl) rfl trivial ?_
     refine WL.done rfl (WX.next ?_)
     refine WC.ret ?_
     injection hl16 with hl16
     subst hl16
     injection hf with hf
     subst hf
     exact WX.blockR (WX.thenR (WX.thenR (WX.blockR (WX.thenR (WX.ret_ [] (bv false) [] (fun fb => by kernel_rfl) trivial ⟨_, rfl, rfl, hS35.keep⟩)))))
    refine WC.condF2 (fun fb => by kernel_rfl) h36 ?_
    refine WC.skip ?_
    refine WX.blockN (WX.next ?_)
    refine WC.region ?_
    refine seg 2 [] [1, 5, 6, 7] [(1, (pt gb)), (5, (sv Aa f0 ca)), (6, (iv (f0.length : Int))), (7, (iv (w64 (x9 + 1))))] [] (fun fb => by kernel_rfl) rfl trivial ?_
    refine WL.done rfl ?_
    exact WX.again k13 (Nat.lt_succ_self _) (w64 (x9 + 1)) [1, 5, 6, 7] rfl ⟨(hS35.subR [0, 1, 2, 3, 4, 5, 6, 7, 8]).sub [] (by decide), hl16⟩
   refine WC.condF2 (fun fb => by kernel_rfl) h17 ?_
   refine WC.exit ?_
   injection hl16 with hl16
   exact WX.thenX (WX.thenX (WX.blockHere (WX.to Kx11 () [] rfl ⟨(hS15.subR [0, 1, 2, 3, 4, 5, 6, 7, 8]).sub [] (by decide), hl16.symm⟩)))
 rintro y40 w37 ⟨hS38, hq39⟩
 subst hq39
 have hf := sum_inr hf
 refine WX.next (WC.seq (WC.region ?_))
 refine seg 1 [] [2] [(2, (bv true))] [] (fun fb => by kernel_rfl) rfl trivial ?_
 refine WL.done rfl (WX.next ?_)
 refine WC.ret ?_
 injection hf with hf
 subst hf
 exact WX.ret_ [] (bv true) [] (fun fb => by kernel_rfl) trivial ⟨_, rfl, rfl, hS38.keep⟩
end Gp
