/- Walks: each function of the program computes its plain function. -/
import Derived.Test.YtfehljifahnipaaGreatDoorGx0
set_option linter.unusedVariables false
set_option linter.unusedSimpArgs false
set_option maxHeartbeats 4000000
set_option maxRecDepth 8000
namespace Gp
open Go Gw Go.Proofs
theorem bits_Div64_calls (k : Nat) (p0 : Int) (p1 : Int) (p2 : Int)  (r : Int × Int) (w : World)  (hf : bits_Div64 k p0 p1 p2 = some r) :
  CallsR Tryz.prog 86 #[(.int .u64 p0), (.int .u64 p1), (.int .u64 p2)] w (fun v w' => v = (.tuple #[(.int .u64 r.1), (.int .u64 r.2)]) ∧ Keeps NoS w w') := by
 have hS : St NoS w w [] [] := St.init (ro_nil _ _)
 refine enter 135 Tryz.func86 rfl Tryz.ntmps86 rfl ?_
 unfold bits_Div64 at hf
 refine WC.seq (WC.region ?_)
 refine sg 2 [] [0, 1, 2] [(0, (.int .u64 p0)), (1, (.int .u64 p1)), (2, (.int .u64 p2))] (by kernel_rfl) ?_
 refine WL.done rfl (WX.next (WC.seq (WC.seq (WC.region ?_))))
 refine sg 2 [] [0, 1, 2, 20] [(0, (.int .u64 p0)), (1, (.int .u64 p1)), (2, (.int .u64 p2)), (20, (bv (p2 == 0)))] (by kernel_rfl) ?_
 refine WL.done rfl (WX.next ?_)
 rcases br_some hf with ⟨h3, hf⟩ | ⟨h3, hf⟩
 ·refine WC.condT2 (fun fb => by kernel_rfl) h3 ?_
  cases hf
 refine WC.condF2 (fun fb => by kernel_rfl) h3 ?_
 refine WC.skip (WX.next (WC.seq (WC.seq (WC.region ?_))))
 refine sg 3 [] [0, 1, 2, 24] [(0, (.int .u64 p0)), (1, (.int .u64 p1)), (2, (.int .u64 p2)), (24, (bv (decide (p2 ≤ p0))))] (by kernel_rfl) ?_
 refine WL.done rfl (WX.next ?_)
 rcases br_some hf with ⟨h4, hf⟩ | ⟨h4, hf⟩
 ·refine WC.condT2 (fun fb => by kernel_rfl) h4 ?_
  cases hf
 refine WC.condF2 (fun fb => by kernel_rfl) h4 ?_
 refine WC.skip (WX.next (WC.seq (WC.seq (WC.region ?_))))
 refine sg 2 [] [0, 1, 2, 27] [(0, (.int .u64 p0)), (1, (.int .u64 p1)), (2, (.int .u64 p2)), (27, (bv (p0 == 0)))] (by kernel_rfl) ?_
 refine WL.done rfl (WX.next ?_)
 rcases br_some hf with ⟨h5, hf⟩ | ⟨h5, hf⟩
 ·refine WC.condT2 (fun fb => by kernel_rfl) h5 ?_
  refine WC.seq ?_
  obtain ⟨h8, hf⟩ := as_some hf
  refine WC.regionD ([], [0, 1, 2, 3, 4, 5, 6, 7], [[], [], [0, 1], [], [], [3, 4], [0, 1, 2], [0, 1, 2, 3, 4, 5, 6]]) [[0, 1, 2, 3, 4, 5, 6, 7]] (by kernel_rfl) (by kernel_rfl) (NoPanic.seq (NoPanic.seq (NoPanic.body))) ?_
  have hS7 := hS.drew
  revert hS7
  generalize World.drew w = w6
  intro hS7
  refine ⟨trivial, forallC ?_ (forallN)⟩
  refine seg 8 [] [6, 7] [(6, (.int .u64 (IntKind.wrap .u64 (Int.tdiv p1 p2)))), (7, (.int .u64 (Int.tmod p1 p2)))] [.ne p2, .ne p2] (fun fb => by kernel_rfl) rfl ⟨h8, h8, trivial⟩ ?_
  refine WL.done rfl (WX.next ?_)
  refine WC.ret ?_
  injection hf with hf
  subst hf
  exact WX.thenR (WX.ret_ [] (.tuple #[(.int .u64 (IntKind.wrap .u64 (Int.tdiv p1 p2))), (.int .u64 (Int.tmod p1 p2))]) [] (fun fb => by kernel_rfl) trivial ⟨_, rfl, rfl, hS7.keep⟩)
 refine WC.condF2 (fun fb => by kernel_rfl) h5 ?_
 refine WC.skip (WX.next (WC.seq (WC.region ?_)))
 refine sg 1 [] [0, 1, 2, 34] [(0, (.int .u64 p0)), (1, (.int .u64 p1)), (2, (.int .u64 p2)), (34, (.int .u64 p2))] (by kernel_rfl) ?_
 obtain ⟨t9, ht10, hf⟩ := bind_some hf
 refine WL.call (some 35) 104 #[(.int .u64 p2)] (fun fb => by kernel_rfl) (bits_LeadingZeros64_calls p2 t9 _ ht10) (fun v w11 hR12 => ?_)
 obtain ⟨rfl, hk_⟩ := hR12
 have hS13 := hS.keepN hk_
 refine ⟨trivial, ?_⟩
 refine sg 4 [] [0, 1, 2, 8] [(0, (.int .u64 p0)), (1, (.int .u64 p1)), (2, (.int .u64 p2)), (8, (.int .u64 (IntKind.wrap .u64 (t9))))] (by kernel_rfl) ?_
 refine WL.done rfl (WX.next (WC.seq (WC.region ?_)))
 refine sg 2 [] [0, 1, 8, 37, 38] [(0, (.int .u64 p0)), (1, (.int .u64 p1)), (8, (.int .u64 (IntKind.wrap .u64 (t9)))), (37, (.int .u64 p2)), (38, (.int .u64 (IntKind.wrap .u64 (t9))))] (by kernel_rfl) ?_
 obtain ⟨h14, hf⟩ := as_some hf
 refine seg 4 [] [0, 1, 2, 8] [(0, (.int .u64 p0)), (1, (.int .u64 p1)), (2, (.int .u64 (shlV p2 (IntKind.wrap .u64 (t9))))), (8, (.int .u64 (IntKind.wrap .u64 (t9))))] [.idx (some ⟨0, 0, none⟩) (IntKind.wrap .u64 (t9)) 64] (fun fb => by kernel_rfl) rfl ⟨⟨h14.1, h14.2, rfl⟩, trivial⟩ ?_
 refine WL.done rfl (WX.next (WC.seq (WC.region ?_)))
 refine seg 3 [] [0, 1, 2, 8, 9] [(0, (.int .u64 p0)), (1, (.int .u64 p1)), (2, (.int .u64 (shlV p2 (IntKind.wrap .u64 (t9))))), (8, (.int .u64 (IntKind.wrap .u64 (t9)))), (9, (.int .u64 (shrV (shlV p2 (IntKind.wrap .u64 (t9))) 32)))] [.idx (some ⟨0, 0, none⟩) 32 64] (fun fb => by kernel_rfl) rfl ⟨⟨by decide, by decide, rfl⟩, trivial⟩ ?_
 refine WL.done rfl (WX.next (WC.seq (WC.region ?_)))
 refine sg 3 [] [0, 1, 2, 8, 9, 10] [(0, (.int .u64 p0)), (1, (.int .u64 p1)), (2, (.int .u64 (shlV p2 (IntKind.wrap .u64 (t9))))), (8, (.int .u64 (IntKind.wrap .u64 (t9)))), (9, (.int .u64 (shrV (shlV p2 (IntKind.wrap .u64 (t9))) 32))), (10, (.int .u64 (andV (shlV p2 (IntKind.wrap .u64 (t9))) 4294967295)))] (by kernel_rfl) ?_
 refine WL.done rfl (WX.next (WC.seq (WC.region ?_)))
 refine seg 6 [] [1, 2, 8, 9, 10, 46, 47, 49] [(1, (.int .u64 p1)), (2, (.int .u64 (shlV p2 (IntKind.wrap .u64 (t9))))), (8, (.int .u64 (IntKind.wrap .u64 (t9)))), (9, (.int .u64 (shrV (shlV p2 (IntKind.wrap .u64 (t9))) 32))), (10, (.int .u64 (andV (shlV p2 (IntKind.wrap .u64 (t9))) 4294967295))), (46, (.int .u64 (shlV p0 (IntKind.wrap .u64 (t9))))), (47, (.int .u64 p1)), (49, (.int .u64 (IntKind.wrap .u64 (64 - (IntKind.wrap .u64 (t9))))))] [.idx (some ⟨0, 0, none⟩) (IntKind.wrap .u64 (t9)) 64] (fun fb => by kernel_rfl) rfl ⟨⟨h14.1, h14.2, rfl⟩, trivial⟩ ?_
 obtain ⟨h15, hf⟩ := as_some hf
 refine seg 9 [] [1, 2, 8, 9, 10, 11] [(1, (.int .u64 p1)), (2, (.int .u64 (shlV p2 (IntKind.wrap .u64 (t9))))), (8, (.int .u64 (IntKind.wrap .u64 (t9)))), (9, (.int .u64 (shrV (shlV p2 (IntKind.wrap .u64 (t9))) 32))), (10, (.int .u64 (andV (shlV p2 (IntKind.wrap .u64 (t9))) 4294967295))), (11, (.int .u64 (orV (shlV p0 (IntKind.wrap .u64 (t9))) (shrV p1 (IntKind.wrap .u64 (64 - (IntKind.wrap .u64 (t9))))))))] [.idx (some ⟨0, 0, none⟩) (IntKind.wrap .u64 (64 - (IntKind.wrap .u64 (t9)))) 64] (fun fb => by kernel_rfl) rfl ⟨⟨h15.1, h15.2, rfl⟩, trivial⟩ ?_
 refine WL.done rfl (WX.next (WC.seq (WC.region ?_)))
 refine seg 4 [] [2, 8, 9, 10, 11, 12] [(2, (.int .u64 (shlV p2 (IntKind.wrap .u64 (t9))))), (8, (.int .u64 (IntKind.wrap .u64 (t9)))), (9, (.int .u64 (shrV (shlV p2 (IntKind.wrap .u64 (t9))) 32))), (10, (.int .u64 (andV (shlV p2 (IntKind.wrap .u64 (t9))) 4294967295))), (11, (.int .u64 (orV (shlV p0 (IntKind.wrap .u64 (t9))) (shrV p1 (IntKind.wrap .u64 (64 - (IntKind.wrap .u64 (t9)))))))), (12, (.int .u64 (shlV p1 (IntKind.wrap .u64 (t9)))))] [.idx (some ⟨0, 0, none⟩) (IntKind.wrap .u64 (t9)) 64] (fun fb => by kernel_rfl) rfl ⟨⟨h14.1, h14.2, rfl⟩, trivial⟩ ?_
 refine WL.done rfl (WX.next (WC.seq (WC.region ?_)))
 refine seg 3 [] [2, 8, 9, 10, 11, 12, 13] [(2, (.int .u64 (shlV p2 (IntKind.wrap .u64 (t9))))), (8, (.int .u64 (IntKind.wrap .u64 (t9)))), (9, (.int .u64 (shrV (shlV p2 (IntKind.wrap .u64 (t9))) 32))), (10, (.int .u64 (andV (shlV p2 (IntKind.wrap .u64 (t9))) 4294967295))), (11, (.int .u64 (orV (shlV p0 (IntKind.wrap .u64 (t9))) (shrV p1 (IntKind.wrap .u64 (64 - (IntKind.wrap .u64 (t9)))))))), (12, (.int .u64 (shlV p1 (IntKind.wrap .u64 (t9))))), (13, (.int .u64 (shrV (shlV p1 (IntKind.wrap .u64 (t9))) 32)))] [.idx (some ⟨0, 0, none⟩) 32 64] (fun fb => by kernel_rfl) rfl ⟨⟨by decide, by decide, rfl⟩, trivial⟩ ?_
 refine WL.done rfl (WX.next (WC.seq (WC.region ?_)))
 refine sg 3 [] [2, 8, 9, 10, 11, 13, 14] [(2, (.int .u64 (shlV p2 (IntKind.wrap .u64 (t9))))), (8, (.int .u64 (IntKind.wrap .u64 (t9)))), (9, (.int .u64 (shrV (shlV p2 (IntKind.wrap .u64 (t9))) 32))), (10, (.int .u64 (andV (shlV p2 (IntKind.wrap .u64 (t9))) 4294967295))), (11, (.int .u64 (orV (shlV p0 (IntKind.wrap .u64 (t9))) (shrV p1 (IntKind.wrap .u64 (64 - (IntKind.wrap .u64 (t9)))))))), (13, (.int .u64 (shrV (shlV p1 (IntKind.wrap .u64 (t9))) 32))), (14, (.int .u64 (andV (shlV p1 (IntKind.wrap .u64 (t9))) 4294967295)))] (by kernel_rfl) ?_
 refine WL.done rfl (WX.next (WC.seq (WC.region ?_)))
 refine sg 2 [] [2, 8, 9, 10, 11, 13, 14, 59, 60] [(2, (.int .u64 (shlV p2 (IntKind.wrap .u64 (t9))))), (8, (.int .u64 (IntKind.wrap .u64 (t9)))), (9, (.int .u64 (shrV (shlV p2 (IntKind.wrap .u64 (t9))) 32))), (10, (.int .u64 (andV (shlV p2 (IntKind.wrap .u64 (t9))) 4294967295))), (11, (.int .u64 (orV (shlV p0 (IntKind.wrap .u64 (t9))) (shrV p1 (IntKind.wrap .u64 (64 - (IntKind.wrap .u64 (t9)))))))), (13, (.int .u64 (shrV (shlV p1 (IntKind.wrap .u64 (t9))) 32))), (14, (.int .u64 (andV (shlV p1 (IntKind.wrap .u64 (t9))) 4294967295))), (59, (.int .u64 (orV (shlV p0 (IntKind.wrap .u64 (t9))) (shrV p1 (IntKind.wrap .u64 (64 - (IntKind.wrap .u64 (t9)))))))), (60, (.int .u64 (shrV (shlV p2 (IntKind.wrap .u64 (t9))) 32)))] (by kernel_rfl) ?_
 obtain ⟨h16, hf⟩ := as_some hf
 refine seg 4 [] [2, 8, 9, 10, 11, 13, 14, 15] [(2, (.int .u64 (shlV p2 (IntKind.wrap .u64 (t9))))), (8, (.int .u64 (IntKind.wrap .u64 (t9)))), (9, (.int .u64 (shrV (shlV p2 (IntKind.wrap .u64 (t9))) 32))), (10, (.int .u64 (andV (shlV p2 (IntKind.wrap .u64 (t9))) 4294967295))), (11, (.int .u64 (orV (shlV p0 (IntKind.wrap .u64 (t9))) (shrV p1 (IntKind.wrap .u64 (64 - (IntKind.wrap .u64 (t9)))))))), (13, (.int .u64 (shrV (shlV p1 (IntKind.wrap .u64 (t9))) 32))), (14, (.int .u64 (andV (shlV p1 (IntKind.wrap .u64 (t9))) 4294967295))), (15, (.int .u64 (IntKind.wrap .u64 (Int.tdiv (orV (shlV p0 (IntKind.wrap .u64 (t9))) (shrV p1 (IntKind.wrap .u64 (64 - (IntKind.wrap .u64 (t9)))))) (shrV (shlV p2 (IntKind.wrap .u64 (t9))) 32)))))] [.ne (shrV (shlV p2 (IntKind.wrap .u64 (t9))) 32)] (fun fb => by kernel_rfl) rfl ⟨h16, trivial⟩ ?_
 refine WL.done rfl (WX.next (WC.seq (WC.region ?_)))
 refine sg 6 [] [2, 8, 9, 10, 11, 13, 14, 15, 16] [(2, (.int .u64 (shlV p2 (IntKind.wrap .u64 (t9))))), (8, (.int .u64 (IntKind.wrap .u64 (t9)))), (9, (.int .u64 (shrV (shlV p2 (IntKind.wrap .u64 (t9))) 32))), (10, (.int .u64 (andV (shlV p2 (IntKind.wrap .u64 (t9))) 4294967295))), (11, (.int .u64 (orV (shlV p0 (IntKind.wrap .u64 (t9))) (shrV p1 (IntKind.wrap .u64 (64 - (IntKind.wrap .u64 (t9)))))))), (13, (.int .u64 (shrV (shlV p1 (IntKind.wrap .u64 (t9))) 32))), (14, (.int .u64 (andV (shlV p1 (IntKind.wrap .u64 (t9))) 4294967295))), (15, (.int .u64 (IntKind.wrap .u64 (Int.tdiv (orV (shlV p0 (IntKind.wrap .u64 (t9))) (shrV p1 (IntKind.wrap .u64 (64 - (IntKind.wrap .u64 (t9)))))) (shrV (shlV p2 (IntKind.wrap .u64 (t9))) 32))))), (16, (.int .u64 (IntKind.wrap .u64 ((orV (shlV p0 (IntKind.wrap .u64 (t9))) (shrV p1 (IntKind.wrap .u64 (64 - (IntKind.wrap .u64 (t9)))))) - (IntKind.wrap .u64 ((IntKind.wrap .u64 (Int.tdiv (orV (shlV p0 (IntKind.wrap .u64 (t9))) (shrV p1 (IntKind.wrap .u64 (64 - (IntKind.wrap .u64 (t9)))))) (shrV (shlV p2 (IntKind.wrap .u64 (t9))) 32))) * (shrV (shlV p2 (IntKind.wrap .u64 (t9))) 32)))))))] (by kernel_rfl) ?_
 refine WL.done rfl (WX.next (WC.seq ?_))
 obtain ⟨x19, hx20, hf⟩ := bind_some hf
 let e1 : List Nat := [2, 8, 9, 10, 11, 13, 14, 15, 16]
 refine WC.cutN (T := Int) (fun t => [(2, (.int .u64 (shlV p2 (IntKind.wrap .u64 (t9))))), (8, (.int .u64 (IntKind.wrap .u64 (t9)))), (9, (.int .u64 (shrV (shlV p2 (IntKind.wrap .u64 (t9))) 32))), (10, (.int .u64 (andV (shlV p2 (IntKind.wrap .u64 (t9))) 4294967295))), (11, (.int .u64 (orV (shlV p0 (IntKind.wrap .u64 (t9))) (shrV p1 (IntKind.wrap .u64 (64 - (IntKind.wrap .u64 (t9)))))))), (13, (.int .u64 (shrV (shlV p1 (IntKind.wrap .u64 (t9))) 32))), (14, (.int .u64 (andV (shlV p1 (IntKind.wrap .u64 (t9))) 4294967295))), (15, (.int .u64 t))]) (fun t w1 => St NoS w w1 [] [] ∧ x19 = t) (fun Kx19 => ?_) ?_
 ·
  refine WC.block ?_
  refine WC.loop (T := Int × Int) (fun t => [(2, (.int .u64 (shlV p2 (IntKind.wrap .u64 (t9))))), (8, (.int .u64 (IntKind.wrap .u64 (t9)))), (9, (.int .u64 (shrV (shlV p2 (IntKind.wrap .u64 (t9))) 32))), (10, (.int .u64 (andV (shlV p2 (IntKind.wrap .u64 (t9))) 4294967295))), (11, (.int .u64 (orV (shlV p0 (IntKind.wrap .u64 (t9))) (shrV p1 (IntKind.wrap .u64 (64 - (IntKind.wrap .u64 (t9)))))))), (13, (.int .u64 (shrV (shlV p1 (IntKind.wrap .u64 (t9))) 32))), (14, (.int .u64 (andV (shlV p1 (IntKind.wrap .u64 (t9))) 4294967295))), (15, (.int .u64 t.1)), (16, (.int .u64 t.2))]) (fun n t w1 => St NoS w w1 [] [] ∧ bits_Div64.l0 n t.1 t.2 p1 p2 t9 = some x19) k (IntKind.wrap .u64 (Int.tdiv (orV (shlV p0 (IntKind.wrap .u64 (t9))) (shrV p1 (IntKind.wrap .u64 (64 - (IntKind.wrap .u64 (t9)))))) (shrV (shlV p2 (IntKind.wrap .u64 (t9))) 32)), IntKind.wrap .u64 ((orV (shlV p0 (IntKind.wrap .u64 (t9))) (shrV p1 (IntKind.wrap .u64 (64 - (IntKind.wrap .u64 (t9)))))) - (IntKind.wrap .u64 ((IntKind.wrap .u64 (Int.tdiv (orV (shlV p0 (IntKind.wrap .u64 (t9))) (shrV p1 (IntKind.wrap .u64 (64 - (IntKind.wrap .u64 (t9)))))) (shrV (shlV p2 (IntKind.wrap .u64 (t9))) 32))) * (shrV (shlV p2 (IntKind.wrap .u64 (t9))) 32))))) e1 rfl ⟨(hS13.subR []).sub [] (by decide), hx20⟩ ?_
  rintro k21 ⟨x17, x18⟩ w22 ⟨hS23, hl24⟩
  let e3 := decide (x17 ≥ 4294967296)
  cases k21 with
  | zero => rw [bits_Div64.l0] at hl24; cases hl24
  | succ k21 =>
   rw [bits_Div64.l0] at hl24
   refine WC.seq (WC.seq (WC.region ?_))
   refine sg 3 [] [2, 8, 9, 10, 11, 13, 14, 15, 16, 69] [(2, (.int .u64 (shlV p2 (IntKind.wrap .u64 (t9))))), (8, (.int .u64 (IntKind.wrap .u64 (t9)))), (9, (.int .u64 (shrV (shlV p2 (IntKind.wrap .u64 (t9))) 32))), (10, (.int .u64 (andV (shlV p2 (IntKind.wrap .u64 (t9))) 4294967295))), (11, (.int .u64 (orV (shlV p0 (IntKind.wrap .u64 (t9))) (shrV p1 (IntKind.wrap .u64 (64 - (IntKind.wrap .u64 (t9)))))))), (13, (.int .u64 (shrV (shlV p1 (IntKind.wrap .u64 (t9))) 32))), (14, (.int .u64 (andV (shlV p1 (IntKind.wrap .u64 (t9))) 4294967295))), (15, (.int .u64 x17)), (16, (.int .u64 x18)), (69, (bv e3))] (by kernel_rfl) ?_
   refine WL.cutV (T := Bool) 12 (fun t => [(78, (bv t)), (2, (.int .u64 (shlV p2 (IntKind.wrap .u64 (t9))))), (8, (.int .u64 (IntKind.wrap .u64 (t9)))), (9, (.int .u64 (shrV (shlV p2 (IntKind.wrap .u64 (t9))) 32))), (10, (.int .u64 (andV (shlV p2 (IntKind.wrap .u64 (t9))) 4294967295))), (11, (.int .u64 (orV (shlV p0 (IntKind.wrap .u64 (t9))) (shrV p1 (IntKind.wrap .u64 (64 - (IntKind.wrap .u64 (t9)))))))), (13, (.int .u64 (shrV (shlV p1 (IntKind.wrap .u64 (t9))) 32))), (14, (.int .u64 (andV (shlV p1 (IntKind.wrap .u64 (t9))) 4294967295))), (15, (.int .u64 x17)), (16, (.int .u64 x18))]) (fun t => (e3 || (decide (IntKind.wrap .u64 (x17 * (andV (shlV p2 (IntKind.wrap .u64 (t9))) 4294967295)) > IntKind.wrap .u64 ((IntKind.wrap .u64 (4294967296 * x18)) + (shrV (shlV p1 (IntKind.wrap .u64 (t9))) 32))))) = t) (fun K => ?_) ?_
   ·
    rcases Bool.eq_false_or_eq_true e3 with h25 | h25
    ·
     refine WL.setB 69 h25 rfl ?_
     refine sg 12 [] [2, 8, 9, 10, 11, 13, 14, 15, 16, 78] [(2, (.int .u64 (shlV p2 (IntKind.wrap .u64 (t9))))), (8, (.int .u64 (IntKind.wrap .u64 (t9)))), (9, (.int .u64 (shrV (shlV p2 (IntKind.wrap .u64 (t9))) 32))), (10, (.int .u64 (andV (shlV p2 (IntKind.wrap .u64 (t9))) 4294967295))), (11, (.int .u64 (orV (shlV p0 (IntKind.wrap .u64 (t9))) (shrV p1 (IntKind.wrap .u64 (64 - (IntKind.wrap .u64 (t9)))))))), (13, (.int .u64 (shrV (shlV p1 (IntKind.wrap .u64 (t9))) 32))), (14, (.int .u64 (andV (shlV p1 (IntKind.wrap .u64 (t9))) 4294967295))), (15, (.int .u64 x17)), (16, (.int .u64 x18)), (78, (bv true))] (by kernel_rfl) ?_
     exact WL.toV K true [78, 2, 8, 9, 10, 11, 13, 14, 15, 16] rfl (by first | (rw [h25]; done) | (rw [h25]; rfl))
    refine WL.setB 69 h25 rfl ?_
    refine sg 12 [] [2, 8, 9, 10, 11, 13, 14, 15, 16, 78] [(2, (.int .u64 (shlV p2 (IntKind.wrap .u64 (t9))))), (8, (.int .u64 (IntKind.wrap .u64 (t9)))), (9, (.int .u64 (shrV (shlV p2 (IntKind.wrap .u64 (t9))) 32))), (10, (.int .u64 (andV (shlV p2 (IntKind.wrap .u64 (t9))) 4294967295))), (11, (.int .u64 (orV (shlV p0 (IntKind.wrap .u64 (t9))) (shrV p1 (IntKind.wrap .u64 (64 - (IntKind.wrap .u64 (t9)))))))), (13, (.int .u64 (shrV (shlV p1 (IntKind.wrap .u64 (t9))) 32))), (14, (.int .u64 (andV (shlV p1 (IntKind.wrap .u64 (t9))) 4294967295))), (15, (.int .u64 x17)), (16, (.int .u64 x18)), (78, (bv (decide (IntKind.wrap .u64 (x17 * (andV (shlV p2 (IntKind.wrap .u64 (t9))) 4294967295)) > IntKind.wrap .u64 ((IntKind.wrap .u64 (4294967296 * x18)) + (shrV (shlV p1 (IntKind.wrap .u64 (t9))) 32))))))] (by kernel_rfl) ?_
    exact WL.toV K (decide (IntKind.wrap .u64 (x17 * (andV (shlV p2 (IntKind.wrap .u64 (t9))) 4294967295)) > IntKind.wrap .u64 ((IntKind.wrap .u64 (4294967296 * x18)) + (shrV (shlV p1 (IntKind.wrap .u64 (t9))) 32)))) [78, 2, 8, 9, 10, 11, 13, 14, 15, 16] rfl (by first | (rw [h25]; done) | (rw [h25]; rfl))
   rintro b26 rfl
   refine WL.done rfl (WX.next ?_)
   rcases br_some hl24 with ⟨h27, hl24⟩ | ⟨h27, hl24⟩
   ·refine WC.condT2 (fun fb => by kernel_rfl) h27 ?_
    refine WC.skip (WX.next (WC.block (WC.seq (WC.region ?_))))
    refine sg 3 [] e1 [(2, (.int .u64 (shlV p2 (IntKind.wrap .u64 (t9))))), (8, (.int .u64 (IntKind.wrap .u64 (t9)))), (9, (.int .u64 (shrV (shlV p2 (IntKind.wrap .u64 (t9))) 32))), (10, (.int .u64 (andV (shlV p2 (IntKind.wrap .u64 (t9))) 4294967295))), (11, (.int .u64 (orV (shlV p0 (IntKind.wrap .u64 (t9))) (shrV p1 (IntKind.wrap .u64 (64 - (IntKind.wrap .u64 (t9)))))))), (13, (.int .u64 (shrV (shlV p1 (IntKind.wrap .u64 (t9))) 32))), (14, (.int .u64 (andV (shlV p1 (IntKind.wrap .u64 (t9))) 4294967295))), (15, (.int .u64 (IntKind.wrap .u64 (x17 - 1)))), (16, (.int .u64 x18))] (by kernel_rfl) ?_
    refine WL.done rfl (WX.next (WC.seq (WC.region ?_)))
    refine sg 4 [] e1 [(2, (.int .u64 (shlV p2 (IntKind.wrap .u64 (t9))))), (8, (.int .u64 (IntKind.wrap .u64 (t9)))), (9, (.int .u64 (shrV (shlV p2 (IntKind.wrap .u64 (t9))) 32))), (10, (.int .u64 (andV (shlV p2 (IntKind.wrap .u64 (t9))) 4294967295))), (11, (.int .u64 (orV (shlV p0 (IntKind.wrap .u64 (t9))) (shrV p1 (IntKind.wrap .u64 (64 - (IntKind.wrap .u64 (t9)))))))), (13, (.int .u64 (shrV (shlV p1 (IntKind.wrap .u64 (t9))) 32))), (14, (.int .u64 (andV (shlV p1 (IntKind.wrap .u64 (t9))) 4294967295))), (15, (.int .u64 (IntKind.wrap .u64 (x17 - 1)))), (16, (.int .u64 (IntKind.wrap .u64 (x18 + (shrV (shlV p2 (IntKind.wrap .u64 (t9))) 32)))))] (by kernel_rfl) ?_
    refine WL.done rfl (WX.next (WC.seq (WC.region ?_)))
    refine sg 2 [] [2, 8, 9, 10, 11, 13, 14, 15, 16, 85] [(2, (.int .u64 (shlV p2 (IntKind.wrap .u64 (t9))))), (8, (.int .u64 (IntKind.wrap .u64 (t9)))), (9, (.int .u64 (shrV (shlV p2 (IntKind.wrap .u64 (t9))) 32))), (10, (.int .u64 (andV (shlV p2 (IntKind.wrap .u64 (t9))) 4294967295))), (11, (.int .u64 (orV (shlV p0 (IntKind.wrap .u64 (t9))) (shrV p1 (IntKind.wrap .u64 (64 - (IntKind.wrap .u64 (t9)))))))), (13, (.int .u64 (shrV (shlV p1 (IntKind.wrap .u64 (t9))) 32))), (14, (.int .u64 (andV (shlV p1 (IntKind.wrap .u64 (t9))) 4294967295))), (15, (.int .u64 (IntKind.wrap .u64 (x17 - 1)))), (16, (.int .u64 (IntKind.wrap .u64 (x18 + (shrV (shlV p2 (IntKind.wrap .u64 (t9))) 32))))), (85, (bv (decide (IntKind.wrap .u64 (x18 + (shrV (shlV p2 (IntKind.wrap .u64 (t9))) 32)) ≥ 4294967296))))] (by kernel_rfl) ?_
    refine WL.done rfl (WX.next ?_)
    rcases br_some hl24 with ⟨h28, hl24⟩ | ⟨h28, hl24⟩
    ·refine WC.condT2 (fun fb => by kernel_rfl) h28 ?_
     refine WC.exit ?_
     injection hl24 with hl24
     exact WX.blockPast (by decide) (WX.thenX (WX.blockHere (WX.to Kx19 (IntKind.wrap .u64 (x17 - 1)) [2, 8, 9, 10, 11, 13, 14, 15] rfl ⟨(hS23.subR []).sub [] (by decide), hl24.symm⟩)))
    refine WC.condF2 (fun fb => by kernel_rfl) h28 ?_
    refine WC.skip ?_
    exact WX.blockN (WX.again k21 (Nat.lt_succ_self _) (IntKind.wrap .u64 (x17 - 1), IntKind.wrap .u64 (x18 + (shrV (shlV p2 (IntKind.wrap .u64 (t9))) 32))) e1 rfl ⟨(hS23.subR []).sub [] (by decide), hl24⟩)
   refine WC.condF2 (fun fb => by kernel_rfl) h27 ?_
   refine WC.exit ?_
   injection hl24 with hl24
   exact WX.thenX (WX.thenX (WX.blockHere (WX.to Kx19 x17 [2, 8, 9, 10, 11, 13, 14, 15] rfl ⟨(hS23.subR []).sub [] (by decide), hl24.symm⟩)))
 rintro y32 w29 ⟨hS30, hq31⟩
 subst hq31
 refine WX.next (WC.seq (WC.region ?_))
 refine sg 9 [] [2, 8, 9, 10, 14, 15, 17] [(2, (.int .u64 (shlV p2 (IntKind.wrap .u64 (t9))))), (8, (.int .u64 (IntKind.wrap .u64 (t9)))), (9, (.int .u64 (shrV (shlV p2 (IntKind.wrap .u64 (t9))) 32))), (10, (.int .u64 (andV (shlV p2 (IntKind.wrap .u64 (t9))) 4294967295))), (14, (.int .u64 (andV (shlV p1 (IntKind.wrap .u64 (t9))) 4294967295))), (15, (.int .u64 x19)), (17, (.int .u64 (IntKind.wrap .u64 ((IntKind.wrap .u64 ((IntKind.wrap .u64 ((orV (shlV p0 (IntKind.wrap .u64 (t9))) (shrV p1 (IntKind.wrap .u64 (64 - (IntKind.wrap .u64 (t9)))))) * 4294967296)) + (shrV (shlV p1 (IntKind.wrap .u64 (t9))) 32))) - (IntKind.wrap .u64 (x19 * (shlV p2 (IntKind.wrap .u64 (t9)))))))))] (by kernel_rfl) ?_
 refine WL.done rfl (WX.next (WC.seq (WC.region ?_)))
 refine seg 4 [] [2, 8, 9, 10, 14, 15, 17, 18] [(2, (.int .u64 (shlV p2 (IntKind.wrap .u64 (t9))))), (8, (.int .u64 (IntKind.wrap .u64 (t9)))), (9, (.int .u64 (shrV (shlV p2 (IntKind.wrap .u64 (t9))) 32))), (10, (.int .u64 (andV (shlV p2 (IntKind.wrap .u64 (t9))) 4294967295))), (14, (.int .u64 (andV (shlV p1 (IntKind.wrap .u64 (t9))) 4294967295))), (15, (.int .u64 x19)), (17, (.int .u64 (IntKind.wrap .u64 ((IntKind.wrap .u64 ((IntKind.wrap .u64 ((orV (shlV p0 (IntKind.wrap .u64 (t9))) (shrV p1 (IntKind.wrap .u64 (64 - (IntKind.wrap .u64 (t9)))))) * 4294967296)) + (shrV (shlV p1 (IntKind.wrap .u64 (t9))) 32))) - (IntKind.wrap .u64 (x19 * (shlV p2 (IntKind.wrap .u64 (t9))))))))), (18, (.int .u64 (IntKind.wrap .u64 (Int.tdiv (IntKind.wrap .u64 ((IntKind.wrap .u64 ((IntKind.wrap .u64 ((orV (shlV p0 (IntKind.wrap .u64 (t9))) (shrV p1 (IntKind.wrap .u64 (64 - (IntKind.wrap .u64 (t9)))))) * 4294967296)) + (shrV (shlV p1 (IntKind.wrap .u64 (t9))) 32))) - (IntKind.wrap .u64 (x19 * (shlV p2 (IntKind.wrap .u64 (t9))))))) (shrV (shlV p2 (IntKind.wrap .u64 (t9))) 32)))))] [.ne (shrV (shlV p2 (IntKind.wrap .u64 (t9))) 32)] (fun fb => by kernel_rfl) rfl ⟨h16, trivial⟩ ?_
 refine WL.done rfl (WX.next (WC.seq (WC.region ?_)))
 refine sg 6 [] [2, 8, 9, 10, 14, 15, 16, 17, 18] [(2, (.int .u64 (shlV p2 (IntKind.wrap .u64 (t9))))), (8, (.int .u64 (IntKind.wrap .u64 (t9)))), (9, (.int .u64 (shrV (shlV p2 (IntKind.wrap .u64 (t9))) 32))), (10, (.int .u64 (andV (shlV p2 (IntKind.wrap .u64 (t9))) 4294967295))), (14, (.int .u64 (andV (shlV p1 (IntKind.wrap .u64 (t9))) 4294967295))), (15, (.int .u64 x19)), (16, (.int .u64 (IntKind.wrap .u64 ((IntKind.wrap .u64 ((IntKind.wrap .u64 ((IntKind.wrap .u64 ((orV (shlV p0 (IntKind.wrap .u64 (t9))) (shrV p1 (IntKind.wrap .u64 (64 - (IntKind.wrap .u64 (t9)))))) * 4294967296)) + (shrV (shlV p1 (IntKind.wrap .u64 (t9))) 32))) - (IntKind.wrap .u64 (x19 * (shlV p2 (IntKind.wrap .u64 (t9))))))) - (IntKind.wrap .u64 ((IntKind.wrap .u64 (Int.tdiv (IntKind.wrap .u64 ((IntKind.wrap .u64 ((IntKind.wrap .u64 ((orV (shlV p0 (IntKind.wrap .u64 (t9))) (shrV p1 (IntKind.wrap .u64 (64 - (IntKind.wrap .u64 (t9)))))) * 4294967296)) + (shrV (shlV p1 (IntKind.wrap .u64 (t9))) 32))) - (IntKind.wrap .u64 (x19 * (shlV p2 (IntKind.wrap .u64 (t9))))))) (shrV (shlV p2 (IntKind.wrap .u64 (t9))) 32))) * (shrV (shlV p2 (IntKind.wrap .u64 (t9))) 32))))))), (17, (.int .u64 (IntKind.wrap .u64 ((IntKind.wrap .u64 ((IntKind.wrap .u64 ((orV (shlV p0 (IntKind.wrap .u64 (t9))) (shrV p1 (IntKind.wrap .u64 (64 - (IntKind.wrap .u64 (t9)))))) * 4294967296)) + (shrV (shlV p1 (IntKind.wrap .u64 (t9))) 32))) - (IntKind.wrap .u64 (x19 * (shlV p2 (IntKind.wrap .u64 (t9))))))))), (18, (.int .u64 (IntKind.wrap .u64 (Int.tdiv (IntKind.wrap .u64 ((IntKind.wrap .u64 ((IntKind.wrap .u64 ((orV (shlV p0 (IntKind.wrap .u64 (t9))) (shrV p1 (IntKind.wrap .u64 (64 - (IntKind.wrap .u64 (t9)))))) * 4294967296)) + (shrV (shlV p1 (IntKind.wrap .u64 (t9))) 32))) - (IntKind.wrap .u64 (x19 * (shlV p2 (IntKind.wrap .u64 (t9))))))) (shrV (shlV p2 (IntKind.wrap .u64 (t9))) 32)))))] (by kernel_rfl) ?_
 refine WL.done rfl (WX.next (WC.seq ?_))
 obtain ⟨x35, hx36, hf⟩ := bind_some hf
 let e2 : List Nat := [2, 8, 9, 10, 14, 15, 16, 17, 18]
 refine WC.cutN (T := Int) (fun t => [(2, (.int .u64 (shlV p2 (IntKind.wrap .u64 (t9))))), (8, (.int .u64 (IntKind.wrap .u64 (t9)))), (14, (.int .u64 (andV (shlV p1 (IntKind.wrap .u64 (t9))) 4294967295))), (15, (.int .u64 x19)), (17, (.int .u64 (IntKind.wrap .u64 ((IntKind.wrap .u64 ((IntKind.wrap .u64 ((orV (shlV p0 (IntKind.wrap .u64 (t9))) (shrV p1 (IntKind.wrap .u64 (64 - (IntKind.wrap .u64 (t9)))))) * 4294967296)) + (shrV (shlV p1 (IntKind.wrap .u64 (t9))) 32))) - (IntKind.wrap .u64 (x19 * (shlV p2 (IntKind.wrap .u64 (t9))))))))), (18, (.int .u64 t))]) (fun t w1 => St NoS w w1 [] [] ∧ x35 = t) (fun Kx35 => ?_) ?_
 ·
  refine WC.block ?_
  refine WC.loop (T := Int × Int) (fun t => [(2, (.int .u64 (shlV p2 (IntKind.wrap .u64 (t9))))), (8, (.int .u64 (IntKind.wrap .u64 (t9)))), (9, (.int .u64 (shrV (shlV p2 (IntKind.wrap .u64 (t9))) 32))), (10, (.int .u64 (andV (shlV p2 (IntKind.wrap .u64 (t9))) 4294967295))), (14, (.int .u64 (andV (shlV p1 (IntKind.wrap .u64 (t9))) 4294967295))), (15, (.int .u64 x19)), (16, (.int .u64 t.1)), (17, (.int .u64 (IntKind.wrap .u64 ((IntKind.wrap .u64 ((IntKind.wrap .u64 ((orV (shlV p0 (IntKind.wrap .u64 (t9))) (shrV p1 (IntKind.wrap .u64 (64 - (IntKind.wrap .u64 (t9)))))) * 4294967296)) + (shrV (shlV p1 (IntKind.wrap .u64 (t9))) 32))) - (IntKind.wrap .u64 (x19 * (shlV p2 (IntKind.wrap .u64 (t9))))))))), (18, (.int .u64 t.2))]) (fun n t w1 => St NoS w w1 [] [] ∧ bits_Div64.l1 n t.1 t.2 p1 p2 t9 = some x35) k (IntKind.wrap .u64 ((IntKind.wrap .u64 ((IntKind.wrap .u64 ((IntKind.wrap .u64 ((orV (shlV p0 (IntKind.wrap .u64 (t9))) (shrV p1 (IntKind.wrap .u64 (64 - (IntKind.wrap .u64 (t9)))))) * 4294967296)) + (shrV (shlV p1 (IntKind.wrap .u64 (t9))) 32))) - (IntKind.wrap .u64 (x19 * (shlV p2 (IntKind.wrap .u64 (t9))))))) - (IntKind.wrap .u64 ((IntKind.wrap .u64 (Int.tdiv (IntKind.wrap .u64 ((IntKind.wrap .u64 ((IntKind.wrap .u64 ((orV (shlV p0 (IntKind.wrap .u64 (t9))) (shrV p1 (IntKind.wrap .u64 (64 - (IntKind.wrap .u64 (t9)))))) * 4294967296)) + (shrV (shlV p1 (IntKind.wrap .u64 (t9))) 32))) - (IntKind.wrap .u64 (x19 * (shlV p2 (IntKind.wrap .u64 (t9))))))) (shrV (shlV p2 (IntKind.wrap .u64 (t9))) 32))) * (shrV (shlV p2 (IntKind.wrap .u64 (t9))) 32)))), IntKind.wrap .u64 (Int.tdiv (IntKind.wrap .u64 ((IntKind.wrap .u64 ((IntKind.wrap .u64 ((orV (shlV p0 (IntKind.wrap .u64 (t9))) (shrV p1 (IntKind.wrap .u64 (64 - (IntKind.wrap .u64 (t9)))))) * 4294967296)) + (shrV (shlV p1 (IntKind.wrap .u64 (t9))) 32))) - (IntKind.wrap .u64 (x19 * (shlV p2 (IntKind.wrap .u64 (t9))))))) (shrV (shlV p2 (IntKind.wrap .u64 (t9))) 32))) e2 rfl ⟨(hS30.subR []).sub [] (by decide), hx36⟩ ?_
  rintro k37 ⟨x33, x34⟩ w38 ⟨hS39, hl40⟩
  let e4 := decide (x34 ≥ 4294967296)
  cases k37 with
  | zero => rw [bits_Div64.l1] at hl40; cases hl40
  | succ k37 =>
   rw [bits_Div64.l1] at hl40
   refine WC.seq (WC.seq (WC.region ?_))
   refine sg 3 [] [2, 8, 9, 10, 14, 15, 16, 17, 18, 104] [(2, (.int .u64 (shlV p2 (IntKind.wrap .u64 (t9))))), (8, (.int .u64 (IntKind.wrap .u64 (t9)))), (9, (.int .u64 (shrV (shlV p2 (IntKind.wrap .u64 (t9))) 32))), (10, (.int .u64 (andV (shlV p2 (IntKind.wrap .u64 (t9))) 4294967295))), (14, (.int .u64 (andV (shlV p1 (IntKind.wrap .u64 (t9))) 4294967295))), (15, (.int .u64 x19)), (16, (.int .u64 x33)), (17, (.int .u64 (IntKind.wrap .u64 ((IntKind.wrap .u64 ((IntKind.wrap .u64 ((orV (shlV p0 (IntKind.wrap .u64 (t9))) (shrV p1 (IntKind.wrap .u64 (64 - (IntKind.wrap .u64 (t9)))))) * 4294967296)) + (shrV (shlV p1 (IntKind.wrap .u64 (t9))) 32))) - (IntKind.wrap .u64 (x19 * (shlV p2 (IntKind.wrap .u64 (t9))))))))), (18, (.int .u64 x34)), (104, (bv e4))] (by kernel_rfl) ?_
   refine WL.cutV (T := Bool) 12 (fun t => [(113, (bv t)), (2, (.int .u64 (shlV p2 (IntKind.wrap .u64 (t9))))), (8, (.int .u64 (IntKind.wrap .u64 (t9)))), (9, (.int .u64 (shrV (shlV p2 (IntKind.wrap .u64 (t9))) 32))), (10, (.int .u64 (andV (shlV p2 (IntKind.wrap .u64 (t9))) 4294967295))), (14, (.int .u64 (andV (shlV p1 (IntKind.wrap .u64 (t9))) 4294967295))), (15, (.int .u64 x19)), (16, (.int .u64 x33)), (17, (.int .u64 (IntKind.wrap .u64 ((IntKind.wrap .u64 ((IntKind.wrap .u64 ((orV (shlV p0 (IntKind.wrap .u64 (t9))) (shrV p1 (IntKind.wrap .u64 (64 - (IntKind.wrap .u64 (t9)))))) * 4294967296)) + (shrV (shlV p1 (IntKind.wrap .u64 (t9))) 32))) - (IntKind.wrap .u64 (x19 * (shlV p2 (IntKind.wrap .u64 (t9))))))))), (18, (.int .u64 x34))]) (fun t => (e4 || (decide (IntKind.wrap .u64 (x34 * (andV (shlV p2 (IntKind.wrap .u64 (t9))) 4294967295)) > IntKind.wrap .u64 ((IntKind.wrap .u64 (4294967296 * x33)) + (andV (shlV p1 (IntKind.wrap .u64 (t9))) 4294967295))))) = t) (fun K => ?_) ?_
   ·
    rcases Bool.eq_false_or_eq_true e4 with h41 | h41
    ·
     refine WL.setB 104 h41 rfl ?_
     refine sg 12 [] [2, 8, 9, 10, 14, 15, 16, 17, 18, 113] [(2, (.int .u64 (shlV p2 (IntKind.wrap .u64 (t9))))), (8, (.int .u64 (IntKind.wrap .u64 (t9)))), (9, (.int .u64 (shrV (shlV p2 (IntKind.wrap .u64 (t9))) 32))), (10, (.int .u64 (andV (shlV p2 (IntKind.wrap .u64 (t9))) 4294967295))), (14, (.int .u64 (andV (shlV p1 (IntKind.wrap .u64 (t9))) 4294967295))), (15, (.int .u64 x19)), (16, (.int .u64 x33)), (17, (.int .u64 (IntKind.wrap .u64 ((IntKind.wrap .u64 ((IntKind.wrap .u64 ((orV (shlV p0 (IntKind.wrap .u64 (t9))) (shrV p1 (IntKind.wrap .u64 (64 - (IntKind.wrap .u64 (t9)))))) * 4294967296)) + (shrV (shlV p1 (IntKind.wrap .u64 (t9))) 32))) - (IntKind.wrap .u64 (x19 * (shlV p2 (IntKind.wrap .u64 (t9))))))))), (18, (.int .u64 x34)), (113, (bv true))] (by kernel_rfl) ?_
     exact WL.toV K true [113, 2, 8, 9, 10, 14, 15, 16, 17, 18] rfl (by first | (rw [h41]; done) | (rw [h41]; rfl))
    refine WL.setB 104 h41 rfl ?_
    refine sg 12 [] [2, 8, 9, 10, 14, 15, 16, 17, 18, 113] [(2, (.int .u64 (shlV p2 (IntKind.wrap .u64 (t9))))), (8, (.int .u64 (IntKind.wrap .u64 (t9)))), (9, (.int .u64 (shrV (shlV p2 (IntKind.wrap .u64 (t9))) 32))), (10, (.int .u64 (andV (shlV p2 (IntKind.wrap .u64 (t9))) 4294967295))), (14, (.int .u64 (andV (shlV p1 (IntKind.wrap .u64 (t9))) 4294967295))), (15, (.int .u64 x19)), (16, (.int .u64 x33)), (17, (.int .u64 (IntKind.wrap .u64 ((IntKind.wrap .u64 ((IntKind.wrap .u64 ((orV (shlV p0 (IntKind.wrap .u64 (t9))) (shrV p1 (IntKind.wrap .u64 (64 - (IntKind.wrap .u64 (t9)))))) * 4294967296)) + (shrV (shlV p1 (IntKind.wrap .u64 (t9))) 32))) - (IntKind.wrap .u64 (x19 * (shlV p2 (IntKind.wrap .u64 (t9))))))))), (18, (.int .u64 x34)), (113, (bv (decide (IntKind.wrap .u64 (x34 * (andV (shlV p2 (IntKind.wrap .u64 (t9))) 4294967295)) > IntKind.wrap .u64 ((IntKind.wrap .u64 (4294967296 * x33)) + (andV (shlV p1 (IntKind.wrap .u64 (t9))) 4294967295))))))] (by kernel_rfl) ?_
    exact WL.toV K (decide (IntKind.wrap .u64 (x34 * (andV (shlV p2 (IntKind.wrap .u64 (t9))) 4294967295)) > IntKind.wrap .u64 ((IntKind.wrap .u64 (4294967296 * x33)) + (andV (shlV p1 (IntKind.wrap .u64 (t9))) 4294967295)))) [113, 2, 8, 9, 10, 14, 15, 16, 17, 18] rfl (by first | (rw [h41]; done) | (rw [h41]; rfl))
   rintro b42 rfl
   refine WL.done rfl (WX.next ?_)
   rcases br_some hl40 with ⟨h43, hl40⟩ | ⟨h43, hl40⟩
   ·refine WC.condT2 (fun fb => by kernel_rfl) h43 ?_
    refine WC.skip (WX.next (WC.block (WC.seq (WC.region ?_))))
    refine sg 3 [] e2 [(2, (.int .u64 (shlV p2 (IntKind.wrap .u64 (t9))))), (8, (.int .u64 (IntKind.wrap .u64 (t9)))), (9, (.int .u64 (shrV (shlV p2 (IntKind.wrap .u64 (t9))) 32))), (10, (.int .u64 (andV (shlV p2 (IntKind.wrap .u64 (t9))) 4294967295))), (14, (.int .u64 (andV (shlV p1 (IntKind.wrap .u64 (t9))) 4294967295))), (15, (.int .u64 x19)), (16, (.int .u64 x33)), (17, (.int .u64 (IntKind.wrap .u64 ((IntKind.wrap .u64 ((IntKind.wrap .u64 ((orV (shlV p0 (IntKind.wrap .u64 (t9))) (shrV p1 (IntKind.wrap .u64 (64 - (IntKind.wrap .u64 (t9)))))) * 4294967296)) + (shrV (shlV p1 (IntKind.wrap .u64 (t9))) 32))) - (IntKind.wrap .u64 (x19 * (shlV p2 (IntKind.wrap .u64 (t9))))))))), (18, (.int .u64 (IntKind.wrap .u64 (x34 - 1))))] (by kernel_rfl) ?_
    refine WL.done rfl (WX.next (WC.seq (WC.region ?_)))
    refine sg 4 [] e2 [(2, (.int .u64 (shlV p2 (IntKind.wrap .u64 (t9))))), (8, (.int .u64 (IntKind.wrap .u64 (t9)))), (9, (.int .u64 (shrV (shlV p2 (IntKind.wrap .u64 (t9))) 32))), (10, (.int .u64 (andV (shlV p2 (IntKind.wrap .u64 (t9))) 4294967295))), (14, (.int .u64 (andV (shlV p1 (IntKind.wrap .u64 (t9))) 4294967295))), (15, (.int .u64 x19)), (16, (.int .u64 (IntKind.wrap .u64 (x33 + (shrV (shlV p2 (IntKind.wrap .u64 (t9))) 32))))), (17, (.int .u64 (IntKind.wrap .u64 ((IntKind.wrap .u64 ((IntKind.wrap .u64 ((orV (shlV p0 (IntKind.wrap .u64 (t9))) (shrV p1 (IntKind.wrap .u64 (64 - (IntKind.wrap .u64 (t9)))))) * 4294967296)) + (shrV (shlV p1 (IntKind.wrap .u64 (t9))) 32))) - (IntKind.wrap .u64 (x19 * (shlV p2 (IntKind.wrap .u64 (t9))))))))), (18, (.int .u64 (IntKind.wrap .u64 (x34 - 1))))] (by kernel_rfl) ?_
    refine WL.done rfl (WX.next (WC.seq (WC.region ?_)))
    refine sg 2 [] [2, 8, 9, 10, 14, 15, 16, 17, 18, 120] [(2, (.int .u64 (shlV p2 (IntKind.wrap .u64 (t9))))), (8, (.int .u64 (IntKind.wrap .u64 (t9)))), (9, (.int .u64 (shrV (shlV p2 (IntKind.wrap .u64 (t9))) 32))), (10, (.int .u64 (andV (shlV p2 (IntKind.wrap .u64 (t9))) 4294967295))), (14, (.int .u64 (andV (shlV p1 (IntKind.wrap .u64 (t9))) 4294967295))), (15, (.int .u64 x19)), (16, (.int .u64 (IntKind.wrap .u64 (x33 + (shrV (shlV p2 (IntKind.wrap .u64 (t9))) 32))))), (17, (.int .u64 (IntKind.wrap .u64 ((IntKind.wrap .u64 ((IntKind.wrap .u64 ((orV (shlV p0 (IntKind.wrap .u64 (t9))) (shrV p1 (IntKind.wrap .u64 (64 - (IntKind.wrap .u64 (t9)))))) * 4294967296)) + (shrV (shlV p1 (IntKind.wrap .u64 (t9))) 32))) - (IntKind.wrap .u64 (x19 * (shlV p2 (IntKind.wrap .u64 (t9))))))))), (18, (.int .u64 (IntKind.wrap .u64 (x34 - 1)))), (120, (bv (decide (IntKind.wrap .u64 (x33 + (shrV (shlV p2 (IntKind.wrap .u64 (t9))) 32)) ≥ 4294967296))))] (by kernel_rfl) ?_
    refine WL.done rfl (WX.next ?_)
    rcases br_some hl40 with ⟨h44, hl40⟩ | ⟨h44, hl40⟩
    ·refine WC.condT2 (fun fb => by kernel_rfl) h44 ?_
     refine WC.exit ?_
     injection hl40 with hl40
     exact WX.blockPast (by decide) (WX.thenX (WX.blockHere (WX.to Kx35 (IntKind.wrap .u64 (x34 - 1)) [2, 8, 14, 15, 17, 18] rfl ⟨(hS39.subR []).sub [] (by decide), hl40.symm⟩)))
    refine WC.condF2 (fun fb => by kernel_rfl) h44 ?_
    refine WC.skip ?_
    exact WX.blockN (WX.again k37 (Nat.lt_succ_self _) (IntKind.wrap .u64 (x33 + (shrV (shlV p2 (IntKind.wrap .u64 (t9))) 32)), IntKind.wrap .u64 (x34 - 1)) e2 rfl ⟨(hS39.subR []).sub [] (by decide), hl40⟩)
   refine WC.condF2 (fun fb => by kernel_rfl) h43 ?_
   refine WC.exit ?_
   injection hl40 with hl40
   exact WX.thenX (WX.thenX (WX.blockHere (WX.to Kx35 x34 [2, 8, 14, 15, 17, 18] rfl ⟨(hS39.subR []).sub [] (by decide), hl40.symm⟩)))
 rintro y48 w45 ⟨hS46, hq47⟩
 subst hq47
 refine WX.next (WC.seq (WC.region ?_))
 refine seg 16 [] [6, 7] [(6, (.int .u64 (IntKind.wrap .u64 ((IntKind.wrap .u64 (x19 * 4294967296)) + x35)))), (7, (.int .u64 (shrV (IntKind.wrap .u64 ((IntKind.wrap .u64 ((IntKind.wrap .u64 ((IntKind.wrap .u64 ((IntKind.wrap .u64 ((IntKind.wrap .u64 ((orV (shlV p0 (IntKind.wrap .u64 (t9))) (shrV p1 (IntKind.wrap .u64 (64 - (IntKind.wrap .u64 (t9)))))) * 4294967296)) + (shrV (shlV p1 (IntKind.wrap .u64 (t9))) 32))) - (IntKind.wrap .u64 (x19 * (shlV p2 (IntKind.wrap .u64 (t9))))))) * 4294967296)) + (andV (shlV p1 (IntKind.wrap .u64 (t9))) 4294967295))) - (IntKind.wrap .u64 (x35 * (shlV p2 (IntKind.wrap .u64 (t9))))))) (IntKind.wrap .u64 (t9)))))] [.idx (some ⟨0, 0, none⟩) (IntKind.wrap .u64 (t9)) 64] (fun fb => by kernel_rfl) rfl ⟨⟨h14.1, h14.2, rfl⟩, trivial⟩ ?_
 refine WL.done rfl (WX.next ?_)
 refine WC.ret ?_
 injection hf with hf
 subst hf
 exact WX.ret_ [] (.tuple #[(.int .u64 (IntKind.wrap .u64 ((IntKind.wrap .u64 (x19 * 4294967296)) + x35))), (.int .u64 (shrV (IntKind.wrap .u64 ((IntKind.wrap .u64 ((IntKind.wrap .u64 ((IntKind.wrap .u64 ((IntKind.wrap .u64 ((IntKind.wrap .u64 ((orV (shlV p0 (IntKind.wrap .u64 (t9))) (shrV p1 (IntKind.wrap .u64 (64 - (IntKind.wrap .u64 (t9)))))) * 4294967296)) + (shrV (shlV p1 (IntKind.wrap .u64 (t9))) 32))) - (IntKind.wrap .u64 (x19 * (shlV p2 (IntKind.wrap .u64 (t9))))))) * 4294967296)) + (andV (shlV p1 (IntKind.wrap .u64 (t9))) 4294967295))) - (IntKind.wrap .u64 (x35 * (shlV p2 (IntKind.wrap .u64 (t9))))))) (IntKind.wrap .u64 (t9))))]) [] (fun fb => by kernel_rfl) trivial ⟨_, rfl, rfl, hS46.keep⟩
theorem weight_product_calls (k : Nat) (p0 : Int) (p1 : Int) (p2 : List Int) (Aa : Option Addr) (ca : Nat) (r : Int) (w : World) (hR0 : RO NoS w (rowR encInt Aa ca p2)) (hf : weight_product k p0 p1 p2 = some r) :
  CallsR Tryz.prog 63 #[(.int .u64 p0), (iv p1), (sv Aa p2 ca)] w (fun v w' => v = (.int .u64 r) ∧ Keeps NoS w w') := by
 have hS : St NoS w w [rowR encInt Aa ca p2] [] := St.init (ro_cons hR0 (ro_nil _ _))
 refine enter 56 Tryz.func63 rfl Tryz.ntmps63 rfl ?_
 unfold weight_product at hf
 refine WC.seq (WC.region ?_)
 refine sg 1 [] [0, 1, 2] [(0, (.int .u64 p0)), (1, (iv p1)), (2, (sv Aa p2 ca))] (by kernel_rfl) ?_
 refine WL.done rfl (WX.next (WC.seq (WC.region ?_)))
 refine sg 1 [] [0, 1, 2, 7] [(0, (.int .u64 p0)), (1, (iv p1)), (2, (sv Aa p2 ca)), (7, (.int .u64 1))] (by kernel_rfl) ?_
 refine WL.done rfl (WX.next (WC.seq (WC.seq (WC.region ?_))))
 refine sg 3 [] [0, 1, 7, 13, 14, 15] [(0, (.int .u64 p0)), (1, (iv p1)), (7, (.int .u64 1)), (13, (sv Aa p2 ca)), (14, (iv (p2.length : Int))), (15, (iv 0))] (by kernel_rfl) ?_
 refine WL.done rfl (WX.next ?_)
 obtain ⟨x6, hx7, hf⟩ := bind_some hf
 let e1 : Nat × Value := (14, (iv (p2.length : Int)))
 let e3 : Nat × Value := (13, (sv Aa p2 ca))
 let e6 : List Nat := [0, 1, 7, 13, 14, 15]
 refine WC.cutN (T := Int × Int) (fun t => [(0, (.int .u64 p0)), (1, (iv t.1)), (7, (.int .u64 t.2))]) (fun t w1 => St NoS w w1 [rowR encInt Aa ca p2] [] ∧ x6 = t) (fun Kx6 => ?_) ?_
 ·
  refine WC.block ?_
  refine WC.loop (T := Int × Int × Int) (fun t => [(0, (.int .u64 p0)), (1, (iv t.1)), (7, (.int .u64 t.2.1)), e3, e1, (15, (iv t.2.2))]) (fun n t w1 => St NoS w w1 [rowR encInt Aa ca p2] [] ∧ weight_product.l0 n t.1 t.2.1 t.2.2 p0 p2 = some x6) k (p1, 1, 0) e6 rfl ⟨(hS.subR [0]).sub [] (by decide), hx7⟩ ?_
  rintro k8 ⟨x3, x4, x5⟩ w9 ⟨hS10, hl11⟩
  let e2 := maxI (rdD p2 x5 0) (w64 (0 - (rdD p2 x5 0)))
  let e4 : Nat × Value := (15, (iv x5))
  let e5 := iv (rdD p2 x5 0)
  cases k8 with
  | zero => rw [weight_product.l0] at hl11; cases hl11
  | succ k8 =>
   rw [weight_product.l0] at hl11
   refine WC.seq (WC.region ?_)
   refine sg 1 [] [0, 1, 7, 13, 14, 15, 16] [(0, (.int .u64 p0)), (1, (iv x3)), (7, (.int .u64 x4)), e3, e1, e4, (16, (bv (decide (x5 < (p2.length : Int)))))] (by kernel_rfl) ?_
   refine WL.done rfl (WX.next (WC.seq ?_))
   rcases br_some hl11 with ⟨h12, hl11⟩ | ⟨h12, hl11⟩
   ·refine WC.condT2 (fun fb => by kernel_rfl) h12 ?_
    refine WC.skip (WX.next (WC.seq (WC.block (WC.seq (WC.region ?_)))))
    obtain ⟨h13, hl11⟩ := as_some hl11
    refine seg 3 [.v e5] [0, 1, 7, 9, 13, 14, 15] [(0, (.int .u64 p0)), (1, (iv x3)), (7, (.int .u64 x4)), (9, e5), e3, e1, e4] [.idx Aa x5 p2.length, .cell ((adr Aa).add ((x5).toNat * 1)) e5] (fun fb => by kernel_rfl) rfl ⟨rowR.adr (hS10.rd 0).1 h13.1 h13.2, rowR.cell (hS10.rd 0).1 0 h13.1 h13.2 0 rfl, trivial⟩ ?_
    refine WL.done rfl (WX.next (WC.seq (WC.region ?_)))
    refine sg 6 [] [0, 1, 7, 9, 13, 14, 15, 23, 24] [(0, (.int .u64 p0)), (1, (iv x3)), (7, (.int .u64 x4)), (9, e5), e3, e1, e4, (23, (.int .u64 (IntKind.wrap .u64 e2))), (24, (.int .u64 p0))] (by kernel_rfl) ?_
    obtain ⟨h14, hl11⟩ := as_some hl11
    refine seg 8 [] [0, 1, 7, 9, 10, 13, 14, 15] [(0, (.int .u64 p0)), (1, (iv x3)), (7, (.int .u64 x4)), (9, e5), (10, (.int .u64 (Int.tmod (IntKind.wrap .u64 e2) p0))), e3, e1, e4] [.ne p0] (fun fb => by kernel_rfl) rfl ⟨h14, trivial⟩ ?_
    refine WL.done rfl (WX.next (WC.seq (WC.seq (WC.region ?_))))
    refine sg 2 [] [0, 1, 7, 10, 13, 14, 15, 27] [(0, (.int .u64 p0)), (1, (iv x3)), (7, (.int .u64 x4)), (10, (.int .u64 (Int.tmod (IntKind.wrap .u64 e2) p0))), e3, e1, e4, (27, (bv (decide ((rdD p2 x5 0) < 0))))] (by kernel_rfl) ?_
    refine WL.done rfl (WX.next ?_)
    obtain ⟨x15, hx16, hl11⟩ := bind_some hl11
    refine WC.cutN (T := Int) (fun t => [(0, (.int .u64 p0)), (1, (iv t)), (7, (.int .u64 x4)), (10, (.int .u64 (Int.tmod (IntKind.wrap .u64 e2) p0))), e3, e1, e4]) (fun t w1 => St NoS w w1 [rowR encInt Aa ca p2] [] ∧ x15 = t) (fun Kx15 => ?_) ?_
    ·
     rcases br_some hx16 with ⟨h17, hx16⟩ | ⟨h17, hx16⟩
     ·refine WC.condT2 (fun fb => by kernel_rfl) h17 ?_
      refine WC.region ?_
      refine sg 3 [] [0, 1, 7, 10, 13, 14, 15] [(0, (.int .u64 p0)), (1, (iv (w64 (0 - x3)))), (7, (.int .u64 x4)), (10, (.int .u64 (Int.tmod (IntKind.wrap .u64 e2) p0))), e3, e1, e4] (by kernel_rfl) ?_
      refine WL.done rfl ?_
      injection hx16 with hx16
      exact WX.to Kx15 (w64 (0 - x3)) [0, 1, 7, 10, 13, 14, 15] rfl ⟨(hS10.subR [0]).sub [] (by decide), hx16.symm⟩
     refine WC.condF2 (fun fb => by kernel_rfl) h17 ?_
     refine WC.skip ?_
     injection hx16 with hx16
     exact WX.to Kx15 x3 [0, 1, 7, 10, 13, 14, 15] rfl ⟨(hS10.subR [0]).sub [] (by decide), hx16.symm⟩
    rintro y21 w18 ⟨hS19, hq20⟩
    subst hq20
    refine WX.next (WC.seq (WC.region ?_))
    refine sg 2 [] [0, 1, 13, 14, 15, 31, 32] [(0, (.int .u64 p0)), (1, (iv x15)), e3, e1, e4, (31, (.int .u64 x4)), (32, (.int .u64 (Int.tmod (IntKind.wrap .u64 e2) p0)))] (by kernel_rfl) ?_
    obtain ⟨t22, ht23, hl11⟩ := bind_some hl11
    refine WL.call (some 33) 85 #[(.int .u64 x4), (.int .u64 (Int.tmod (IntKind.wrap .u64 e2) p0))] (fun fb => by kernel_rfl) (bits_Mul64_calls x4 (Int.tmod (IntKind.wrap .u64 e2) p0) t22 _ ht23) (fun v w24 hR25 => ?_)
    obtain ⟨rfl, hk_⟩ := hR25
    have hS26 := hS19.keepN hk_
    refine ⟨trivial, ?_⟩
    refine sg 8 [] [0, 1, 11, 12, 13, 14, 15] [(0, (.int .u64 p0)), (1, (iv x15)), (11, (.int .u64 t22.1)), (12, (.int .u64 t22.2)), e3, e1, e4] (by kernel_rfl) ?_
    refine WL.done rfl (WX.next (WC.region ?_))
    refine seg 5 [] [0, 1, 13, 14, 15, 39, 40, 41] [(0, (.int .u64 p0)), (1, (iv x15)), e3, e1, e4, (39, (.int .u64 (Int.tmod t22.1 p0))), (40, (.int .u64 t22.2)), (41, (.int .u64 p0))] [.ne p0] (fun fb => by kernel_rfl) rfl ⟨h14, trivial⟩ ?_
    obtain ⟨t27, ht28, hl11⟩ := bind_some hl11
    refine WL.call (some 42) 86 #[(.int .u64 (Int.tmod t22.1 p0)), (.int .u64 t22.2), (.int .u64 p0)] (fun fb => by kernel_rfl) (bits_Div64_calls _ (Int.tmod t22.1 p0) t22.2 p0 t27 _ ht28) (fun v w29 hR30 => ?_)
    obtain ⟨rfl, hk_⟩ := hR30
    have hS31 := hS26.keepN hk_
    refine ⟨trivial, ?_⟩
    refine sg 10 [] e6 [(0, (.int .u64 p0)), (1, (iv x15)), (7, (.int .u64 t27.2)), e3, e1, e4] (by kernel_rfl) ?_
    refine WL.done rfl ?_
    refine WX.blockN (WX.next ?_)
    refine WC.region ?_
    refine sg 2 [] e6 [(0, (.int .u64 p0)), (1, (iv x15)), (7, (.int .u64 t27.2)), e3, e1, (15, (iv (w64 (x5 + 1))))] (by kernel_rfl) ?_
    refine WL.done rfl ?_
    exact WX.again k8 (Nat.lt_succ_self _) (x15, t27.2, w64 (x5 + 1)) e6 rfl ⟨(hS31.subR [0]).sub [] (by decide), hl11⟩
   refine WC.condF2 (fun fb => by kernel_rfl) h12 ?_
   refine WC.exit ?_
   injection hl11 with hl11
   exact WX.thenX (WX.thenX (WX.blockHere (WX.to Kx6 (x3, x4) [0, 1, 7] rfl ⟨(hS10.subR [0]).sub [] (by decide), hl11.symm⟩)))
 rintro y35 w32 ⟨hS33, hq34⟩
 subst hq34
 refine WX.next (WC.seq (WC.seq (WC.region ?_)))
 refine sg 3 [] [0, 7, 48] [(0, (.int .u64 p0)), (7, (.int .u64 x6.2)), (48, (bv (decide (x6.1 < 0))))] (by kernel_rfl) ?_
 refine WL.cutV (T := Bool) 6 (fun t => [(51, (bv t)), (0, (.int .u64 p0)), (7, (.int .u64 x6.2))]) (fun t => ((decide (x6.1 < 0)) && (x6.2 != 0)) = t) (fun K => ?_) ?_
 ·
  rcases Bool.eq_false_or_eq_true (decide (x6.1 < 0)) with h36 | h36
  ·
   refine WL.setB 48 h36 rfl ?_
   refine sg 6 [] [0, 7, 51] [(0, (.int .u64 p0)), (7, (.int .u64 x6.2)), (51, (bv (x6.2 != 0)))] (by kernel_rfl) ?_
   exact WL.toV K (x6.2 != 0) [51, 0, 7] rfl (by first | (rw [h36]; done) | (rw [h36]; rfl))
  refine WL.setB 48 h36 rfl ?_
  refine sg 6 [] [0, 7, 51] [(0, (.int .u64 p0)), (7, (.int .u64 x6.2)), (51, (bv false))] (by kernel_rfl) ?_
  exact WL.toV K false [51, 0, 7] rfl (by first | (rw [h36]; done) | (rw [h36]; rfl))
 rintro b37 rfl
 refine WL.done rfl (WX.next ?_)
 obtain ⟨x38, hx39, hf⟩ := bind_some hf
 refine WC.cutN (T := Int) (fun t => [(7, (.int .u64 t))]) (fun t w1 => St NoS w w1 [rowR encInt Aa ca p2] [] ∧ x38 = t) (fun Kx38 => ?_) ?_
 ·
  rcases br_some hx39 with ⟨h40, hx39⟩ | ⟨h40, hx39⟩
  ·refine WC.condT2 (fun fb => by kernel_rfl) h40 ?_
   refine WC.region ?_
   refine sg 4 [] [7] [(7, (.int .u64 (IntKind.wrap .u64 (p0 - x6.2))))] (by kernel_rfl) ?_
   refine WL.done rfl ?_
   injection hx39 with hx39
   exact WX.to Kx38 (IntKind.wrap .u64 (p0 - x6.2)) [7] rfl ⟨(hS33.subR [0]).sub [] (by decide), hx39.symm⟩
  refine WC.condF2 (fun fb => by kernel_rfl) h40 ?_
  refine WC.skip ?_
  injection hx39 with hx39
  exact WX.to Kx38 x6.2 [7] rfl ⟨(hS33.subR [0]).sub [] (by decide), hx39.symm⟩
 rintro y44 w41 ⟨hS42, hq43⟩
 subst hq43
 refine WX.next (WC.seq (WC.region ?_))
 refine sg 2 [] [6] [(6, (.int .u64 x38))] (by kernel_rfl) ?_
 refine WL.done rfl (WX.next ?_)
 refine WC.ret ?_
 injection hf with hf
 subst hf
 exact WX.ret_ [] (.int .u64 x38) [] (fun fb => by kernel_rfl) trivial ⟨_, rfl, rfl, hS42.keep⟩
end Gp
