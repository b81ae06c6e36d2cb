/- Walks: each function of the program computes its plain function. -/
import Derived.Test.YtcmgcacpmbldeaaDoorGx0
set_option linter.unusedVariables false
set_option linter.unusedSimpArgs false
namespace Gp
open Go Gw Go.Proofs
theorem tile_changedPattern_at1_calls (k : Nat) (p0 : Pattern) (A_p0_Cells : Option Addr) (c_p0_Cells : Nat) (r : Pattern × Int) (w : World) (hR0 : RO NoS w (rowR encInt A_p0_Cells c_p0_Cells p0.Cells)) (hf : tile_changedPattern_at1 k p0 = some r) :
    CallsR Tryd.prog 53 #[(.agg #[(.int .i64 p0.Width), (.int .i64 p0.Height), (.slice A_p0_Cells p0.Cells.length c_p0_Cells)]), (.int .i64 1)] w (fun v w' => ∃ (A1_ : Option Addr), ∃ (c1_ : Nat), v = (.tuple #[(.agg #[(.int .i64 r.1.Width), (.int .i64 r.1.Height), (.slice A1_ r.1.Cells.length c1_)]), (.int .i64 r.2)]) ∧ St NoS w w' [] [rowO 3 encInt A1_ c1_ r.1.Cells]) := by
  have hS : St NoS w w [rowR encInt A_p0_Cells c_p0_Cells p0.Cells] [] := St.init (ro_cons hR0 (ro_nil _ _))
  refine enter 68 Tryd.func53 rfl Tryd.ntmps53 rfl ?_
  unfold tile_changedPattern_at1 at hf
  refine WC.seq ?_
  refine WC.region ?_
  refine WL.new hS 2 [] (fun g => (.pointer (some ⟨g, 0, none⟩))) (.cells #[(.int .i64 p0.Width), (.int .i64 p0.Height), (.slice A_p0_Cells p0.Cells.length c_p0_Cells)] 35 (0, 0)) [] (fun fb g => by kernel_rfl) trivial (fun g2276 w2277 hS2278 => ?_)
  refine ⟨trivial, ?_⟩
  refine WL.new hS2278 4 [] (fun g => (.pointer (some ⟨g, 0, none⟩))) (.cells #[(.int .i64 0), (.int .i64 0), (.slice none 0 0)] 35 (0, 0)) [] (fun fb g => by kernel_rfl) trivial (fun g2280 w2281 hS2282 => ?_)
  refine ⟨trivial, ?_⟩
  refine seg 3 [] [1, 2, 4] [(1, (.int .i64 1)), (2, (.pointer (some ⟨g2276, 0, none⟩))), (4, (.pointer (some ⟨g2280, 0, none⟩)))] [] (fun fb => by kernel_rfl) rfl trivial ?_
  refine WL.done rfl ?_
  refine WX.next ?_
  refine WC.seq ?_
  refine WC.seq ?_
  refine WC.region ?_
  refine seg 1 [.v (.int .i64 p0.Width), .v (.int .i64 p0.Height), .v (.slice A_p0_Cells p0.Cells.length c_p0_Cells)] [1, 2, 4, 12] [(1, (.int .i64 1)), (2, (.pointer (some ⟨g2276, 0, none⟩))), (4, (.pointer (some ⟨g2280, 0, none⟩))), (12, (.agg #[(.int .i64 p0.Width), (.int .i64 p0.Height), (.slice A_p0_Cells p0.Cells.length c_p0_Cells)]))] [.cell ⟨g2276, 0, none⟩ (.int .i64 p0.Width), .cell ⟨g2276, 1, none⟩ (.int .i64 p0.Height), .cell ⟨g2276, 2, none⟩ (.slice A_p0_Cells p0.Cells.length c_p0_Cells)] (fun fb => by kernel_rfl) rfl ⟨hS2282.cell 1 rfl 0 rfl, hS2282.cell 1 rfl 1 rfl, hS2282.cell 1 rfl 2 rfl, trivial⟩ ?_
  obtain ⟨t2284, ht2285, hf⟩ := bind_some hf
  refine WL.call (some 13) 54 #[(.agg #[(.int .i64 p0.Width), (.int .i64 p0.Height), (.slice A_p0_Cells p0.Cells.length c_p0_Cells)])] (fun fb => by kernel_rfl) (tile_Form_calls p0 A_p0_Cells c_p0_Cells t2284 _ (hS2282.rd 0) ht2285) (fun v w2286 hR2287 => ?_)
  obtain ⟨rfl, hk_⟩ := hR2287
  have hS2288 := hS2282.keepN hk_
  refine ⟨trivial, ?_⟩
  refine seg 3 [] [1, 2, 4, 14] [(1, (.int .i64 1)), (2, (.pointer (some ⟨g2276, 0, none⟩))), (4, (.pointer (some ⟨g2280, 0, none⟩))), (14, (.bool (!t2284)))] [] (fun fb => by kernel_rfl) rfl trivial ?_
  refine WL.done rfl ?_
  refine WX.next ?_
  rcases br_some hf with ⟨h2289, hf⟩ | ⟨h2289, hf⟩
  · refine WC.condT2 (fun fb => by kernel_rfl) h2289 ?_
    refine WC.seq ?_
    refine WC.region ?_
    refine seg 1 [] [4, 15] [(4, (.pointer (some ⟨g2280, 0, none⟩))), (15, (.agg #[(.int .i64 0), (.int .i64 0), (.slice none 0 0)]))] [] (fun fb => by kernel_rfl) rfl trivial ?_
    refine WL.store hS2288 0 rfl [(0, (.int .i64 0)), (1, (.int .i64 0)), (2, (.slice none 0 0))] #[(.int .i64 0), (.int .i64 0), (.slice none 0 0)] (fun fb => by kernel_rfl) (by kernel_rfl) rfl [1] (by decide) (by decide) (fun w2290 hS2291 => ?_)
    refine ⟨trivial, ?_⟩
    refine seg 3 [] [4, 5] [(4, (.pointer (some ⟨g2280, 0, none⟩))), (5, (.int .i64 1))] [] (fun fb => by kernel_rfl) rfl trivial ?_
    refine WL.done rfl ?_
    refine WX.next ?_
    refine WC.ret ?_
    have hS2292 := hS2291.nilrow 3 encInt
    injection hf with hf
    subst hf
    exact WX.thenR (WX.ret_ [.v (.int .i64 0), .v (.int .i64 0), .v (.slice none 0 0)] (.tuple #[(.agg #[(.int .i64 0), (.int .i64 0), (.slice none ([] : List Int).length 0)]), (.int .i64 1)]) [.cell ⟨g2280, 0, none⟩ (.int .i64 0), .cell ⟨g2280, 1, none⟩ (.int .i64 0), .cell ⟨g2280, 2, none⟩ (.slice none 0 0)] (fun fb => by kernel_rfl) ⟨hS2291.cell 0 rfl 0 rfl, hS2291.cell 0 rfl 1 rfl, hS2291.cell 0 rfl 2 rfl, trivial⟩ ⟨_, rfl, none, 0, rfl, (hS2292.sub [0] (by decide)).noR⟩)
  refine WC.condF2 (fun fb => by kernel_rfl) h2289 ?_
  refine WC.skip ?_
  refine WX.next ?_
  refine WC.seq ?_
  refine WC.region ?_
  obtain ⟨t2293, ht2294, hf⟩ := bind_some hf
  refine WL.call (some 16) 64 #[] (fun fb => by kernel_rfl) (tile_changes_calls t2293 _ ht2294) (fun v w2295 hR2296 => ?_)
  obtain ⟨rfl, hk_⟩ := hR2296
  have hS2297 := hS2288.keepN hk_
  refine ⟨trivial, ?_⟩
  refine seg 3 [] [2, 4, 18] [(2, (.pointer (some ⟨g2276, 0, none⟩))), (4, (.pointer (some ⟨g2280, 0, none⟩))), (18, (.agg #[(.func (.func 82) #[] #[]), (.func (.func 80) #[] #[]), (.func (.func 83) #[] #[])]))] [] (fun fb => by kernel_rfl) rfl trivial ?_
  refine WL.new hS2297 6 [] (fun g => (.pointer (some ⟨g, 0, none⟩))) (.cells #[.nilFunc, .nilFunc, .nilFunc] 83 (0, 0)) [] (fun fb g => by kernel_rfl) trivial (fun g2298 w2299 hS2300 => ?_)
  refine ⟨trivial, ?_⟩
  refine WL.store hS2300 0 rfl [(0, (.func (.func 82) #[] #[])), (1, (.func (.func 80) #[] #[])), (2, (.func (.func 83) #[] #[]))] #[(.func (.func 82) #[] #[]), (.func (.func 80) #[] #[]), (.func (.func 83) #[] #[])] (fun fb => by kernel_rfl) (by kernel_rfl) rfl [1, 2] (by decide) (by decide) (fun w2302 hS2303 => ?_)
  refine ⟨trivial, ?_⟩
  refine WL.done rfl ?_
  refine WX.next ?_
  refine WC.seq ?_
  refine WC.region ?_
  refine WL.new hS2303 7 [] (fun g => (.pointer (some ⟨g, 0, none⟩))) (.cells #[(.int .i64 0), (.int .i64 0), (.slice none 0 0)] 35 (0, 0)) [] (fun fb g => by kernel_rfl) trivial (fun g2304 w2305 hS2306 => ?_)
  refine ⟨trivial, ?_⟩
  refine WL.done rfl ?_
  refine WX.next ?_
  refine WC.seq ?_
  refine WC.region ?_
  refine seg 6 [.v (.func (.func 80) #[] #[]), .v (.int .i64 p0.Width), .v (.int .i64 p0.Height)] [2, 4, 6, 7, 21, 23, 25] [(2, (.pointer (some ⟨g2276, 0, none⟩))), (4, (.pointer (some ⟨g2280, 0, none⟩))), (6, (.pointer (some ⟨g2298, 0, none⟩))), (7, (.pointer (some ⟨g2304, 0, none⟩))), (21, (.func (.func 80) #[] #[])), (23, (.int .i64 p0.Width)), (25, (.int .i64 p0.Height))] [.cell ⟨g2298, 1, none⟩ (.func (.func 80) #[] #[]), .cell ⟨g2276, 0, none⟩ (.int .i64 p0.Width), .cell ⟨g2276, 1, none⟩ (.int .i64 p0.Height)] (fun fb => by kernel_rfl) rfl ⟨hS2306.cell 1 rfl 1 rfl, hS2306.cell 3 rfl 0 rfl, hS2306.cell 3 rfl 1 rfl, trivial⟩ ?_
  obtain ⟨t2308, ht2309, hf⟩ := bind_some hf
  refine WL.call (some 26) 80 #[(.int .i64 p0.Width), (.int .i64 p0.Height)] (fun fb => by kernel_rfl) (tile_same_calls p0.Width p0.Height t2308 _ ht2309) (fun v w2310 hR2311 => ?_)
  obtain ⟨rfl, hk_⟩ := hR2311
  have hS2312 := hS2306.keepN hk_
  refine ⟨trivial, ?_⟩
  refine seg 11 [] [2, 4, 6, 7, 27, 28, 29] [(2, (.pointer (some ⟨g2276, 0, none⟩))), (4, (.pointer (some ⟨g2280, 0, none⟩))), (6, (.pointer (some ⟨g2298, 0, none⟩))), (7, (.pointer (some ⟨g2304, 0, none⟩))), (27, (.int .i64 t2308.1)), (28, (.int .i64 t2308.2)), (29, (.pointer (some ⟨g2304, 0, none⟩)))] [] (fun fb => by kernel_rfl) rfl trivial ?_
  refine WL.store hS2312 0 rfl [(0, (.int .i64 t2308.1))] #[(.int .i64 t2308.1), (.int .i64 0), (.slice none 0 0)] (fun fb => by kernel_rfl) (by kernel_rfl) rfl [1, 2, 3] (by decide) (by decide) (fun w2313 hS2314 => ?_)
  refine ⟨trivial, ?_⟩
  refine seg 13 [] [2, 4, 6, 7, 28, 30] [(2, (.pointer (some ⟨g2276, 0, none⟩))), (4, (.pointer (some ⟨g2280, 0, none⟩))), (6, (.pointer (some ⟨g2298, 0, none⟩))), (7, (.pointer (some ⟨g2304, 0, none⟩))), (28, (.int .i64 t2308.2)), (30, (.pointer (some ⟨g2304, 1, none⟩)))] [] (fun fb => by kernel_rfl) rfl trivial ?_
  refine WL.store hS2314 0 rfl [(1, (.int .i64 t2308.2))] #[(.int .i64 t2308.1), (.int .i64 t2308.2), (.slice none 0 0)] (fun fb => by kernel_rfl) (by kernel_rfl) rfl [1, 2, 3] (by decide) (by decide) (fun w2315 hS2316 => ?_)
  refine ⟨trivial, ?_⟩
  refine WL.done rfl ?_
  refine WX.next ?_
  refine WC.seq ?_
  refine WC.seq ?_
  refine WC.region ?_
  refine seg 3 [.v (.int .i64 t2308.2)] [2, 4, 6, 7, 32, 33] [(2, (.pointer (some ⟨g2276, 0, none⟩))), (4, (.pointer (some ⟨g2280, 0, none⟩))), (6, (.pointer (some ⟨g2298, 0, none⟩))), (7, (.pointer (some ⟨g2304, 0, none⟩))), (32, (.int .i64 t2308.2)), (33, (.int .i64 0))] [.cell ⟨g2304, 1, none⟩ (.int .i64 t2308.2)] (fun fb => by kernel_rfl) rfl ⟨hS2316.cell 0 rfl 1 rfl, trivial⟩ ?_
  refine WL.done rfl ?_
  refine WX.next ?_
  have hS2586 := hS2316.nilrow 3 encInt
  obtain ⟨x2594, hx2595, hf⟩ := bind_some hf
  refine WC.cutN (T := (List Int) × (Option Addr) × Nat) (fun t => [(4, (.pointer (some ⟨g2280, 0, none⟩))), (7, (.pointer (some ⟨g2304, 0, none⟩)))]) (fun t w1 => St NoS w w1 [rowR encInt A_p0_Cells c_p0_Cells p0.Cells] [blk g2280 (.cells #[(.int .i64 0), (.int .i64 0), (.slice none 0 0)] 35 (0, 0)), blk g2304 (.cells #[(.int .i64 t2308.1), (.int .i64 t2308.2), (.slice t.2.1 t.1.length t.2.2)] 35 (0, 0)), rowO 3 encInt t.2.1 t.2.2 t.1] ∧ x2594 = t.1) (fun Kx2594 => ?_) ?_
  ·
    refine WC.block ?_
    refine WC.loop (T := ((List Int) × Int) × (Option Addr) × Nat) (fun t => [(2, (.pointer (some ⟨g2276, 0, none⟩))), (4, (.pointer (some ⟨g2280, 0, none⟩))), (6, (.pointer (some ⟨g2298, 0, none⟩))), (7, (.pointer (some ⟨g2304, 0, none⟩))), (32, (.int .i64 t2308.2)), (33, (.int .i64 t.1.2))]) (fun n t w1 => St NoS w w1 [rowR encInt A_p0_Cells c_p0_Cells p0.Cells] [blk g2276 (.cells #[(.int .i64 p0.Width), (.int .i64 p0.Height), (.slice A_p0_Cells p0.Cells.length c_p0_Cells)] 35 (0, 0)), blk g2280 (.cells #[(.int .i64 0), (.int .i64 0), (.slice none 0 0)] 35 (0, 0)), blk g2298 (.cells #[(.func (.func 82) #[] #[]), (.func (.func 80) #[] #[]), (.func (.func 83) #[] #[])] 83 (0, 0)), blk g2304 (.cells #[(.int .i64 t2308.1), (.int .i64 t2308.2), (.slice t.2.1 t.1.1.length t.2.2)] 35 (0, 0)), rowO 3 encInt t.2.1 t.2.2 t.1.1] ∧ tile_changedPattern_at1.l0 n t.1.1 t.1.2 p0 t2308 = some x2594) k ((([] : List Int), 0), none, 0) [2, 4, 6, 7, 32, 33] rfl ⟨(hS2586.subR [0]).sub [4, 3, 2, 1, 0] (by decide), hx2595⟩ ?_
    rintro k2596 ⟨⟨l2589, x2590⟩, A2587, c2588⟩ w2597 ⟨hS2598, hl2599⟩
    cases k2596 with
    | zero => rw [tile_changedPattern_at1.l0] at hl2599; cases hl2599
    | succ k2596 =>
      rw [tile_changedPattern_at1.l0] at hl2599
      refine WC.seq ?_
      refine WC.region ?_
      refine seg 1 [] [2, 4, 6, 7, 32, 33, 34] [(2, (.pointer (some ⟨g2276, 0, none⟩))), (4, (.pointer (some ⟨g2280, 0, none⟩))), (6, (.pointer (some ⟨g2298, 0, none⟩))), (7, (.pointer (some ⟨g2304, 0, none⟩))), (32, (.int .i64 t2308.2)), (33, (.int .i64 x2590)), (34, (.bool (decide (x2590 < t2308.2))))] [] (fun fb => by kernel_rfl) rfl trivial ?_
      refine WL.done rfl ?_
      refine WX.next ?_
      refine WC.seq ?_
      rcases br_some hl2599 with ⟨h2600, hl2599⟩ | ⟨h2600, hl2599⟩
      · refine WC.condT2 (fun fb => by kernel_rfl) h2600 ?_
        refine WC.skip ?_
        refine WX.next ?_
        refine WC.seq ?_
        refine WC.block ?_
        refine WC.seq ?_
        refine WC.region ?_
        refine seg 2 [] [2, 4, 6, 7, 8, 32, 33] [(2, (.pointer (some ⟨g2276, 0, none⟩))), (4, (.pointer (some ⟨g2280, 0, none⟩))), (6, (.pointer (some ⟨g2298, 0, none⟩))), (7, (.pointer (some ⟨g2304, 0, none⟩))), (8, (.int .i64 x2590)), (32, (.int .i64 t2308.2)), (33, (.int .i64 x2590))] [] (fun fb => by kernel_rfl) rfl trivial ?_
        refine WL.done rfl ?_
        refine WX.next ?_
        refine WC.seq ?_
        refine WC.region ?_
        refine seg 3 [.v (.int .i64 t2308.1)] [2, 4, 6, 7, 8, 32, 33, 37, 38] [(2, (.pointer (some ⟨g2276, 0, none⟩))), (4, (.pointer (some ⟨g2280, 0, none⟩))), (6, (.pointer (some ⟨g2298, 0, none⟩))), (7, (.pointer (some ⟨g2304, 0, none⟩))), (8, (.int .i64 x2590)), (32, (.int .i64 t2308.2)), (33, (.int .i64 x2590)), (37, (.int .i64 t2308.1)), (38, (.int .i64 0))] [.cell ⟨g2304, 0, none⟩ (.int .i64 t2308.1)] (fun fb => by kernel_rfl) rfl ⟨hS2598.cell 3 rfl 0 rfl, trivial⟩ ?_
        refine WL.done rfl ?_
        refine WX.next ?_
        obtain ⟨x2682, hx2683, hl2599⟩ := bind_some hl2599
        refine WC.cutN (T := (List Int) × (Option Addr) × Nat) (fun t => [(2, (.pointer (some ⟨g2276, 0, none⟩))), (4, (.pointer (some ⟨g2280, 0, none⟩))), (6, (.pointer (some ⟨g2298, 0, none⟩))), (7, (.pointer (some ⟨g2304, 0, none⟩))), (32, (.int .i64 t2308.2)), (33, (.int .i64 x2590))]) (fun t w1 => St NoS w w1 [rowR encInt A_p0_Cells c_p0_Cells p0.Cells] [blk g2276 (.cells #[(.int .i64 p0.Width), (.int .i64 p0.Height), (.slice A_p0_Cells p0.Cells.length c_p0_Cells)] 35 (0, 0)), blk g2280 (.cells #[(.int .i64 0), (.int .i64 0), (.slice none 0 0)] 35 (0, 0)), blk g2298 (.cells #[(.func (.func 82) #[] #[]), (.func (.func 80) #[] #[]), (.func (.func 83) #[] #[])] 83 (0, 0)), blk g2304 (.cells #[(.int .i64 t2308.1), (.int .i64 t2308.2), (.slice t.2.1 t.1.length t.2.2)] 35 (0, 0)), rowO 3 encInt t.2.1 t.2.2 t.1] ∧ x2682 = t.1) (fun Kx2682 => ?_) ?_
        ·
          refine WC.block ?_
          refine WC.loop (T := ((List Int) × Int) × (Option Addr) × Nat) (fun t => [(2, (.pointer (some ⟨g2276, 0, none⟩))), (4, (.pointer (some ⟨g2280, 0, none⟩))), (6, (.pointer (some ⟨g2298, 0, none⟩))), (7, (.pointer (some ⟨g2304, 0, none⟩))), (8, (.int .i64 x2590)), (32, (.int .i64 t2308.2)), (33, (.int .i64 x2590)), (37, (.int .i64 t2308.1)), (38, (.int .i64 t.1.2))]) (fun n t w1 => St NoS w w1 [rowR encInt A_p0_Cells c_p0_Cells p0.Cells] [blk g2276 (.cells #[(.int .i64 p0.Width), (.int .i64 p0.Height), (.slice A_p0_Cells p0.Cells.length c_p0_Cells)] 35 (0, 0)), blk g2280 (.cells #[(.int .i64 0), (.int .i64 0), (.slice none 0 0)] 35 (0, 0)), blk g2298 (.cells #[(.func (.func 82) #[] #[]), (.func (.func 80) #[] #[]), (.func (.func 83) #[] #[])] 83 (0, 0)), blk g2304 (.cells #[(.int .i64 t2308.1), (.int .i64 t2308.2), (.slice t.2.1 t.1.1.length t.2.2)] 35 (0, 0)), rowO 3 encInt t.2.1 t.2.2 t.1.1] ∧ tile_changedPattern_at1.l1 n t.1.1 t.1.2 p0 t2308 x2590 = some x2682) k2596 ((l2589, 0), A2587, c2588) [2, 4, 6, 7, 8, 32, 33, 37, 38] rfl ⟨(hS2598.subR [0]).sub [0, 1, 2, 3, 4] (by decide), hx2683⟩ ?_
          rintro k2684 ⟨⟨l2677, x2678⟩, A2675, c2676⟩ w2685 ⟨hS2686, hl2687⟩
          cases k2684 with
          | zero => rw [tile_changedPattern_at1.l1] at hl2687; cases hl2687
          | succ k2684 =>
            rw [tile_changedPattern_at1.l1] at hl2687
            refine WC.seq ?_
            refine WC.region ?_
            refine seg 1 [] [2, 4, 6, 7, 8, 32, 33, 37, 38, 39] [(2, (.pointer (some ⟨g2276, 0, none⟩))), (4, (.pointer (some ⟨g2280, 0, none⟩))), (6, (.pointer (some ⟨g2298, 0, none⟩))), (7, (.pointer (some ⟨g2304, 0, none⟩))), (8, (.int .i64 x2590)), (32, (.int .i64 t2308.2)), (33, (.int .i64 x2590)), (37, (.int .i64 t2308.1)), (38, (.int .i64 x2678)), (39, (.bool (decide (x2678 < t2308.1))))] [] (fun fb => by kernel_rfl) rfl trivial ?_
            refine WL.done rfl ?_
            refine WX.next ?_
            refine WC.seq ?_
            rcases br_some hl2687 with ⟨h2688, hl2687⟩ | ⟨h2688, hl2687⟩
            · refine WC.condT2 (fun fb => by kernel_rfl) h2688 ?_
              refine WC.skip ?_
              refine WX.next ?_
              refine WC.seq ?_
              refine WC.block ?_
              refine WC.seq ?_
              refine WC.region ?_
              refine seg 2 [] [2, 4, 6, 7, 8, 9, 32, 33, 37, 38] [(2, (.pointer (some ⟨g2276, 0, none⟩))), (4, (.pointer (some ⟨g2280, 0, none⟩))), (6, (.pointer (some ⟨g2298, 0, none⟩))), (7, (.pointer (some ⟨g2304, 0, none⟩))), (8, (.int .i64 x2590)), (9, (.int .i64 x2678)), (32, (.int .i64 t2308.2)), (33, (.int .i64 x2590)), (37, (.int .i64 t2308.1)), (38, (.int .i64 x2678))] [] (fun fb => by kernel_rfl) rfl trivial ?_
              refine WL.done rfl ?_
              refine WX.next ?_
              refine WC.seq ?_
              refine WC.region ?_
              refine seg 5 [.v (.func (.func 83) #[] #[]), .v (.int .i64 p0.Width), .v (.int .i64 p0.Height), .v (.slice A_p0_Cells p0.Cells.length c_p0_Cells)] [2, 4, 6, 7, 8, 32, 33, 37, 38, 43, 44, 45, 46] [(2, (.pointer (some ⟨g2276, 0, none⟩))), (4, (.pointer (some ⟨g2280, 0, none⟩))), (6, (.pointer (some ⟨g2298, 0, none⟩))), (7, (.pointer (some ⟨g2304, 0, none⟩))), (8, (.int .i64 x2590)), (32, (.int .i64 t2308.2)), (33, (.int .i64 x2590)), (37, (.int .i64 t2308.1)), (38, (.int .i64 x2678)), (43, (.func (.func 83) #[] #[])), (44, (.agg #[(.int .i64 p0.Width), (.int .i64 p0.Height), (.slice A_p0_Cells p0.Cells.length c_p0_Cells)])), (45, (.int .i64 x2678)), (46, (.int .i64 x2590))] [.cell ⟨g2298, 2, none⟩ (.func (.func 83) #[] #[]), .cell ⟨g2276, 0, none⟩ (.int .i64 p0.Width), .cell ⟨g2276, 1, none⟩ (.int .i64 p0.Height), .cell ⟨g2276, 2, none⟩ (.slice A_p0_Cells p0.Cells.length c_p0_Cells)] (fun fb => by kernel_rfl) rfl ⟨hS2686.cell 2 rfl 2 rfl, hS2686.cell 0 rfl 0 rfl, hS2686.cell 0 rfl 1 rfl, hS2686.cell 0 rfl 2 rfl, trivial⟩ ?_
              obtain ⟨t2689, ht2690, hl2687⟩ := bind_some hl2687
              refine WL.call (some 47) 83 #[(.agg #[(.int .i64 p0.Width), (.int .i64 p0.Height), (.slice A_p0_Cells p0.Cells.length c_p0_Cells)]), (.int .i64 x2678), (.int .i64 x2590)] (fun fb => by kernel_rfl) (tile_changes_4_calls p0 x2678 x2590 A_p0_Cells c_p0_Cells t2689 _ (hS2686.rd 0) ht2690) (fun v w2691 hR2692 => ?_)
              obtain ⟨rfl, hk_⟩ := hR2692
              have hS2693 := hS2686.keepN hk_
              refine ⟨trivial, ?_⟩
              refine seg 11 [] [2, 4, 6, 7, 8, 10, 11, 32, 33, 37, 38] [(2, (.pointer (some ⟨g2276, 0, none⟩))), (4, (.pointer (some ⟨g2280, 0, none⟩))), (6, (.pointer (some ⟨g2298, 0, none⟩))), (7, (.pointer (some ⟨g2304, 0, none⟩))), (8, (.int .i64 x2590)), (10, (.int .i64 t2689.1)), (11, (.int .i64 t2689.2)), (32, (.int .i64 t2308.2)), (33, (.int .i64 x2590)), (37, (.int .i64 t2308.1)), (38, (.int .i64 x2678))] [] (fun fb => by kernel_rfl) rfl trivial ?_
              refine WL.done rfl ?_
              refine WX.next ?_
              obtain ⟨h2710, hl2687⟩ := as_some hl2687
              refine WC.regionD ([(1, ⟨g2304, 2, none⟩, (.slice A2675 l2677.length c2676)), (3, ⟨g2276, 2, none⟩, (.slice A_p0_Cells p0.Cells.length c_p0_Cells)), (6, ⟨g2276, 0, none⟩, (.int .i64 p0.Width)), (11, ((adr A_p0_Cells).add ((w64 ((w64 (t2689.2 * p0.Width)) + t2689.1)).toNat * 1)), (.int .i64 (rdD p0.Cells (w64 ((w64 (t2689.2 * p0.Width)) + t2689.1)) 0)))], [0, 1, 2, 3, 4, 5, 6, 7, 8, 9, 10, 11, 14], [[], [0], [], [2], [], [], [5], [4, 5, 6], [], [4, 5, 6, 7, 8], [2, 3, 4, 5, 6, 7, 8, 9], [2, 3, 4, 5, 6, 7, 8, 9, 10], [2, 3, 4, 5, 6, 7, 8, 9, 10, 11], [0, 1, 2, 3, 4, 5, 6, 7, 8, 9, 10, 11, 12], [0, 1, 2, 3, 4, 5, 6, 7, 8, 9, 10, 11, 12, 13], [0, 1, 2, 3, 4, 5, 6, 7, 8, 9, 10, 11, 12, 13, 14]]) [[0, 1, 2, 3, 4, 5, 6, 7, 8, 9, 10, 11, 12, 13, 14, 15]] (by kernel_rfl) (by kernel_rfl) (NoPanic.block (NoPanic.seq (NoPanic.seq (NoPanic.block (NoPanic.block (NoPanic.seq (NoPanic.seq (NoPanic.block (NoPanic.seq (NoPanic.body)))))))))) ?_
              have hS2708 := hS2693.drew
              revert hS2708
              generalize World.drew w2691 = w2707
              intro hS2708
              refine ⟨⟨hS2708.cell 3 rfl 2 rfl, hS2708.cell 0 rfl 2 rfl, hS2708.cell 0 rfl 0 rfl, rowR.cell (hS2708.rd 0).1 0 h2710.1 h2710.2 0 rfl, trivial⟩, forallC ?_ (forallN)⟩
              refine segF 12 [.v (.slice A2675 l2677.length c2676), .v (.slice A_p0_Cells p0.Cells.length c_p0_Cells), .v (.int .i64 p0.Width), .v (.int .i64 (rdD p0.Cells (w64 ((w64 (t2689.2 * p0.Width)) + t2689.1)) 0))] [2, 4, 6, 7, 8, 32, 33, 37, 38, 51, 61] [(2, (.pointer (some ⟨g2276, 0, none⟩))), (4, (.pointer (some ⟨g2280, 0, none⟩))), (6, (.pointer (some ⟨g2298, 0, none⟩))), (7, (.pointer (some ⟨g2304, 0, none⟩))), (8, (.int .i64 x2590)), (32, (.int .i64 t2308.2)), (33, (.int .i64 x2590)), (37, (.int .i64 t2308.1)), (38, (.int .i64 x2678)), (51, (.slice A2675 l2677.length c2676)), (61, (.int .i64 (rdD p0.Cells (w64 ((w64 (t2689.2 * p0.Width)) + t2689.1)) 0)))] [.idx A_p0_Cells (w64 ((w64 (t2689.2 * p0.Width)) + t2689.1)) p0.Cells.length] [0, 1, 2, 3] [(1, ⟨g2304, 2, none⟩, (.slice A2675 l2677.length c2676)), (3, ⟨g2276, 2, none⟩, (.slice A_p0_Cells p0.Cells.length c_p0_Cells)), (6, ⟨g2276, 0, none⟩, (.int .i64 p0.Width)), (11, ((adr A_p0_Cells).add ((w64 ((w64 (t2689.2 * p0.Width)) + t2689.1)).toNat * 1)), (.int .i64 (rdD p0.Cells (w64 ((w64 (t2689.2 * p0.Width)) + t2689.1)) 0)))] (fun fb => by kernel_rfl) rfl ⟨rowR.adr (hS2708.rd 0).1 h2710.1 h2710.2, trivial⟩ rfl ?_
              refine WL.new hS2708 62 [] (fun g => (.slice (some ⟨g, 0, none⟩) 1 1)) (.cells #[(.int .i64 (rdD p0.Cells (w64 ((w64 (t2689.2 * p0.Width)) + t2689.1)) 0))] 3 (0, 0)) [] (fun fb g => by kernel_rfl) trivial (fun g2711 w2712 hS2713 => ?_)
              refine ⟨⟨hS2713.cell 4 rfl 2 rfl, trivial⟩, ?_⟩
              have hS2715 : St NoS w w2712 [rowR encInt A_p0_Cells c_p0_Cells p0.Cells] [rowO 3 encInt (some ⟨g2711, 0, none⟩) 1 [(rdD p0.Cells (w64 ((w64 (t2689.2 * p0.Width)) + t2689.1)) 0)], blk g2276 (.cells #[(.int .i64 p0.Width), (.int .i64 p0.Height), (.slice A_p0_Cells p0.Cells.length c_p0_Cells)] 35 (0, 0)), blk g2280 (.cells #[(.int .i64 0), (.int .i64 0), (.slice none 0 0)] 35 (0, 0)), blk g2298 (.cells #[(.func (.func 82) #[] #[]), (.func (.func 80) #[] #[]), (.func (.func 83) #[] #[])] 83 (0, 0)), blk g2304 (.cells #[(.int .i64 t2308.1), (.int .i64 t2308.2), (.slice A2675 l2677.length c2676)] 35 (0, 0)), rowO 3 encInt A2675 c2676 l2677] := hS2713.map1 0 _ (fun h => rowO.ofBlk h rfl (Nat.le_of_ble_eq_true (by kernel_rfl))) (fun _ h => by obtain ⟨_, h1, h2⟩ := h; injection h1 with h1; subst h1; exact h2) [1, 2, 3, 4, 5] (by decide) (by decide)
              obtain ⟨h2716, hl2687⟩ := as_some hl2687
              refine WL.append hS2715 5 (d := 63) (tS := 33) (z := (.int .i64 0)) (bytes := 8) (c2 := 1) rfl (fun fb => by kernel_rfl) (rowO.rd (hS2715.own 0).1) (by kernel_rfl) (by kernel_rfl) rfl (by decide) h2716 (by decide) [0, 1, 2, 3, 4] (by decide) (by decide) (fun A2717 c2718 w2719 hS2720 => ?_)
              refine ⟨trivial, ?_⟩
              refine seg 15 [] [2, 4, 6, 7, 8, 32, 33, 37, 38, 63, 64] [(2, (.pointer (some ⟨g2276, 0, none⟩))), (4, (.pointer (some ⟨g2280, 0, none⟩))), (6, (.pointer (some ⟨g2298, 0, none⟩))), (7, (.pointer (some ⟨g2304, 0, none⟩))), (8, (.int .i64 x2590)), (32, (.int .i64 t2308.2)), (33, (.int .i64 x2590)), (37, (.int .i64 t2308.1)), (38, (.int .i64 x2678)), (63, (.slice A2717 (l2677 ++ [(rdD p0.Cells (w64 ((w64 (t2689.2 * p0.Width)) + t2689.1)) 0)]).length c2718)), (64, (.pointer (some ⟨g2304, 2, none⟩)))] [] (fun fb => by kernel_rfl) rfl trivial ?_
              refine WL.store hS2720 5 rfl [(2, (.slice A2717 (l2677 ++ [(rdD p0.Cells (w64 ((w64 (t2689.2 * p0.Width)) + t2689.1)) 0)]).length c2718))] #[(.int .i64 t2308.1), (.int .i64 t2308.2), (.slice A2717 (l2677 ++ [(rdD p0.Cells (w64 ((w64 (t2689.2 * p0.Width)) + t2689.1)) 0)]).length c2718)] (fun fb => by kernel_rfl) (by kernel_rfl) rfl [0, 1, 2, 3, 4] (by decide) (by decide) (fun w2721 hS2722 => ?_)
              refine ⟨trivial, ?_⟩
              refine WL.done rfl ?_
              refine WX.blockN (WX.next ?_)
              refine WC.region ?_
              refine seg 2 [] [2, 4, 6, 7, 8, 32, 33, 37, 38] [(2, (.pointer (some ⟨g2276, 0, none⟩))), (4, (.pointer (some ⟨g2280, 0, none⟩))), (6, (.pointer (some ⟨g2298, 0, none⟩))), (7, (.pointer (some ⟨g2304, 0, none⟩))), (8, (.int .i64 x2590)), (32, (.int .i64 t2308.2)), (33, (.int .i64 x2590)), (37, (.int .i64 t2308.1)), (38, (.int .i64 (w64 (x2678 + 1))))] [] (fun fb => by kernel_rfl) rfl trivial ?_
              refine WL.done rfl ?_
              exact WX.again k2684 (Nat.lt_succ_self _) ((l2677 ++ [(rdD p0.Cells (w64 ((w64 (t2689.2 * p0.Width)) + t2689.1)) 0)], w64 (x2678 + 1)), A2717, c2718) [2, 4, 6, 7, 8, 32, 33, 37, 38] rfl ⟨(hS2722.subR [0]).sub [3, 4, 5, 0, 1] (by decide), hl2687⟩
            refine WC.condF2 (fun fb => by kernel_rfl) h2688 ?_
            refine WC.exit ?_
            injection hl2687 with hl2687
            exact WX.thenX (WX.thenX (WX.blockHere (WX.to Kx2682 (l2677, A2675, c2676) [2, 4, 6, 7, 32, 33] rfl ⟨(hS2686.subR [0]).sub [0, 1, 2, 3, 4] (by decide), hl2687.symm⟩)))
        rintro ⟨y2726, A2679, c2680⟩ w2723 ⟨hS2724, hq2725⟩
        subst hq2725
        refine WX.blockN (WX.next ?_)
        refine WC.region ?_
        refine seg 2 [] [2, 4, 6, 7, 32, 33] [(2, (.pointer (some ⟨g2276, 0, none⟩))), (4, (.pointer (some ⟨g2280, 0, none⟩))), (6, (.pointer (some ⟨g2298, 0, none⟩))), (7, (.pointer (some ⟨g2304, 0, none⟩))), (32, (.int .i64 t2308.2)), (33, (.int .i64 (w64 (x2590 + 1))))] [] (fun fb => by kernel_rfl) rfl trivial ?_
        refine WL.done rfl ?_
        exact WX.again k2596 (Nat.lt_succ_self _) ((x2682, w64 (x2590 + 1)), A2679, c2680) [2, 4, 6, 7, 32, 33] rfl ⟨(hS2724.subR [0]).sub [0, 1, 2, 3, 4] (by decide), hl2599⟩
      refine WC.condF2 (fun fb => by kernel_rfl) h2600 ?_
      refine WC.exit ?_
      injection hl2599 with hl2599
      exact WX.thenX (WX.thenX (WX.blockHere (WX.to Kx2594 (l2589, A2587, c2588) [4, 7] rfl ⟨(hS2598.subR [0]).sub [1, 3, 4] (by decide), hl2599.symm⟩)))
  rintro ⟨y2730, A2591, c2592⟩ w2727 ⟨hS2728, hq2729⟩
  subst hq2729
  refine WX.next ?_
  refine WC.seq ?_
  refine WC.region ?_
  refine seg 1 [.v (.int .i64 t2308.1), .v (.int .i64 t2308.2), .v (.slice A2591 x2594.length c2592)] [4, 67] [(4, (.pointer (some ⟨g2280, 0, none⟩))), (67, (.agg #[(.int .i64 t2308.1), (.int .i64 t2308.2), (.slice A2591 x2594.length c2592)]))] [.cell ⟨g2304, 0, none⟩ (.int .i64 t2308.1), .cell ⟨g2304, 1, none⟩ (.int .i64 t2308.2), .cell ⟨g2304, 2, none⟩ (.slice A2591 x2594.length c2592)] (fun fb => by kernel_rfl) rfl ⟨hS2728.cell 1 rfl 0 rfl, hS2728.cell 1 rfl 1 rfl, hS2728.cell 1 rfl 2 rfl, trivial⟩ ?_
  refine WL.store hS2728 0 rfl [(0, (.int .i64 t2308.1)), (1, (.int .i64 t2308.2)), (2, (.slice A2591 x2594.length c2592))] #[(.int .i64 t2308.1), (.int .i64 t2308.2), (.slice A2591 x2594.length c2592)] (fun fb => by kernel_rfl) (by kernel_rfl) rfl [1, 2] (by decide) (by decide) (fun w2731 hS2732 => ?_)
  refine ⟨trivial, ?_⟩
  refine seg 3 [] [4, 5] [(4, (.pointer (some ⟨g2280, 0, none⟩))), (5, (.int .i64 0))] [] (fun fb => by kernel_rfl) rfl trivial ?_
  refine WL.done rfl ?_
  refine WX.next ?_
  refine WC.ret ?_
  injection hf with hf
  subst hf
  exact WX.ret_ [.v (.int .i64 t2308.1), .v (.int .i64 t2308.2), .v (.slice A2591 x2594.length c2592)] (.tuple #[(.agg #[(.int .i64 t2308.1), (.int .i64 t2308.2), (.slice A2591 x2594.length c2592)]), (.int .i64 0)]) [.cell ⟨g2280, 0, none⟩ (.int .i64 t2308.1), .cell ⟨g2280, 1, none⟩ (.int .i64 t2308.2), .cell ⟨g2280, 2, none⟩ (.slice A2591 x2594.length c2592)] (fun fb => by kernel_rfl) ⟨hS2732.cell 0 rfl 0 rfl, hS2732.cell 0 rfl 1 rfl, hS2732.cell 0 rfl 2 rfl, trivial⟩ ⟨_, rfl, A2591, c2592, rfl, (hS2732.sub [2] (by decide)).noR⟩
theorem tile_UpturnPattern_calls (k : Nat) (p0 : Pattern) (A_p0_Cells : Option Addr) (c_p0_Cells : Nat) (r : Pattern × Int) (w : World) (hR0 : RO NoS w (rowR encInt A_p0_Cells c_p0_Cells p0.Cells)) (hf : tile_UpturnPattern k p0 = some r) :
    CallsR Tryd.prog 29 #[(.agg #[(.int .i64 p0.Width), (.int .i64 p0.Height), (.slice A_p0_Cells p0.Cells.length c_p0_Cells)])] w (fun v w' => ∃ (A1_ : Option Addr), ∃ (c1_ : Nat), v = (.tuple #[(.agg #[(.int .i64 r.1.Width), (.int .i64 r.1.Height), (.slice A1_ r.1.Cells.length c1_)]), (.int .i64 r.2)]) ∧ St NoS w w' [] [rowO 3 encInt A1_ c1_ r.1.Cells]) := by
  have hS : St NoS w w [rowR encInt A_p0_Cells c_p0_Cells p0.Cells] [] := St.init (ro_cons hR0 (ro_nil _ _))
  refine enter 8 Tryd.func29 rfl Tryd.ntmps29 rfl ?_
  unfold tile_UpturnPattern at hf
  refine WC.seq ?_
  refine WC.region ?_
  refine WL.new hS 1 [] (fun g => (.pointer (some ⟨g, 0, none⟩))) (.cells #[(.int .i64 p0.Width), (.int .i64 p0.Height), (.slice A_p0_Cells p0.Cells.length c_p0_Cells)] 35 (0, 0)) [] (fun fb g => by kernel_rfl) trivial (fun g2268 w2269 hS2270 => ?_)
  refine ⟨trivial, ?_⟩
  refine WL.new hS2270 2 [] (fun g => (.pointer (some ⟨g, 0, none⟩))) (.cells #[(.int .i64 0), (.int .i64 0), (.slice none 0 0)] 35 (0, 0)) [] (fun fb g => by kernel_rfl) trivial (fun g2272 w2273 hS2274 => ?_)
  refine ⟨trivial, ?_⟩
  refine seg 3 [] [1, 2] [(1, (.pointer (some ⟨g2268, 0, none⟩))), (2, (.pointer (some ⟨g2272, 0, none⟩)))] [] (fun fb => by kernel_rfl) rfl trivial ?_
  refine WL.done rfl ?_
  refine WX.next ?_
  refine WC.seq ?_
  refine WC.region ?_
  refine seg 1 [.v (.int .i64 p0.Width), .v (.int .i64 p0.Height), .v (.slice A_p0_Cells p0.Cells.length c_p0_Cells)] [2, 4] [(2, (.pointer (some ⟨g2272, 0, none⟩))), (4, (.agg #[(.int .i64 p0.Width), (.int .i64 p0.Height), (.slice A_p0_Cells p0.Cells.length c_p0_Cells)]))] [.cell ⟨g2268, 0, none⟩ (.int .i64 p0.Width), .cell ⟨g2268, 1, none⟩ (.int .i64 p0.Height), .cell ⟨g2268, 2, none⟩ (.slice A_p0_Cells p0.Cells.length c_p0_Cells)] (fun fb => by kernel_rfl) rfl ⟨hS2274.cell 1 rfl 0 rfl, hS2274.cell 1 rfl 1 rfl, hS2274.cell 1 rfl 2 rfl, trivial⟩ ?_
  obtain ⟨t2733, ht2734, hf⟩ := bind_some hf
  refine WL.call (some 5) 53 #[(.agg #[(.int .i64 p0.Width), (.int .i64 p0.Height), (.slice A_p0_Cells p0.Cells.length c_p0_Cells)]), (.int .i64 1)] (fun fb => by kernel_rfl) (tile_changedPattern_at1_calls _ p0 A_p0_Cells c_p0_Cells t2733 _ (hS2274.rd 0) ht2734) (fun v w2735 hR2736 => ?_)
  obtain ⟨A2738, c2739, rfl, hk_⟩ := hR2736
  have hS2737 : St NoS w w2735 [rowR encInt A_p0_Cells c_p0_Cells p0.Cells] [rowO 3 encInt A2738 c2739 t2733.1.Cells, blk g2272 (.cells #[(.int .i64 0), (.int .i64 0), (.slice none 0 0)] 35 (0, 0)), blk g2268 (.cells #[(.int .i64 p0.Width), (.int .i64 p0.Height), (.slice A_p0_Cells p0.Cells.length c_p0_Cells)] 35 (0, 0))] := hS2274.call hk_ [] [0, 1] (fun g hg => hg.elim) (by simp) (by decide)
  refine ⟨trivial, ?_⟩
  refine seg 4 [] [2, 6, 7] [(2, (.pointer (some ⟨g2272, 0, none⟩))), (6, (.agg #[(.int .i64 t2733.1.Width), (.int .i64 t2733.1.Height), (.slice A2738 t2733.1.Cells.length c2739)])), (7, (.int .i64 t2733.2))] [] (fun fb => by kernel_rfl) rfl trivial ?_
  refine WL.store hS2737 1 rfl [(0, (.int .i64 t2733.1.Width)), (1, (.int .i64 t2733.1.Height)), (2, (.slice A2738 t2733.1.Cells.length c2739))] #[(.int .i64 t2733.1.Width), (.int .i64 t2733.1.Height), (.slice A2738 t2733.1.Cells.length c2739)] (fun fb => by kernel_rfl) (by kernel_rfl) rfl [0, 2] (by decide) (by decide) (fun w2740 hS2741 => ?_)
  refine ⟨trivial, ?_⟩
  refine seg 6 [] [2, 3] [(2, (.pointer (some ⟨g2272, 0, none⟩))), (3, (.int .i64 t2733.2))] [] (fun fb => by kernel_rfl) rfl trivial ?_
  refine WL.done rfl ?_
  refine WX.next ?_
  refine WC.ret ?_
  injection hf with hf
  subst hf
  exact WX.ret_ [.v (.int .i64 t2733.1.Width), .v (.int .i64 t2733.1.Height), .v (.slice A2738 t2733.1.Cells.length c2739)] (.tuple #[(.agg #[(.int .i64 t2733.1.Width), (.int .i64 t2733.1.Height), (.slice A2738 t2733.1.Cells.length c2739)]), (.int .i64 t2733.2)]) [.cell ⟨g2272, 0, none⟩ (.int .i64 t2733.1.Width), .cell ⟨g2272, 1, none⟩ (.int .i64 t2733.1.Height), .cell ⟨g2272, 2, none⟩ (.slice A2738 t2733.1.Cells.length c2739)] (fun fb => by kernel_rfl) ⟨hS2741.cell 0 rfl 0 rfl, hS2741.cell 0 rfl 1 rfl, hS2741.cell 0 rfl 2 rfl, trivial⟩ ⟨_, rfl, A2738, c2739, rfl, (hS2741.sub [1] (by decide)).noR⟩
theorem tile_changes_6_calls (p0 : Int) (p1 : Int)  (r : Int × Int) (w : World)  (hf : tile_changes_6 p0 p1 = some r) :
    CallsR Tryd.prog 85 #[(.int .i64 p0), (.int .i64 p1)] w (fun v w' => v = (.tuple #[(.int .i64 r.1), (.int .i64 r.2)]) ∧ Keeps NoS w w') := by
  have hS : St NoS w w [] [] := St.init (ro_nil _ _)
  refine enter 8 Tryd.func85 rfl Tryd.ntmps85 rfl ?_
  unfold tile_changes_6 at hf
  refine WC.seq ?_
  refine WC.region ?_
  refine seg 2 [] [0, 1] [(0, (.int .i64 p0)), (1, (.int .i64 p1))] [] (fun fb => by kernel_rfl) rfl trivial ?_
  refine WL.done rfl ?_
  refine WX.next ?_
  refine WC.seq ?_
  refine WC.region ?_
  refine seg 4 [] [4, 5] [(4, (.int .i64 p1)), (5, (.int .i64 p0))] [] (fun fb => by kernel_rfl) rfl trivial ?_
  refine WL.done rfl ?_
  refine WX.next ?_
  refine WC.ret ?_
  injection hf with hf
  subst hf
  exact WX.ret_ [] (.tuple #[(.int .i64 p1), (.int .i64 p0)]) [] (fun fb => by kernel_rfl) trivial ⟨_, rfl, rfl, hS.keep⟩
theorem tile_changes_7_calls (p0 : Pattern) (p1 : Int) (p2 : Int) (A_p0_Cells : Option Addr) (c_p0_Cells : Nat) (r : Int × Int) (w : World) (hR0 : RO NoS w (rowR encInt A_p0_Cells c_p0_Cells p0.Cells)) (hf : tile_changes_7 p0 p1 p2 = some r) :
    CallsR Tryd.prog 86 #[(.agg #[(.int .i64 p0.Width), (.int .i64 p0.Height), (.slice A_p0_Cells p0.Cells.length c_p0_Cells)]), (.int .i64 p1), (.int .i64 p2)] w (fun v w' => v = (.tuple #[(.int .i64 r.1), (.int .i64 r.2)]) ∧ Keeps NoS w w') := by
  have hS : St NoS w w [rowR encInt A_p0_Cells c_p0_Cells p0.Cells] [] := St.init (ro_cons hR0 (ro_nil _ _))
  refine enter 14 Tryd.func86 rfl Tryd.ntmps86 rfl ?_
  unfold tile_changes_7 at hf
  refine WC.seq ?_
  refine WC.region ?_
  refine WL.new hS 3 [] (fun g => (.pointer (some ⟨g, 0, none⟩))) (.cells #[(.int .i64 p0.Width), (.int .i64 p0.Height), (.slice A_p0_Cells p0.Cells.length c_p0_Cells)] 35 (0, 0)) [] (fun fb g => by kernel_rfl) trivial (fun g2806 w2807 hS2808 => ?_)
  refine ⟨trivial, ?_⟩
  refine seg 3 [] [1, 2, 3] [(1, (.int .i64 p1)), (2, (.int .i64 p2)), (3, (.pointer (some ⟨g2806, 0, none⟩)))] [] (fun fb => by kernel_rfl) rfl trivial ?_
  refine WL.done rfl ?_
  refine WX.next ?_
  refine WC.seq ?_
  refine WC.region ?_
  refine seg 8 [.v (.int .i64 p0.Width)] [6, 7] [(6, (.int .i64 (w64 ((w64 (p0.Width - 1)) - p2)))), (7, (.int .i64 p1))] [.cell ⟨g2806, 0, none⟩ (.int .i64 p0.Width)] (fun fb => by kernel_rfl) rfl ⟨hS2808.cell 0 rfl 0 rfl, trivial⟩ ?_
  refine WL.done rfl ?_
  refine WX.next ?_
  refine WC.ret ?_
  injection hf with hf
  subst hf
  exact WX.ret_ [] (.tuple #[(.int .i64 (w64 ((w64 (p0.Width - 1)) - p2))), (.int .i64 p1)]) [] (fun fb => by kernel_rfl) trivial ⟨_, rfl, rfl, hS2808.keep⟩
theorem tile_changedPattern_at2_calls (k : Nat) (p0 : Pattern) (A_p0_Cells : Option Addr) (c_p0_Cells : Nat) (r : Pattern × Int) (w : World) (hR0 : RO NoS w (rowR encInt A_p0_Cells c_p0_Cells p0.Cells)) (hf : tile_changedPattern_at2 k p0 = some r) :
    CallsR Tryd.prog 53 #[(.agg #[(.int .i64 p0.Width), (.int .i64 p0.Height), (.slice A_p0_Cells p0.Cells.length c_p0_Cells)]), (.int .i64 2)] w (fun v w' => ∃ (A1_ : Option Addr), ∃ (c1_ : Nat), v = (.tuple #[(.agg #[(.int .i64 r.1.Width), (.int .i64 r.1.Height), (.slice A1_ r.1.Cells.length c1_)]), (.int .i64 r.2)]) ∧ St NoS w w' [] [rowO 3 encInt A1_ c1_ r.1.Cells]) := by
  have hS : St NoS w w [rowR encInt A_p0_Cells c_p0_Cells p0.Cells] [] := St.init (ro_cons hR0 (ro_nil _ _))
  refine enter 68 Tryd.func53 rfl Tryd.ntmps53 rfl ?_
  unfold tile_changedPattern_at2 at hf
  refine WC.seq ?_
  refine WC.region ?_
  refine WL.new hS 2 [] (fun g => (.pointer (some ⟨g, 0, none⟩))) (.cells #[(.int .i64 p0.Width), (.int .i64 p0.Height), (.slice A_p0_Cells p0.Cells.length c_p0_Cells)] 35 (0, 0)) [] (fun fb g => by kernel_rfl) trivial (fun g2763 w2764 hS2765 => ?_)
  refine ⟨trivial, ?_⟩
  refine WL.new hS2765 4 [] (fun g => (.pointer (some ⟨g, 0, none⟩))) (.cells #[(.int .i64 0), (.int .i64 0), (.slice none 0 0)] 35 (0, 0)) [] (fun fb g => by kernel_rfl) trivial (fun g2767 w2768 hS2769 => ?_)
  refine ⟨trivial, ?_⟩
  refine seg 3 [] [1, 2, 4] [(1, (.int .i64 2)), (2, (.pointer (some ⟨g2763, 0, none⟩))), (4, (.pointer (some ⟨g2767, 0, none⟩)))] [] (fun fb => by kernel_rfl) rfl trivial ?_
  refine WL.done rfl ?_
  refine WX.next ?_
  refine WC.seq ?_
  refine WC.seq ?_
  refine WC.region ?_
  refine seg 1 [.v (.int .i64 p0.Width), .v (.int .i64 p0.Height), .v (.slice A_p0_Cells p0.Cells.length c_p0_Cells)] [1, 2, 4, 12] [(1, (.int .i64 2)), (2, (.pointer (some ⟨g2763, 0, none⟩))), (4, (.pointer (some ⟨g2767, 0, none⟩))), (12, (.agg #[(.int .i64 p0.Width), (.int .i64 p0.Height), (.slice A_p0_Cells p0.Cells.length c_p0_Cells)]))] [.cell ⟨g2763, 0, none⟩ (.int .i64 p0.Width), .cell ⟨g2763, 1, none⟩ (.int .i64 p0.Height), .cell ⟨g2763, 2, none⟩ (.slice A_p0_Cells p0.Cells.length c_p0_Cells)] (fun fb => by kernel_rfl) rfl ⟨hS2769.cell 1 rfl 0 rfl, hS2769.cell 1 rfl 1 rfl, hS2769.cell 1 rfl 2 rfl, trivial⟩ ?_
  obtain ⟨t2771, ht2772, hf⟩ := bind_some hf
  refine WL.call (some 13) 54 #[(.agg #[(.int .i64 p0.Width), (.int .i64 p0.Height), (.slice A_p0_Cells p0.Cells.length c_p0_Cells)])] (fun fb => by kernel_rfl) (tile_Form_calls p0 A_p0_Cells c_p0_Cells t2771 _ (hS2769.rd 0) ht2772) (fun v w2773 hR2774 => ?_)
  obtain ⟨rfl, hk_⟩ := hR2774
  have hS2775 := hS2769.keepN hk_
  refine ⟨trivial, ?_⟩
  refine seg 3 [] [1, 2, 4, 14] [(1, (.int .i64 2)), (2, (.pointer (some ⟨g2763, 0, none⟩))), (4, (.pointer (some ⟨g2767, 0, none⟩))), (14, (.bool (!t2771)))] [] (fun fb => by kernel_rfl) rfl trivial ?_
  refine WL.done rfl ?_
  refine WX.next ?_
  rcases br_some hf with ⟨h2776, hf⟩ | ⟨h2776, hf⟩
  · refine WC.condT2 (fun fb => by kernel_rfl) h2776 ?_
    refine WC.seq ?_
    refine WC.region ?_
    refine seg 1 [] [4, 15] [(4, (.pointer (some ⟨g2767, 0, none⟩))), (15, (.agg #[(.int .i64 0), (.int .i64 0), (.slice none 0 0)]))] [] (fun fb => by kernel_rfl) rfl trivial ?_
    refine WL.store hS2775 0 rfl [(0, (.int .i64 0)), (1, (.int .i64 0)), (2, (.slice none 0 0))] #[(.int .i64 0), (.int .i64 0), (.slice none 0 0)] (fun fb => by kernel_rfl) (by kernel_rfl) rfl [1] (by decide) (by decide) (fun w2777 hS2778 => ?_)
    refine ⟨trivial, ?_⟩
    refine seg 3 [] [4, 5] [(4, (.pointer (some ⟨g2767, 0, none⟩))), (5, (.int .i64 1))] [] (fun fb => by kernel_rfl) rfl trivial ?_
    refine WL.done rfl ?_
    refine WX.next ?_
    refine WC.ret ?_
    have hS2779 := hS2778.nilrow 3 encInt
    injection hf with hf
    subst hf
    exact WX.thenR (WX.ret_ [.v (.int .i64 0), .v (.int .i64 0), .v (.slice none 0 0)] (.tuple #[(.agg #[(.int .i64 0), (.int .i64 0), (.slice none ([] : List Int).length 0)]), (.int .i64 1)]) [.cell ⟨g2767, 0, none⟩ (.int .i64 0), .cell ⟨g2767, 1, none⟩ (.int .i64 0), .cell ⟨g2767, 2, none⟩ (.slice none 0 0)] (fun fb => by kernel_rfl) ⟨hS2778.cell 0 rfl 0 rfl, hS2778.cell 0 rfl 1 rfl, hS2778.cell 0 rfl 2 rfl, trivial⟩ ⟨_, rfl, none, 0, rfl, (hS2779.sub [0] (by decide)).noR⟩)
  refine WC.condF2 (fun fb => by kernel_rfl) h2776 ?_
  refine WC.skip ?_
  refine WX.next ?_
  refine WC.seq ?_
  refine WC.region ?_
  obtain ⟨t2780, ht2781, hf⟩ := bind_some hf
  refine WL.call (some 16) 64 #[] (fun fb => by kernel_rfl) (tile_changes_calls t2780 _ ht2781) (fun v w2782 hR2783 => ?_)
  obtain ⟨rfl, hk_⟩ := hR2783
  have hS2784 := hS2775.keepN hk_
  refine ⟨trivial, ?_⟩
  refine seg 3 [] [2, 4, 18] [(2, (.pointer (some ⟨g2763, 0, none⟩))), (4, (.pointer (some ⟨g2767, 0, none⟩))), (18, (.agg #[(.func (.func 84) #[] #[]), (.func (.func 85) #[] #[]), (.func (.func 86) #[] #[])]))] [] (fun fb => by kernel_rfl) rfl trivial ?_
  refine WL.new hS2784 6 [] (fun g => (.pointer (some ⟨g, 0, none⟩))) (.cells #[.nilFunc, .nilFunc, .nilFunc] 83 (0, 0)) [] (fun fb g => by kernel_rfl) trivial (fun g2785 w2786 hS2787 => ?_)
  refine ⟨trivial, ?_⟩
  refine WL.store hS2787 0 rfl [(0, (.func (.func 84) #[] #[])), (1, (.func (.func 85) #[] #[])), (2, (.func (.func 86) #[] #[]))] #[(.func (.func 84) #[] #[]), (.func (.func 85) #[] #[]), (.func (.func 86) #[] #[])] (fun fb => by kernel_rfl) (by kernel_rfl) rfl [1, 2] (by decide) (by decide) (fun w2789 hS2790 => ?_)
  refine ⟨trivial, ?_⟩
  refine WL.done rfl ?_
  refine WX.next ?_
  refine WC.seq ?_
  refine WC.region ?_
  refine WL.new hS2790 7 [] (fun g => (.pointer (some ⟨g, 0, none⟩))) (.cells #[(.int .i64 0), (.int .i64 0), (.slice none 0 0)] 35 (0, 0)) [] (fun fb g => by kernel_rfl) trivial (fun g2791 w2792 hS2793 => ?_)
  refine ⟨trivial, ?_⟩
  refine WL.done rfl ?_
  refine WX.next ?_
  refine WC.seq ?_
  refine WC.region ?_
  refine seg 6 [.v (.func (.func 85) #[] #[]), .v (.int .i64 p0.Width), .v (.int .i64 p0.Height)] [2, 4, 6, 7, 21, 23, 25] [(2, (.pointer (some ⟨g2763, 0, none⟩))), (4, (.pointer (some ⟨g2767, 0, none⟩))), (6, (.pointer (some ⟨g2785, 0, none⟩))), (7, (.pointer (some ⟨g2791, 0, none⟩))), (21, (.func (.func 85) #[] #[])), (23, (.int .i64 p0.Width)), (25, (.int .i64 p0.Height))] [.cell ⟨g2785, 1, none⟩ (.func (.func 85) #[] #[]), .cell ⟨g2763, 0, none⟩ (.int .i64 p0.Width), .cell ⟨g2763, 1, none⟩ (.int .i64 p0.Height)] (fun fb => by kernel_rfl) rfl ⟨hS2793.cell 1 rfl 1 rfl, hS2793.cell 3 rfl 0 rfl, hS2793.cell 3 rfl 1 rfl, trivial⟩ ?_
  obtain ⟨t2795, ht2796, hf⟩ := bind_some hf
  refine WL.call (some 26) 85 #[(.int .i64 p0.Width), (.int .i64 p0.Height)] (fun fb => by kernel_rfl) (tile_changes_6_calls p0.Width p0.Height t2795 _ ht2796) (fun v w2797 hR2798 => ?_)
  obtain ⟨rfl, hk_⟩ := hR2798
  have hS2799 := hS2793.keepN hk_
  refine ⟨trivial, ?_⟩
  refine seg 11 [] [2, 4, 6, 7, 27, 28, 29] [(2, (.pointer (some ⟨g2763, 0, none⟩))), (4, (.pointer (some ⟨g2767, 0, none⟩))), (6, (.pointer (some ⟨g2785, 0, none⟩))), (7, (.pointer (some ⟨g2791, 0, none⟩))), (27, (.int .i64 t2795.1)), (28, (.int .i64 t2795.2)), (29, (.pointer (some ⟨g2791, 0, none⟩)))] [] (fun fb => by kernel_rfl) rfl trivial ?_
  refine WL.store hS2799 0 rfl [(0, (.int .i64 t2795.1))] #[(.int .i64 t2795.1), (.int .i64 0), (.slice none 0 0)] (fun fb => by kernel_rfl) (by kernel_rfl) rfl [1, 2, 3] (by decide) (by decide) (fun w2800 hS2801 => ?_)
  refine ⟨trivial, ?_⟩
  refine seg 13 [] [2, 4, 6, 7, 28, 30] [(2, (.pointer (some ⟨g2763, 0, none⟩))), (4, (.pointer (some ⟨g2767, 0, none⟩))), (6, (.pointer (some ⟨g2785, 0, none⟩))), (7, (.pointer (some ⟨g2791, 0, none⟩))), (28, (.int .i64 t2795.2)), (30, (.pointer (some ⟨g2791, 1, none⟩)))] [] (fun fb => by kernel_rfl) rfl trivial ?_
  refine WL.store hS2801 0 rfl [(1, (.int .i64 t2795.2))] #[(.int .i64 t2795.1), (.int .i64 t2795.2), (.slice none 0 0)] (fun fb => by kernel_rfl) (by kernel_rfl) rfl [1, 2, 3] (by decide) (by decide) (fun w2802 hS2803 => ?_)
  refine ⟨trivial, ?_⟩
  refine WL.done rfl ?_
  refine WX.next ?_
  refine WC.seq ?_
  refine WC.seq ?_
  refine WC.region ?_
  refine seg 3 [.v (.int .i64 t2795.2)] [2, 4, 6, 7, 32, 33] [(2, (.pointer (some ⟨g2763, 0, none⟩))), (4, (.pointer (some ⟨g2767, 0, none⟩))), (6, (.pointer (some ⟨g2785, 0, none⟩))), (7, (.pointer (some ⟨g2791, 0, none⟩))), (32, (.int .i64 t2795.2)), (33, (.int .i64 0))] [.cell ⟨g2791, 1, none⟩ (.int .i64 t2795.2)] (fun fb => by kernel_rfl) rfl ⟨hS2803.cell 0 rfl 1 rfl, trivial⟩ ?_
  refine WL.done rfl ?_
  refine WX.next ?_
  have hS3071 := hS2803.nilrow 3 encInt
  obtain ⟨x3079, hx3080, hf⟩ := bind_some hf
  refine WC.cutN (T := (List Int) × (Option Addr) × Nat) (fun t => [(4, (.pointer (some ⟨g2767, 0, none⟩))), (7, (.pointer (some ⟨g2791, 0, none⟩)))]) (fun t w1 => St NoS w w1 [rowR encInt A_p0_Cells c_p0_Cells p0.Cells] [blk g2767 (.cells #[(.int .i64 0), (.int .i64 0), (.slice none 0 0)] 35 (0, 0)), blk g2791 (.cells #[(.int .i64 t2795.1), (.int .i64 t2795.2), (.slice t.2.1 t.1.length t.2.2)] 35 (0, 0)), rowO 3 encInt t.2.1 t.2.2 t.1] ∧ x3079 = t.1) (fun Kx3079 => ?_) ?_
  ·
    refine WC.block ?_
    refine WC.loop (T := ((List Int) × Int) × (Option Addr) × Nat) (fun t => [(2, (.pointer (some ⟨g2763, 0, none⟩))), (4, (.pointer (some ⟨g2767, 0, none⟩))), (6, (.pointer (some ⟨g2785, 0, none⟩))), (7, (.pointer (some ⟨g2791, 0, none⟩))), (32, (.int .i64 t2795.2)), (33, (.int .i64 t.1.2))]) (fun n t w1 => St NoS w w1 [rowR encInt A_p0_Cells c_p0_Cells p0.Cells] [blk g2763 (.cells #[(.int .i64 p0.Width), (.int .i64 p0.Height), (.slice A_p0_Cells p0.Cells.length c_p0_Cells)] 35 (0, 0)), blk g2767 (.cells #[(.int .i64 0), (.int .i64 0), (.slice none 0 0)] 35 (0, 0)), blk g2785 (.cells #[(.func (.func 84) #[] #[]), (.func (.func 85) #[] #[]), (.func (.func 86) #[] #[])] 83 (0, 0)), blk g2791 (.cells #[(.int .i64 t2795.1), (.int .i64 t2795.2), (.slice t.2.1 t.1.1.length t.2.2)] 35 (0, 0)), rowO 3 encInt t.2.1 t.2.2 t.1.1] ∧ tile_changedPattern_at2.l0 n t.1.1 t.1.2 p0 t2795 = some x3079) k ((([] : List Int), 0), none, 0) [2, 4, 6, 7, 32, 33] rfl ⟨(hS3071.subR [0]).sub [4, 3, 2, 1, 0] (by decide), hx3080⟩ ?_
    rintro k3081 ⟨⟨l3074, x3075⟩, A3072, c3073⟩ w3082 ⟨hS3083, hl3084⟩
    cases k3081 with
    | zero => rw [tile_changedPattern_at2.l0] at hl3084; cases hl3084
    | succ k3081 =>
      rw [tile_changedPattern_at2.l0] at hl3084
      refine WC.seq ?_
      refine WC.region ?_
      refine seg 1 [] [2, 4, 6, 7, 32, 33, 34] [(2, (.pointer (some ⟨g2763, 0, none⟩))), (4, (.pointer (some ⟨g2767, 0, none⟩))), (6, (.pointer (some ⟨g2785, 0, none⟩))), (7, (.pointer (some ⟨g2791, 0, none⟩))), (32, (.int .i64 t2795.2)), (33, (.int .i64 x3075)), (34, (.bool (decide (x3075 < t2795.2))))] [] (fun fb => by kernel_rfl) rfl trivial ?_
      refine WL.done rfl ?_
      refine WX.next ?_
      refine WC.seq ?_
      rcases br_some hl3084 with ⟨h3085, hl3084⟩ | ⟨h3085, hl3084⟩
      · refine WC.condT2 (fun fb => by kernel_rfl) h3085 ?_
        refine WC.skip ?_
        refine WX.next ?_
        refine WC.seq ?_
        refine WC.block ?_
        refine WC.seq ?_
        refine WC.region ?_
        refine seg 2 [] [2, 4, 6, 7, 8, 32, 33] [(2, (.pointer (some ⟨g2763, 0, none⟩))), (4, (.pointer (some ⟨g2767, 0, none⟩))), (6, (.pointer (some ⟨g2785, 0, none⟩))), (7, (.pointer (some ⟨g2791, 0, none⟩))), (8, (.int .i64 x3075)), (32, (.int .i64 t2795.2)), (33, (.int .i64 x3075))] [] (fun fb => by kernel_rfl) rfl trivial ?_
        refine WL.done rfl ?_
        refine WX.next ?_
        refine WC.seq ?_
        refine WC.region ?_
        refine seg 3 [.v (.int .i64 t2795.1)] [2, 4, 6, 7, 8, 32, 33, 37, 38] [(2, (.pointer (some ⟨g2763, 0, none⟩))), (4, (.pointer (some ⟨g2767, 0, none⟩))), (6, (.pointer (some ⟨g2785, 0, none⟩))), (7, (.pointer (some ⟨g2791, 0, none⟩))), (8, (.int .i64 x3075)), (32, (.int .i64 t2795.2)), (33, (.int .i64 x3075)), (37, (.int .i64 t2795.1)), (38, (.int .i64 0))] [.cell ⟨g2791, 0, none⟩ (.int .i64 t2795.1)] (fun fb => by kernel_rfl) rfl ⟨hS3083.cell 3 rfl 0 rfl, trivial⟩ ?_
        refine WL.done rfl ?_
        refine WX.next ?_
        obtain ⟨x3167, hx3168, hl3084⟩ := bind_some hl3084
        refine WC.cutN (T := (List Int) × (Option Addr) × Nat) (fun t => [(2, (.pointer (some ⟨g2763, 0, none⟩))), (4, (.pointer (some ⟨g2767, 0, none⟩))), (6, (.pointer (some ⟨g2785, 0, none⟩))), (7, (.pointer (some ⟨g2791, 0, none⟩))), (32, (.int .i64 t2795.2)), (33, (.int .i64 x3075))]) (fun t w1 => St NoS w w1 [rowR encInt A_p0_Cells c_p0_Cells p0.Cells] [blk g2763 (.cells #[(.int .i64 p0.Width), (.int .i64 p0.Height), (.slice A_p0_Cells p0.Cells.length c_p0_Cells)] 35 (0, 0)), blk g2767 (.cells #[(.int .i64 0), (.int .i64 0), (.slice none 0 0)] 35 (0, 0)), blk g2785 (.cells #[(.func (.func 84) #[] #[]), (.func (.func 85) #[] #[]), (.func (.func 86) #[] #[])] 83 (0, 0)), blk g2791 (.cells #[(.int .i64 t2795.1), (.int .i64 t2795.2), (.slice t.2.1 t.1.length t.2.2)] 35 (0, 0)), rowO 3 encInt t.2.1 t.2.2 t.1] ∧ x3167 = t.1) (fun Kx3167 => ?_) ?_
        ·
          refine WC.block ?_
          refine WC.loop (T := ((List Int) × Int) × (Option Addr) × Nat) (fun t => [(2, (.pointer (some ⟨g2763, 0, none⟩))), (4, (.pointer (some ⟨g2767, 0, none⟩))), (6, (.pointer (some ⟨g2785, 0, none⟩))), (7, (.pointer (some ⟨g2791, 0, none⟩))), (8, (.int .i64 x3075)), (32, (.int .i64 t2795.2)), (33, (.int .i64 x3075)), (37, (.int .i64 t2795.1)), (38, (.int .i64 t.1.2))]) (fun n t w1 => St NoS w w1 [rowR encInt A_p0_Cells c_p0_Cells p0.Cells] [blk g2763 (.cells #[(.int .i64 p0.Width), (.int .i64 p0.Height), (.slice A_p0_Cells p0.Cells.length c_p0_Cells)] 35 (0, 0)), blk g2767 (.cells #[(.int .i64 0), (.int .i64 0), (.slice none 0 0)] 35 (0, 0)), blk g2785 (.cells #[(.func (.func 84) #[] #[]), (.func (.func 85) #[] #[]), (.func (.func 86) #[] #[])] 83 (0, 0)), blk g2791 (.cells #[(.int .i64 t2795.1), (.int .i64 t2795.2), (.slice t.2.1 t.1.1.length t.2.2)] 35 (0, 0)), rowO 3 encInt t.2.1 t.2.2 t.1.1] ∧ tile_changedPattern_at2.l1 n t.1.1 t.1.2 p0 t2795 x3075 = some x3167) k3081 ((l3074, 0), A3072, c3073) [2, 4, 6, 7, 8, 32, 33, 37, 38] rfl ⟨(hS3083.subR [0]).sub [0, 1, 2, 3, 4] (by decide), hx3168⟩ ?_
          rintro k3169 ⟨⟨l3162, x3163⟩, A3160, c3161⟩ w3170 ⟨hS3171, hl3172⟩
          cases k3169 with
          | zero => rw [tile_changedPattern_at2.l1] at hl3172; cases hl3172
          | succ k3169 =>
            rw [tile_changedPattern_at2.l1] at hl3172
            refine WC.seq ?_
            refine WC.region ?_
            refine seg 1 [] [2, 4, 6, 7, 8, 32, 33, 37, 38, 39] [(2, (.pointer (some ⟨g2763, 0, none⟩))), (4, (.pointer (some ⟨g2767, 0, none⟩))), (6, (.pointer (some ⟨g2785, 0, none⟩))), (7, (.pointer (some ⟨g2791, 0, none⟩))), (8, (.int .i64 x3075)), (32, (.int .i64 t2795.2)), (33, (.int .i64 x3075)), (37, (.int .i64 t2795.1)), (38, (.int .i64 x3163)), (39, (.bool (decide (x3163 < t2795.1))))] [] (fun fb => by kernel_rfl) rfl trivial ?_
            refine WL.done rfl ?_
            refine WX.next ?_
            refine WC.seq ?_
            rcases br_some hl3172 with ⟨h3173, hl3172⟩ | ⟨h3173, hl3172⟩
            · refine WC.condT2 (fun fb => by kernel_rfl) h3173 ?_
              refine WC.skip ?_
              refine WX.next ?_
              refine WC.seq ?_
              refine WC.block ?_
              refine WC.seq ?_
              refine WC.region ?_
              refine seg 2 [] [2, 4, 6, 7, 8, 9, 32, 33, 37, 38] [(2, (.pointer (some ⟨g2763, 0, none⟩))), (4, (.pointer (some ⟨g2767, 0, none⟩))), (6, (.pointer (some ⟨g2785, 0, none⟩))), (7, (.pointer (some ⟨g2791, 0, none⟩))), (8, (.int .i64 x3075)), (9, (.int .i64 x3163)), (32, (.int .i64 t2795.2)), (33, (.int .i64 x3075)), (37, (.int .i64 t2795.1)), (38, (.int .i64 x3163))] [] (fun fb => by kernel_rfl) rfl trivial ?_
              refine WL.done rfl ?_
              refine WX.next ?_
              refine WC.seq ?_
              refine WC.region ?_
              refine seg 5 [.v (.func (.func 86) #[] #[]), .v (.int .i64 p0.Width), .v (.int .i64 p0.Height), .v (.slice A_p0_Cells p0.Cells.length c_p0_Cells)] [2, 4, 6, 7, 8, 32, 33, 37, 38, 43, 44, 45, 46] [(2, (.pointer (some ⟨g2763, 0, none⟩))), (4, (.pointer (some ⟨g2767, 0, none⟩))), (6, (.pointer (some ⟨g2785, 0, none⟩))), (7, (.pointer (some ⟨g2791, 0, none⟩))), (8, (.int .i64 x3075)), (32, (.int .i64 t2795.2)), (33, (.int .i64 x3075)), (37, (.int .i64 t2795.1)), (38, (.int .i64 x3163)), (43, (.func (.func 86) #[] #[])), (44, (.agg #[(.int .i64 p0.Width), (.int .i64 p0.Height), (.slice A_p0_Cells p0.Cells.length c_p0_Cells)])), (45, (.int .i64 x3163)), (46, (.int .i64 x3075))] [.cell ⟨g2785, 2, none⟩ (.func (.func 86) #[] #[]), .cell ⟨g2763, 0, none⟩ (.int .i64 p0.Width), .cell ⟨g2763, 1, none⟩ (.int .i64 p0.Height), .cell ⟨g2763, 2, none⟩ (.slice A_p0_Cells p0.Cells.length c_p0_Cells)] (fun fb => by kernel_rfl) rfl ⟨hS3171.cell 2 rfl 2 rfl, hS3171.cell 0 rfl 0 rfl, hS3171.cell 0 rfl 1 rfl, hS3171.cell 0 rfl 2 rfl, trivial⟩ ?_
              obtain ⟨t3174, ht3175, hl3172⟩ := bind_some hl3172
              refine WL.call (some 47) 86 #[(.agg #[(.int .i64 p0.Width), (.int .i64 p0.Height), (.slice A_p0_Cells p0.Cells.length c_p0_Cells)]), (.int .i64 x3163), (.int .i64 x3075)] (fun fb => by kernel_rfl) (tile_changes_7_calls p0 x3163 x3075 A_p0_Cells c_p0_Cells t3174 _ (hS3171.rd 0) ht3175) (fun v w3176 hR3177 => ?_)
              obtain ⟨rfl, hk_⟩ := hR3177
              have hS3178 := hS3171.keepN hk_
              refine ⟨trivial, ?_⟩
              refine seg 11 [] [2, 4, 6, 7, 8, 10, 11, 32, 33, 37, 38] [(2, (.pointer (some ⟨g2763, 0, none⟩))), (4, (.pointer (some ⟨g2767, 0, none⟩))), (6, (.pointer (some ⟨g2785, 0, none⟩))), (7, (.pointer (some ⟨g2791, 0, none⟩))), (8, (.int .i64 x3075)), (10, (.int .i64 t3174.1)), (11, (.int .i64 t3174.2)), (32, (.int .i64 t2795.2)), (33, (.int .i64 x3075)), (37, (.int .i64 t2795.1)), (38, (.int .i64 x3163))] [] (fun fb => by kernel_rfl) rfl trivial ?_
              refine WL.done rfl ?_
              refine WX.next ?_
              obtain ⟨h3195, hl3172⟩ := as_some hl3172
              refine WC.regionD ([(1, ⟨g2791, 2, none⟩, (.slice A3160 l3162.length c3161)), (3, ⟨g2763, 2, none⟩, (.slice A_p0_Cells p0.Cells.length c_p0_Cells)), (6, ⟨g2763, 0, none⟩, (.int .i64 p0.Width)), (11, ((adr A_p0_Cells).add ((w64 ((w64 (t3174.2 * p0.Width)) + t3174.1)).toNat * 1)), (.int .i64 (rdD p0.Cells (w64 ((w64 (t3174.2 * p0.Width)) + t3174.1)) 0)))], [0, 1, 2, 3, 4, 5, 6, 7, 8, 9, 10, 11, 14], [[], [0], [], [2], [], [], [5], [4, 5, 6], [], [4, 5, 6, 7, 8], [2, 3, 4, 5, 6, 7, 8, 9], [2, 3, 4, 5, 6, 7, 8, 9, 10], [2, 3, 4, 5, 6, 7, 8, 9, 10, 11], [0, 1, 2, 3, 4, 5, 6, 7, 8, 9, 10, 11, 12], [0, 1, 2, 3, 4, 5, 6, 7, 8, 9, 10, 11, 12, 13], [0, 1, 2, 3, 4, 5, 6, 7, 8, 9, 10, 11, 12, 13, 14]]) [[0, 1, 2, 3, 4, 5, 6, 7, 8, 9, 10, 11, 12, 13, 14, 15]] (by kernel_rfl) (by kernel_rfl) (NoPanic.block (NoPanic.seq (NoPanic.seq (NoPanic.block (NoPanic.block (NoPanic.seq (NoPanic.seq (NoPanic.block (NoPanic.seq (NoPanic.body)))))))))) ?_
              have hS3193 := hS3178.drew
              revert hS3193
              generalize World.drew w3176 = w3192
              intro hS3193
              refine ⟨⟨hS3193.cell 3 rfl 2 rfl, hS3193.cell 0 rfl 2 rfl, hS3193.cell 0 rfl 0 rfl, rowR.cell (hS3193.rd 0).1 0 h3195.1 h3195.2 0 rfl, trivial⟩, forallC ?_ (forallN)⟩
              refine segF 12 [.v (.slice A3160 l3162.length c3161), .v (.slice A_p0_Cells p0.Cells.length c_p0_Cells), .v (.int .i64 p0.Width), .v (.int .i64 (rdD p0.Cells (w64 ((w64 (t3174.2 * p0.Width)) + t3174.1)) 0))] [2, 4, 6, 7, 8, 32, 33, 37, 38, 51, 61] [(2, (.pointer (some ⟨g2763, 0, none⟩))), (4, (.pointer (some ⟨g2767, 0, none⟩))), (6, (.pointer (some ⟨g2785, 0, none⟩))), (7, (.pointer (some ⟨g2791, 0, none⟩))), (8, (.int .i64 x3075)), (32, (.int .i64 t2795.2)), (33, (.int .i64 x3075)), (37, (.int .i64 t2795.1)), (38, (.int .i64 x3163)), (51, (.slice A3160 l3162.length c3161)), (61, (.int .i64 (rdD p0.Cells (w64 ((w64 (t3174.2 * p0.Width)) + t3174.1)) 0)))] [.idx A_p0_Cells (w64 ((w64 (t3174.2 * p0.Width)) + t3174.1)) p0.Cells.length] [0, 1, 2, 3] [(1, ⟨g2791, 2, none⟩, (.slice A3160 l3162.length c3161)), (3, ⟨g2763, 2, none⟩, (.slice A_p0_Cells p0.Cells.length c_p0_Cells)), (6, ⟨g2763, 0, none⟩, (.int .i64 p0.Width)), (11, ((adr A_p0_Cells).add ((w64 ((w64 (t3174.2 * p0.Width)) + t3174.1)).toNat * 1)), (.int .i64 (rdD p0.Cells (w64 ((w64 (t3174.2 * p0.Width)) + t3174.1)) 0)))] (fun fb => by kernel_rfl) rfl ⟨rowR.adr (hS3193.rd 0).1 h3195.1 h3195.2, trivial⟩ rfl ?_
              refine WL.new hS3193 62 [] (fun g => (.slice (some ⟨g, 0, none⟩) 1 1)) (.cells #[(.int .i64 (rdD p0.Cells (w64 ((w64 (t3174.2 * p0.Width)) + t3174.1)) 0))] 3 (0, 0)) [] (fun fb g => by kernel_rfl) trivial (fun g3196 w3197 hS3198 => ?_)
              refine ⟨⟨hS3198.cell 4 rfl 2 rfl, trivial⟩, ?_⟩
              have hS3200 : St NoS w w3197 [rowR encInt A_p0_Cells c_p0_Cells p0.Cells] [rowO 3 encInt (some ⟨g3196, 0, none⟩) 1 [(rdD p0.Cells (w64 ((w64 (t3174.2 * p0.Width)) + t3174.1)) 0)], blk g2763 (.cells #[(.int .i64 p0.Width), (.int .i64 p0.Height), (.slice A_p0_Cells p0.Cells.length c_p0_Cells)] 35 (0, 0)), blk g2767 (.cells #[(.int .i64 0), (.int .i64 0), (.slice none 0 0)] 35 (0, 0)), blk g2785 (.cells #[(.func (.func 84) #[] #[]), (.func (.func 85) #[] #[]), (.func (.func 86) #[] #[])] 83 (0, 0)), blk g2791 (.cells #[(.int .i64 t2795.1), (.int .i64 t2795.2), (.slice A3160 l3162.length c3161)] 35 (0, 0)), rowO 3 encInt A3160 c3161 l3162] := hS3198.map1 0 _ (fun h => rowO.ofBlk h rfl (Nat.le_of_ble_eq_true (by kernel_rfl))) (fun _ h => by obtain ⟨_, h1, h2⟩ := h; injection h1 with h1; subst h1; exact h2) [1, 2, 3, 4, 5] (by decide) (by decide)
              obtain ⟨h3201, hl3172⟩ := as_some hl3172
              refine WL.append hS3200 5 (d := 63) (tS := 33) (z := (.int .i64 0)) (bytes := 8) (c2 := 1) rfl (fun fb => by kernel_rfl) (rowO.rd (hS3200.own 0).1) (by kernel_rfl) (by kernel_rfl) rfl (by decide) h3201 (by decide) [0, 1, 2, 3, 4] (by decide) (by decide) (fun A3202 c3203 w3204 hS3205 => ?_)
              refine ⟨trivial, ?_⟩
              refine seg 15 [] [2, 4, 6, 7, 8, 32, 33, 37, 38, 63, 64] [(2, (.pointer (some ⟨g2763, 0, none⟩))), (4, (.pointer (some ⟨g2767, 0, none⟩))), (6, (.pointer (some ⟨g2785, 0, none⟩))), (7, (.pointer (some ⟨g2791, 0, none⟩))), (8, (.int .i64 x3075)), (32, (.int .i64 t2795.2)), (33, (.int .i64 x3075)), (37, (.int .i64 t2795.1)), (38, (.int .i64 x3163)), (63, (.slice A3202 (l3162 ++ [(rdD p0.Cells (w64 ((w64 (t3174.2 * p0.Width)) + t3174.1)) 0)]).length c3203)), (64, (.pointer (some ⟨g2791, 2, none⟩)))] [] (fun fb => by kernel_rfl) rfl trivial ?_
              refine WL.store hS3205 5 rfl [(2, (.slice A3202 (l3162 ++ [(rdD p0.Cells (w64 ((w64 (t3174.2 * p0.Width)) + t3174.1)) 0)]).length c3203))] #[(.int .i64 t2795.1), (.int .i64 t2795.2), (.slice A3202 (l3162 ++ [(rdD p0.Cells (w64 ((w64 (t3174.2 * p0.Width)) + t3174.1)) 0)]).length c3203)] (fun fb => by kernel_rfl) (by kernel_rfl) rfl [0, 1, 2, 3, 4] (by decide) (by decide) (fun w3206 hS3207 => ?_)
              refine ⟨trivial, ?_⟩
              refine WL.done rfl ?_
              refine WX.blockN (WX.next ?_)
              refine WC.region ?_
              refine seg 2 [] [2, 4, 6, 7, 8, 32, 33, 37, 38] [(2, (.pointer (some ⟨g2763, 0, none⟩))), (4, (.pointer (some ⟨g2767, 0, none⟩))), (6, (.pointer (some ⟨g2785, 0, none⟩))), (7, (.pointer (some ⟨g2791, 0, none⟩))), (8, (.int .i64 x3075)), (32, (.int .i64 t2795.2)), (33, (.int .i64 x3075)), (37, (.int .i64 t2795.1)), (38, (.int .i64 (w64 (x3163 + 1))))] [] (fun fb => by kernel_rfl) rfl trivial ?_
              refine WL.done rfl ?_
              exact WX.again k3169 (Nat.lt_succ_self _) ((l3162 ++ [(rdD p0.Cells (w64 ((w64 (t3174.2 * p0.Width)) + t3174.1)) 0)], w64 (x3163 + 1)), A3202, c3203) [2, 4, 6, 7, 8, 32, 33, 37, 38] rfl ⟨(hS3207.subR [0]).sub [3, 4, 5, 0, 1] (by decide), hl3172⟩
            refine WC.condF2 (fun fb => by kernel_rfl) h3173 ?_
            refine WC.exit ?_
            injection hl3172 with hl3172
            exact WX.thenX (WX.thenX (WX.blockHere (WX.to Kx3167 (l3162, A3160, c3161) [2, 4, 6, 7, 32, 33] rfl ⟨(hS3171.subR [0]).sub [0, 1, 2, 3, 4] (by decide), hl3172.symm⟩)))
        rintro ⟨y3211, A3164, c3165⟩ w3208 ⟨hS3209, hq3210⟩
        subst hq3210
        refine WX.blockN (WX.next ?_)
        refine WC.region ?_
        refine seg 2 [] [2, 4, 6, 7, 32, 33] [(2, (.pointer (some ⟨g2763, 0, none⟩))), (4, (.pointer (some ⟨g2767, 0, none⟩))), (6, (.pointer (some ⟨g2785, 0, none⟩))), (7, (.pointer (some ⟨g2791, 0, none⟩))), (32, (.int .i64 t2795.2)), (33, (.int .i64 (w64 (x3075 + 1))))] [] (fun fb => by kernel_rfl) rfl trivial ?_
        refine WL.done rfl ?_
        exact WX.again k3081 (Nat.lt_succ_self _) ((x3167, w64 (x3075 + 1)), A3164, c3165) [2, 4, 6, 7, 32, 33] rfl ⟨(hS3209.subR [0]).sub [0, 1, 2, 3, 4] (by decide), hl3084⟩
      refine WC.condF2 (fun fb => by kernel_rfl) h3085 ?_
      refine WC.exit ?_
      injection hl3084 with hl3084
      exact WX.thenX (WX.thenX (WX.blockHere (WX.to Kx3079 (l3074, A3072, c3073) [4, 7] rfl ⟨(hS3083.subR [0]).sub [1, 3, 4] (by decide), hl3084.symm⟩)))
  rintro ⟨y3215, A3076, c3077⟩ w3212 ⟨hS3213, hq3214⟩
  subst hq3214
  refine WX.next ?_
  refine WC.seq ?_
  refine WC.region ?_
  refine seg 1 [.v (.int .i64 t2795.1), .v (.int .i64 t2795.2), .v (.slice A3076 x3079.length c3077)] [4, 67] [(4, (.pointer (some ⟨g2767, 0, none⟩))), (67, (.agg #[(.int .i64 t2795.1), (.int .i64 t2795.2), (.slice A3076 x3079.length c3077)]))] [.cell ⟨g2791, 0, none⟩ (.int .i64 t2795.1), .cell ⟨g2791, 1, none⟩ (.int .i64 t2795.2), .cell ⟨g2791, 2, none⟩ (.slice A3076 x3079.length c3077)] (fun fb => by kernel_rfl) rfl ⟨hS3213.cell 1 rfl 0 rfl, hS3213.cell 1 rfl 1 rfl, hS3213.cell 1 rfl 2 rfl, trivial⟩ ?_
  refine WL.store hS3213 0 rfl [(0, (.int .i64 t2795.1)), (1, (.int .i64 t2795.2)), (2, (.slice A3076 x3079.length c3077))] #[(.int .i64 t2795.1), (.int .i64 t2795.2), (.slice A3076 x3079.length c3077)] (fun fb => by kernel_rfl) (by kernel_rfl) rfl [1, 2] (by decide) (by decide) (fun w3216 hS3217 => ?_)
  refine ⟨trivial, ?_⟩
  refine seg 3 [] [4, 5] [(4, (.pointer (some ⟨g2767, 0, none⟩))), (5, (.int .i64 0))] [] (fun fb => by kernel_rfl) rfl trivial ?_
  refine WL.done rfl ?_
  refine WX.next ?_
  refine WC.ret ?_
  injection hf with hf
  subst hf
  exact WX.ret_ [.v (.int .i64 t2795.1), .v (.int .i64 t2795.2), .v (.slice A3076 x3079.length c3077)] (.tuple #[(.agg #[(.int .i64 t2795.1), (.int .i64 t2795.2), (.slice A3076 x3079.length c3077)]), (.int .i64 0)]) [.cell ⟨g2767, 0, none⟩ (.int .i64 t2795.1), .cell ⟨g2767, 1, none⟩ (.int .i64 t2795.2), .cell ⟨g2767, 2, none⟩ (.slice A3076 x3079.length c3077)] (fun fb => by kernel_rfl) ⟨hS3217.cell 0 rfl 0 rfl, hS3217.cell 0 rfl 1 rfl, hS3217.cell 0 rfl 2 rfl, trivial⟩ ⟨_, rfl, A3076, c3077, rfl, (hS3217.sub [2] (by decide)).noR⟩
theorem tile_TurnPattern_calls (k : Nat) (p0 : Pattern) (A_p0_Cells : Option Addr) (c_p0_Cells : Nat) (r : Pattern × Int) (w : World) (hR0 : RO NoS w (rowR encInt A_p0_Cells c_p0_Cells p0.Cells)) (hf : tile_TurnPattern k p0 = some r) :
    CallsR Tryd.prog 30 #[(.agg #[(.int .i64 p0.Width), (.int .i64 p0.Height), (.slice A_p0_Cells p0.Cells.length c_p0_Cells)])] w (fun v w' => ∃ (A1_ : Option Addr), ∃ (c1_ : Nat), v = (.tuple #[(.agg #[(.int .i64 r.1.Width), (.int .i64 r.1.Height), (.slice A1_ r.1.Cells.length c1_)]), (.int .i64 r.2)]) ∧ St NoS w w' [] [rowO 3 encInt A1_ c1_ r.1.Cells]) := by
  have hS : St NoS w w [rowR encInt A_p0_Cells c_p0_Cells p0.Cells] [] := St.init (ro_cons hR0 (ro_nil _ _))
  refine enter 8 Tryd.func30 rfl Tryd.ntmps30 rfl ?_
  unfold tile_TurnPattern at hf
  refine WC.seq ?_
  refine WC.region ?_
  refine WL.new hS 1 [] (fun g => (.pointer (some ⟨g, 0, none⟩))) (.cells #[(.int .i64 p0.Width), (.int .i64 p0.Height), (.slice A_p0_Cells p0.Cells.length c_p0_Cells)] 35 (0, 0)) [] (fun fb g => by kernel_rfl) trivial (fun g2755 w2756 hS2757 => ?_)
  refine ⟨trivial, ?_⟩
  refine WL.new hS2757 2 [] (fun g => (.pointer (some ⟨g, 0, none⟩))) (.cells #[(.int .i64 0), (.int .i64 0), (.slice none 0 0)] 35 (0, 0)) [] (fun fb g => by kernel_rfl) trivial (fun g2759 w2760 hS2761 => ?_)
  refine ⟨trivial, ?_⟩
  refine seg 3 [] [1, 2] [(1, (.pointer (some ⟨g2755, 0, none⟩))), (2, (.pointer (some ⟨g2759, 0, none⟩)))] [] (fun fb => by kernel_rfl) rfl trivial ?_
  refine WL.done rfl ?_
  refine WX.next ?_
  refine WC.seq ?_
  refine WC.region ?_
  refine seg 1 [.v (.int .i64 p0.Width), .v (.int .i64 p0.Height), .v (.slice A_p0_Cells p0.Cells.length c_p0_Cells)] [2, 4] [(2, (.pointer (some ⟨g2759, 0, none⟩))), (4, (.agg #[(.int .i64 p0.Width), (.int .i64 p0.Height), (.slice A_p0_Cells p0.Cells.length c_p0_Cells)]))] [.cell ⟨g2755, 0, none⟩ (.int .i64 p0.Width), .cell ⟨g2755, 1, none⟩ (.int .i64 p0.Height), .cell ⟨g2755, 2, none⟩ (.slice A_p0_Cells p0.Cells.length c_p0_Cells)] (fun fb => by kernel_rfl) rfl ⟨hS2761.cell 1 rfl 0 rfl, hS2761.cell 1 rfl 1 rfl, hS2761.cell 1 rfl 2 rfl, trivial⟩ ?_
  obtain ⟨t3218, ht3219, hf⟩ := bind_some hf
  refine WL.call (some 5) 53 #[(.agg #[(.int .i64 p0.Width), (.int .i64 p0.Height), (.slice A_p0_Cells p0.Cells.length c_p0_Cells)]), (.int .i64 2)] (fun fb => by kernel_rfl) (tile_changedPattern_at2_calls _ p0 A_p0_Cells c_p0_Cells t3218 _ (hS2761.rd 0) ht3219) (fun v w3220 hR3221 => ?_)
  obtain ⟨A3223, c3224, rfl, hk_⟩ := hR3221
  have hS3222 : St NoS w w3220 [rowR encInt A_p0_Cells c_p0_Cells p0.Cells] [rowO 3 encInt A3223 c3224 t3218.1.Cells, blk g2759 (.cells #[(.int .i64 0), (.int .i64 0), (.slice none 0 0)] 35 (0, 0)), blk g2755 (.cells #[(.int .i64 p0.Width), (.int .i64 p0.Height), (.slice A_p0_Cells p0.Cells.length c_p0_Cells)] 35 (0, 0))] := hS2761.call hk_ [] [0, 1] (fun g hg => hg.elim) (by simp) (by decide)
  refine ⟨trivial, ?_⟩
  refine seg 4 [] [2, 6, 7] [(2, (.pointer (some ⟨g2759, 0, none⟩))), (6, (.agg #[(.int .i64 t3218.1.Width), (.int .i64 t3218.1.Height), (.slice A3223 t3218.1.Cells.length c3224)])), (7, (.int .i64 t3218.2))] [] (fun fb => by kernel_rfl) rfl trivial ?_
  refine WL.store hS3222 1 rfl [(0, (.int .i64 t3218.1.Width)), (1, (.int .i64 t3218.1.Height)), (2, (.slice A3223 t3218.1.Cells.length c3224))] #[(.int .i64 t3218.1.Width), (.int .i64 t3218.1.Height), (.slice A3223 t3218.1.Cells.length c3224)] (fun fb => by kernel_rfl) (by kernel_rfl) rfl [0, 2] (by decide) (by decide) (fun w3225 hS3226 => ?_)
  refine ⟨trivial, ?_⟩
  refine seg 6 [] [2, 3] [(2, (.pointer (some ⟨g2759, 0, none⟩))), (3, (.int .i64 t3218.2))] [] (fun fb => by kernel_rfl) rfl trivial ?_
  refine WL.done rfl ?_
  refine WX.next ?_
  refine WC.ret ?_
  injection hf with hf
  subst hf
  exact WX.ret_ [.v (.int .i64 t3218.1.Width), .v (.int .i64 t3218.1.Height), .v (.slice A3223 t3218.1.Cells.length c3224)] (.tuple #[(.agg #[(.int .i64 t3218.1.Width), (.int .i64 t3218.1.Height), (.slice A3223 t3218.1.Cells.length c3224)]), (.int .i64 t3218.2)]) [.cell ⟨g2759, 0, none⟩ (.int .i64 t3218.1.Width), .cell ⟨g2759, 1, none⟩ (.int .i64 t3218.1.Height), .cell ⟨g2759, 2, none⟩ (.slice A3223 t3218.1.Cells.length c3224)] (fun fb => by kernel_rfl) ⟨hS3226.cell 0 rfl 0 rfl, hS3226.cell 0 rfl 1 rfl, hS3226.cell 0 rfl 2 rfl, trivial⟩ ⟨_, rfl, A3223, c3224, rfl, (hS3226.sub [1] (by decide)).noR⟩
theorem tile_Cut_calls (k : Nat) (p0 : Pattern) (p1 : Int) (p2 : Int) (p3 : Int) (p4 : Int) (A_p0_Cells : Option Addr) (c_p0_Cells : Nat) (r : Pattern × Int) (w : World) (hR0 : RO NoS w (rowR encInt A_p0_Cells c_p0_Cells p0.Cells)) (hf : tile_Cut k p0 p1 p2 p3 p4 = some r) :
    CallsR Tryd.prog 31 #[(.agg #[(.int .i64 p0.Width), (.int .i64 p0.Height), (.slice A_p0_Cells p0.Cells.length c_p0_Cells)]), (.int .i64 p1), (.int .i64 p2), (.int .i64 p3), (.int .i64 p4)] w (fun v w' => ∃ (A1_ : Option Addr), ∃ (c1_ : Nat), v = (.tuple #[(.agg #[(.int .i64 r.1.Width), (.int .i64 r.1.Height), (.slice A1_ r.1.Cells.length c1_)]), (.int .i64 r.2)]) ∧ St NoS w w' [] [rowO 3 encInt A1_ c1_ r.1.Cells]) := by
  have hS : St NoS w w [rowR encInt A_p0_Cells c_p0_Cells p0.Cells] [] := St.init (ro_cons hR0 (ro_nil _ _))
  refine enter 90 Tryd.func31 rfl Tryd.ntmps31 rfl ?_
  unfold tile_Cut at hf
  refine WC.seq ?_
  refine WC.region ?_
  refine WL.new hS 5 [] (fun g => (.pointer (some ⟨g, 0, none⟩))) (.cells #[(.int .i64 p0.Width), (.int .i64 p0.Height), (.slice A_p0_Cells p0.Cells.length c_p0_Cells)] 35 (0, 0)) [] (fun fb g => by kernel_rfl) trivial (fun g3240 w3241 hS3242 => ?_)
  refine ⟨trivial, ?_⟩
  refine WL.new hS3242 10 [] (fun g => (.pointer (some ⟨g, 0, none⟩))) (.cells #[(.int .i64 0), (.int .i64 0), (.slice none 0 0)] 35 (0, 0)) [] (fun fb g => by kernel_rfl) trivial (fun g3244 w3245 hS3246 => ?_)
  refine ⟨trivial, ?_⟩
  refine seg 3 [] [1, 2, 3, 4, 5, 10] [(1, (.int .i64 p1)), (2, (.int .i64 p2)), (3, (.int .i64 p3)), (4, (.int .i64 p4)), (5, (.pointer (some ⟨g3240, 0, none⟩))), (10, (.pointer (some ⟨g3244, 0, none⟩)))] [] (fun fb => by kernel_rfl) rfl trivial ?_
  refine WL.done rfl ?_
  refine WX.next ?_
  refine WC.seq ?_
  refine WC.seq ?_
  refine WC.region ?_
  refine seg 1 [.v (.int .i64 p0.Width), .v (.int .i64 p0.Height), .v (.slice A_p0_Cells p0.Cells.length c_p0_Cells)] [1, 2, 3, 4, 5, 10, 15] [(1, (.int .i64 p1)), (2, (.int .i64 p2)), (3, (.int .i64 p3)), (4, (.int .i64 p4)), (5, (.pointer (some ⟨g3240, 0, none⟩))), (10, (.pointer (some ⟨g3244, 0, none⟩))), (15, (.agg #[(.int .i64 p0.Width), (.int .i64 p0.Height), (.slice A_p0_Cells p0.Cells.length c_p0_Cells)]))] [.cell ⟨g3240, 0, none⟩ (.int .i64 p0.Width), .cell ⟨g3240, 1, none⟩ (.int .i64 p0.Height), .cell ⟨g3240, 2, none⟩ (.slice A_p0_Cells p0.Cells.length c_p0_Cells)] (fun fb => by kernel_rfl) rfl ⟨hS3246.cell 1 rfl 0 rfl, hS3246.cell 1 rfl 1 rfl, hS3246.cell 1 rfl 2 rfl, trivial⟩ ?_
  obtain ⟨t3248, ht3249, hf⟩ := bind_some hf
  refine WL.call (some 16) 54 #[(.agg #[(.int .i64 p0.Width), (.int .i64 p0.Height), (.slice A_p0_Cells p0.Cells.length c_p0_Cells)])] (fun fb => by kernel_rfl) (tile_Form_calls p0 A_p0_Cells c_p0_Cells t3248 _ (hS3246.rd 0) ht3249) (fun v w3250 hR3251 => ?_)
  obtain ⟨rfl, hk_⟩ := hR3251
  have hS3252 := hS3246.keepN hk_
  refine ⟨trivial, ?_⟩
  refine seg 3 [] [1, 2, 3, 4, 5, 10, 17] [(1, (.int .i64 p1)), (2, (.int .i64 p2)), (3, (.int .i64 p3)), (4, (.int .i64 p4)), (5, (.pointer (some ⟨g3240, 0, none⟩))), (10, (.pointer (some ⟨g3244, 0, none⟩))), (17, (.bool (!t3248)))] [] (fun fb => by kernel_rfl) rfl trivial ?_
  refine WL.done rfl ?_
  refine WX.next ?_
  rcases br_some hf with ⟨h3253, hf⟩ | ⟨h3253, hf⟩
  · refine WC.condT2 (fun fb => by kernel_rfl) h3253 ?_
    refine WC.seq ?_
    refine WC.region ?_
    refine seg 1 [] [10, 18] [(10, (.pointer (some ⟨g3244, 0, none⟩))), (18, (.agg #[(.int .i64 0), (.int .i64 0), (.slice none 0 0)]))] [] (fun fb => by kernel_rfl) rfl trivial ?_
    refine WL.store hS3252 0 rfl [(0, (.int .i64 0)), (1, (.int .i64 0)), (2, (.slice none 0 0))] #[(.int .i64 0), (.int .i64 0), (.slice none 0 0)] (fun fb => by kernel_rfl) (by kernel_rfl) rfl [1] (by decide) (by decide) (fun w3254 hS3255 => ?_)
    refine ⟨trivial, ?_⟩
    refine seg 3 [] [10, 11] [(10, (.pointer (some ⟨g3244, 0, none⟩))), (11, (.int .i64 1))] [] (fun fb => by kernel_rfl) rfl trivial ?_
    refine WL.done rfl ?_
    refine WX.next ?_
    refine WC.ret ?_
    have hS3256 := hS3255.nilrow 3 encInt
    injection hf with hf
    subst hf
    exact WX.thenR (WX.ret_ [.v (.int .i64 0), .v (.int .i64 0), .v (.slice none 0 0)] (.tuple #[(.agg #[(.int .i64 0), (.int .i64 0), (.slice none ([] : List Int).length 0)]), (.int .i64 1)]) [.cell ⟨g3244, 0, none⟩ (.int .i64 0), .cell ⟨g3244, 1, none⟩ (.int .i64 0), .cell ⟨g3244, 2, none⟩ (.slice none 0 0)] (fun fb => by kernel_rfl) ⟨hS3255.cell 0 rfl 0 rfl, hS3255.cell 0 rfl 1 rfl, hS3255.cell 0 rfl 2 rfl, trivial⟩ ⟨_, rfl, none, 0, rfl, (hS3256.sub [0] (by decide)).noR⟩)
  refine WC.condF2 (fun fb => by kernel_rfl) h3253 ?_
  refine WC.skip ?_
  refine WX.next ?_
  refine WC.seq ?_
  refine WC.seq ?_
  refine WC.region ?_
  refine seg 3 [] [1, 2, 3, 4, 5, 10, 21] [(1, (.int .i64 p1)), (2, (.int .i64 p2)), (3, (.int .i64 p3)), (4, (.int .i64 p4)), (5, (.pointer (some ⟨g3240, 0, none⟩))), (10, (.pointer (some ⟨g3244, 0, none⟩))), (21, (.bool (decide (p3 < 1))))] [] (fun fb => by kernel_rfl) rfl trivial ?_
  refine WL.cutV (T := Bool) 6 (fun t => [(24, (.bool t)), (1, (.int .i64 p1)), (2, (.int .i64 p2)), (3, (.int .i64 p3)), (4, (.int .i64 p4)), (5, (.pointer (some ⟨g3240, 0, none⟩))), (10, (.pointer (some ⟨g3244, 0, none⟩)))]) (fun t => t = ((decide (p3 < 1)) || (decide (p4 < 1)))) (fun K => ?_) ?_
  ·
    rcases Bool.eq_false_or_eq_true (decide (p3 < 1)) with h3257 | h3257
    ·
      refine WL.setB 21 h3257 rfl ?_
      refine seg 6 [] [1, 2, 3, 4, 5, 10, 24] [(1, (.int .i64 p1)), (2, (.int .i64 p2)), (3, (.int .i64 p3)), (4, (.int .i64 p4)), (5, (.pointer (some ⟨g3240, 0, none⟩))), (10, (.pointer (some ⟨g3244, 0, none⟩))), (24, (.bool true))] [] (fun fb => by kernel_rfl) rfl trivial ?_
      exact WL.toV K true [24, 1, 2, 3, 4, 5, 10] rfl (by first | (rw [h3257]; done) | (rw [h3257]; rfl))
    refine WL.setB 21 h3257 rfl ?_
    refine seg 6 [] [1, 2, 3, 4, 5, 10, 24] [(1, (.int .i64 p1)), (2, (.int .i64 p2)), (3, (.int .i64 p3)), (4, (.int .i64 p4)), (5, (.pointer (some ⟨g3240, 0, none⟩))), (10, (.pointer (some ⟨g3244, 0, none⟩))), (24, (.bool (decide (p4 < 1))))] [] (fun fb => by kernel_rfl) rfl trivial ?_
    exact WL.toV K (decide (p4 < 1)) [24, 1, 2, 3, 4, 5, 10] rfl (by first | (rw [h3257]; done) | (rw [h3257]; rfl))
  rintro b3258 rfl
  refine seg 7 [] [1, 2, 3, 4, 5, 10, 25] [(1, (.int .i64 p1)), (2, (.int .i64 p2)), (3, (.int .i64 p3)), (4, (.int .i64 p4)), (5, (.pointer (some ⟨g3240, 0, none⟩))), (10, (.pointer (some ⟨g3244, 0, none⟩))), (25, (.bool ((decide (p3 < 1)) || (decide (p4 < 1)))))] [] (fun fb => by kernel_rfl) rfl trivial ?_
  refine WL.cutV (T := Bool) 10 (fun t => [(28, (.bool t)), (1, (.int .i64 p1)), (2, (.int .i64 p2)), (3, (.int .i64 p3)), (4, (.int .i64 p4)), (5, (.pointer (some ⟨g3240, 0, none⟩))), (10, (.pointer (some ⟨g3244, 0, none⟩)))]) (fun t => t = (((decide (p3 < 1)) || (decide (p4 < 1))) || (decide (p1 < 0)))) (fun K => ?_) ?_
  ·
    rcases Bool.eq_false_or_eq_true ((decide (p3 < 1)) || (decide (p4 < 1))) with h3259 | h3259
    ·
      refine WL.setB 25 h3259 rfl ?_
      refine seg 10 [] [1, 2, 3, 4, 5, 10, 28] [(1, (.int .i64 p1)), (2, (.int .i64 p2)), (3, (.int .i64 p3)), (4, (.int .i64 p4)), (5, (.pointer (some ⟨g3240, 0, none⟩))), (10, (.pointer (some ⟨g3244, 0, none⟩))), (28, (.bool true))] [] (fun fb => by kernel_rfl) rfl trivial ?_
      exact WL.toV K true [28, 1, 2, 3, 4, 5, 10] rfl (by first | (rw [h3259]; done) | (rw [h3259]; rfl))
    refine WL.setB 25 h3259 rfl ?_
    refine seg 10 [] [1, 2, 3, 4, 5, 10, 28] [(1, (.int .i64 p1)), (2, (.int .i64 p2)), (3, (.int .i64 p3)), (4, (.int .i64 p4)), (5, (.pointer (some ⟨g3240, 0, none⟩))), (10, (.pointer (some ⟨g3244, 0, none⟩))), (28, (.bool (decide (p1 < 0))))] [] (fun fb => by kernel_rfl) rfl trivial ?_
    exact WL.toV K (decide (p1 < 0)) [28, 1, 2, 3, 4, 5, 10] rfl (by first | (rw [h3259]; done) | (rw [h3259]; rfl))
  rintro b3260 rfl
  refine seg 11 [] [1, 2, 3, 4, 5, 10, 29] [(1, (.int .i64 p1)), (2, (.int .i64 p2)), (3, (.int .i64 p3)), (4, (.int .i64 p4)), (5, (.pointer (some ⟨g3240, 0, none⟩))), (10, (.pointer (some ⟨g3244, 0, none⟩))), (29, (.bool (((decide (p3 < 1)) || (decide (p4 < 1))) || (decide (p1 < 0)))))] [] (fun fb => by kernel_rfl) rfl trivial ?_
  refine WL.cutV (T := Bool) 14 (fun t => [(32, (.bool t)), (1, (.int .i64 p1)), (2, (.int .i64 p2)), (3, (.int .i64 p3)), (4, (.int .i64 p4)), (5, (.pointer (some ⟨g3240, 0, none⟩))), (10, (.pointer (some ⟨g3244, 0, none⟩)))]) (fun t => t = ((((decide (p3 < 1)) || (decide (p4 < 1))) || (decide (p1 < 0))) || (decide (p2 < 0)))) (fun K => ?_) ?_
  ·
    rcases Bool.eq_false_or_eq_true (((decide (p3 < 1)) || (decide (p4 < 1))) || (decide (p1 < 0))) with h3261 | h3261
    ·
      refine WL.setB 29 h3261 rfl ?_
      refine seg 14 [] [1, 2, 3, 4, 5, 10, 32] [(1, (.int .i64 p1)), (2, (.int .i64 p2)), (3, (.int .i64 p3)), (4, (.int .i64 p4)), (5, (.pointer (some ⟨g3240, 0, none⟩))), (10, (.pointer (some ⟨g3244, 0, none⟩))), (32, (.bool true))] [] (fun fb => by kernel_rfl) rfl trivial ?_
      exact WL.toV K true [32, 1, 2, 3, 4, 5, 10] rfl (by first | (rw [h3261]; done) | (rw [h3261]; rfl))
    refine WL.setB 29 h3261 rfl ?_
    refine seg 14 [] [1, 2, 3, 4, 5, 10, 32] [(1, (.int .i64 p1)), (2, (.int .i64 p2)), (3, (.int .i64 p3)), (4, (.int .i64 p4)), (5, (.pointer (some ⟨g3240, 0, none⟩))), (10, (.pointer (some ⟨g3244, 0, none⟩))), (32, (.bool (decide (p2 < 0))))] [] (fun fb => by kernel_rfl) rfl trivial ?_
    exact WL.toV K (decide (p2 < 0)) [32, 1, 2, 3, 4, 5, 10] rfl (by first | (rw [h3261]; done) | (rw [h3261]; rfl))
  rintro b3262 rfl
  refine seg 15 [] [1, 2, 3, 4, 5, 10, 33] [(1, (.int .i64 p1)), (2, (.int .i64 p2)), (3, (.int .i64 p3)), (4, (.int .i64 p4)), (5, (.pointer (some ⟨g3240, 0, none⟩))), (10, (.pointer (some ⟨g3244, 0, none⟩))), (33, (.bool ((((decide (p3 < 1)) || (decide (p4 < 1))) || (decide (p1 < 0))) || (decide (p2 < 0)))))] [] (fun fb => by kernel_rfl) rfl trivial ?_
  refine WL.cutV (T := Bool) 20 (fun t => [(38, (.bool t)), (1, (.int .i64 p1)), (2, (.int .i64 p2)), (3, (.int .i64 p3)), (4, (.int .i64 p4)), (5, (.pointer (some ⟨g3240, 0, none⟩))), (10, (.pointer (some ⟨g3244, 0, none⟩)))]) (fun t => t = (((((decide (p3 < 1)) || (decide (p4 < 1))) || (decide (p1 < 0))) || (decide (p2 < 0))) || (decide (p3 > p0.Width)))) (fun K => ?_) ?_
  ·
    rcases Bool.eq_false_or_eq_true ((((decide (p3 < 1)) || (decide (p4 < 1))) || (decide (p1 < 0))) || (decide (p2 < 0))) with h3263 | h3263
    ·
      refine WL.setB 33 h3263 rfl ?_
      refine seg 20 [] [1, 2, 3, 4, 5, 10, 38] [(1, (.int .i64 p1)), (2, (.int .i64 p2)), (3, (.int .i64 p3)), (4, (.int .i64 p4)), (5, (.pointer (some ⟨g3240, 0, none⟩))), (10, (.pointer (some ⟨g3244, 0, none⟩))), (38, (.bool true))] [] (fun fb => by kernel_rfl) rfl trivial ?_
      exact WL.toV K true [38, 1, 2, 3, 4, 5, 10] rfl (by first | (rw [h3263]; done) | (rw [h3263]; rfl))
    refine WL.setB 33 h3263 rfl ?_
    refine seg 20 [.v (.int .i64 p0.Width)] [1, 2, 3, 4, 5, 10, 38] [(1, (.int .i64 p1)), (2, (.int .i64 p2)), (3, (.int .i64 p3)), (4, (.int .i64 p4)), (5, (.pointer (some ⟨g3240, 0, none⟩))), (10, (.pointer (some ⟨g3244, 0, none⟩))), (38, (.bool (decide (p3 > p0.Width))))] [.cell ⟨g3240, 0, none⟩ (.int .i64 p0.Width)] (fun fb => by kernel_rfl) rfl ⟨hS3252.cell 1 rfl 0 rfl, trivial⟩ ?_
    exact WL.toV K (decide (p3 > p0.Width)) [38, 1, 2, 3, 4, 5, 10] rfl (by first | (rw [h3263]; done) | (rw [h3263]; rfl))
  rintro b3264 rfl
  refine seg 21 [] [1, 2, 3, 4, 5, 10, 39] [(1, (.int .i64 p1)), (2, (.int .i64 p2)), (3, (.int .i64 p3)), (4, (.int .i64 p4)), (5, (.pointer (some ⟨g3240, 0, none⟩))), (10, (.pointer (some ⟨g3244, 0, none⟩))), (39, (.bool (((((decide (p3 < 1)) || (decide (p4 < 1))) || (decide (p1 < 0))) || (decide (p2 < 0))) || (decide (p3 > p0.Width)))))] [] (fun fb => by kernel_rfl) rfl trivial ?_
  refine WL.cutV (T := Bool) 26 (fun t => [(44, (.bool t)), (1, (.int .i64 p1)), (2, (.int .i64 p2)), (3, (.int .i64 p3)), (4, (.int .i64 p4)), (5, (.pointer (some ⟨g3240, 0, none⟩))), (10, (.pointer (some ⟨g3244, 0, none⟩)))]) (fun t => t = ((((((decide (p3 < 1)) || (decide (p4 < 1))) || (decide (p1 < 0))) || (decide (p2 < 0))) || (decide (p3 > p0.Width))) || (decide (p4 > p0.Height)))) (fun K => ?_) ?_
  ·
    rcases Bool.eq_false_or_eq_true (((((decide (p3 < 1)) || (decide (p4 < 1))) || (decide (p1 < 0))) || (decide (p2 < 0))) || (decide (p3 > p0.Width))) with h3265 | h3265
    ·
      refine WL.setB 39 h3265 rfl ?_
      refine seg 26 [] [1, 2, 3, 4, 5, 10, 44] [(1, (.int .i64 p1)), (2, (.int .i64 p2)), (3, (.int .i64 p3)), (4, (.int .i64 p4)), (5, (.pointer (some ⟨g3240, 0, none⟩))), (10, (.pointer (some ⟨g3244, 0, none⟩))), (44, (.bool true))] [] (fun fb => by kernel_rfl) rfl trivial ?_
      exact WL.toV K true [44, 1, 2, 3, 4, 5, 10] rfl (by first | (rw [h3265]; done) | (rw [h3265]; rfl))
    refine WL.setB 39 h3265 rfl ?_
    refine seg 26 [.v (.int .i64 p0.Height)] [1, 2, 3, 4, 5, 10, 44] [(1, (.int .i64 p1)), (2, (.int .i64 p2)), (3, (.int .i64 p3)), (4, (.int .i64 p4)), (5, (.pointer (some ⟨g3240, 0, none⟩))), (10, (.pointer (some ⟨g3244, 0, none⟩))), (44, (.bool (decide (p4 > p0.Height))))] [.cell ⟨g3240, 1, none⟩ (.int .i64 p0.Height)] (fun fb => by kernel_rfl) rfl ⟨hS3252.cell 1 rfl 1 rfl, trivial⟩ ?_
    exact WL.toV K (decide (p4 > p0.Height)) [44, 1, 2, 3, 4, 5, 10] rfl (by first | (rw [h3265]; done) | (rw [h3265]; rfl))
  rintro b3266 rfl
  refine seg 27 [] [1, 2, 3, 4, 5, 10, 45] [(1, (.int .i64 p1)), (2, (.int .i64 p2)), (3, (.int .i64 p3)), (4, (.int .i64 p4)), (5, (.pointer (some ⟨g3240, 0, none⟩))), (10, (.pointer (some ⟨g3244, 0, none⟩))), (45, (.bool ((((((decide (p3 < 1)) || (decide (p4 < 1))) || (decide (p1 < 0))) || (decide (p2 < 0))) || (decide (p3 > p0.Width))) || (decide (p4 > p0.Height)))))] [] (fun fb => by kernel_rfl) rfl trivial ?_
  refine WL.cutV (T := Bool) 34 (fun t => [(52, (.bool t)), (1, (.int .i64 p1)), (2, (.int .i64 p2)), (3, (.int .i64 p3)), (4, (.int .i64 p4)), (5, (.pointer (some ⟨g3240, 0, none⟩))), (10, (.pointer (some ⟨g3244, 0, none⟩)))]) (fun t => t = (((((((decide (p3 < 1)) || (decide (p4 < 1))) || (decide (p1 < 0))) || (decide (p2 < 0))) || (decide (p3 > p0.Width))) || (decide (p4 > p0.Height))) || (decide (p1 > w64 (p0.Width - p3))))) (fun K => ?_) ?_
  ·
    rcases Bool.eq_false_or_eq_true ((((((decide (p3 < 1)) || (decide (p4 < 1))) || (decide (p1 < 0))) || (decide (p2 < 0))) || (decide (p3 > p0.Width))) || (decide (p4 > p0.Height))) with h3267 | h3267
    ·
      refine WL.setB 45 h3267 rfl ?_
      refine seg 34 [] [1, 2, 3, 4, 5, 10, 52] [(1, (.int .i64 p1)), (2, (.int .i64 p2)), (3, (.int .i64 p3)), (4, (.int .i64 p4)), (5, (.pointer (some ⟨g3240, 0, none⟩))), (10, (.pointer (some ⟨g3244, 0, none⟩))), (52, (.bool true))] [] (fun fb => by kernel_rfl) rfl trivial ?_
      exact WL.toV K true [52, 1, 2, 3, 4, 5, 10] rfl (by first | (rw [h3267]; done) | (rw [h3267]; rfl))
    refine WL.setB 45 h3267 rfl ?_
    refine seg 34 [.v (.int .i64 p0.Width)] [1, 2, 3, 4, 5, 10, 52] [(1, (.int .i64 p1)), (2, (.int .i64 p2)), (3, (.int .i64 p3)), (4, (.int .i64 p4)), (5, (.pointer (some ⟨g3240, 0, none⟩))), (10, (.pointer (some ⟨g3244, 0, none⟩))), (52, (.bool (decide (p1 > w64 (p0.Width - p3)))))] [.cell ⟨g3240, 0, none⟩ (.int .i64 p0.Width)] (fun fb => by kernel_rfl) rfl ⟨hS3252.cell 1 rfl 0 rfl, trivial⟩ ?_
    exact WL.toV K (decide (p1 > w64 (p0.Width - p3))) [52, 1, 2, 3, 4, 5, 10] rfl (by first | (rw [h3267]; done) | (rw [h3267]; rfl))
  rintro b3268 rfl
  refine seg 35 [] [1, 2, 3, 4, 5, 10, 53] [(1, (.int .i64 p1)), (2, (.int .i64 p2)), (3, (.int .i64 p3)), (4, (.int .i64 p4)), (5, (.pointer (some ⟨g3240, 0, none⟩))), (10, (.pointer (some ⟨g3244, 0, none⟩))), (53, (.bool (((((((decide (p3 < 1)) || (decide (p4 < 1))) || (decide (p1 < 0))) || (decide (p2 < 0))) || (decide (p3 > p0.Width))) || (decide (p4 > p0.Height))) || (decide (p1 > w64 (p0.Width - p3))))))] [] (fun fb => by kernel_rfl) rfl trivial ?_
  refine WL.cutV (T := Bool) 42 (fun t => [(60, (.bool t)), (1, (.int .i64 p1)), (2, (.int .i64 p2)), (3, (.int .i64 p3)), (4, (.int .i64 p4)), (5, (.pointer (some ⟨g3240, 0, none⟩))), (10, (.pointer (some ⟨g3244, 0, none⟩)))]) (fun t => t = ((((((((decide (p3 < 1)) || (decide (p4 < 1))) || (decide (p1 < 0))) || (decide (p2 < 0))) || (decide (p3 > p0.Width))) || (decide (p4 > p0.Height))) || (decide (p1 > w64 (p0.Width - p3)))) || (decide (p2 > w64 (p0.Height - p4))))) (fun K => ?_) ?_
  ·
    rcases Bool.eq_false_or_eq_true (((((((decide (p3 < 1)) || (decide (p4 < 1))) || (decide (p1 < 0))) || (decide (p2 < 0))) || (decide (p3 > p0.Width))) || (decide (p4 > p0.Height))) || (decide (p1 > w64 (p0.Width - p3)))) with h3269 | h3269
    ·
      refine WL.setB 53 h3269 rfl ?_
      refine seg 42 [] [1, 2, 3, 4, 5, 10, 60] [(1, (.int .i64 p1)), (2, (.int .i64 p2)), (3, (.int .i64 p3)), (4, (.int .i64 p4)), (5, (.pointer (some ⟨g3240, 0, none⟩))), (10, (.pointer (some ⟨g3244, 0, none⟩))), (60, (.bool true))] [] (fun fb => by kernel_rfl) rfl trivial ?_
      exact WL.toV K true [60, 1, 2, 3, 4, 5, 10] rfl (by first | (rw [h3269]; done) | (rw [h3269]; rfl))
    refine WL.setB 53 h3269 rfl ?_
    refine seg 42 [.v (.int .i64 p0.Height)] [1, 2, 3, 4, 5, 10, 60] [(1, (.int .i64 p1)), (2, (.int .i64 p2)), (3, (.int .i64 p3)), (4, (.int .i64 p4)), (5, (.pointer (some ⟨g3240, 0, none⟩))), (10, (.pointer (some ⟨g3244, 0, none⟩))), (60, (.bool (decide (p2 > w64 (p0.Height - p4)))))] [.cell ⟨g3240, 1, none⟩ (.int .i64 p0.Height)] (fun fb => by kernel_rfl) rfl ⟨hS3252.cell 1 rfl 1 rfl, trivial⟩ ?_
    exact WL.toV K (decide (p2 > w64 (p0.Height - p4))) [60, 1, 2, 3, 4, 5, 10] rfl (by first | (rw [h3269]; done) | (rw [h3269]; rfl))
  rintro b3270 rfl
  refine WL.done rfl ?_
  refine WX.next ?_
  rcases br_some hf with ⟨h3271, hf⟩ | ⟨h3271, hf⟩
  · refine WC.condT2 (fun fb => by kernel_rfl) h3271 ?_
    refine WC.seq ?_
    refine WC.region ?_
    refine seg 1 [] [10, 61] [(10, (.pointer (some ⟨g3244, 0, none⟩))), (61, (.agg #[(.int .i64 0), (.int .i64 0), (.slice none 0 0)]))] [] (fun fb => by kernel_rfl) rfl trivial ?_
    refine WL.store hS3252 0 rfl [(0, (.int .i64 0)), (1, (.int .i64 0)), (2, (.slice none 0 0))] #[(.int .i64 0), (.int .i64 0), (.slice none 0 0)] (fun fb => by kernel_rfl) (by kernel_rfl) rfl [1] (by decide) (by decide) (fun w3272 hS3273 => ?_)
    refine ⟨trivial, ?_⟩
    refine seg 3 [] [10, 11] [(10, (.pointer (some ⟨g3244, 0, none⟩))), (11, (.int .i64 2))] [] (fun fb => by kernel_rfl) rfl trivial ?_
    refine WL.done rfl ?_
    refine WX.next ?_
    refine WC.ret ?_
    have hS3274 := hS3273.nilrow 3 encInt
    injection hf with hf
    subst hf
    exact WX.thenR (WX.ret_ [.v (.int .i64 0), .v (.int .i64 0), .v (.slice none 0 0)] (.tuple #[(.agg #[(.int .i64 0), (.int .i64 0), (.slice none ([] : List Int).length 0)]), (.int .i64 2)]) [.cell ⟨g3244, 0, none⟩ (.int .i64 0), .cell ⟨g3244, 1, none⟩ (.int .i64 0), .cell ⟨g3244, 2, none⟩ (.slice none 0 0)] (fun fb => by kernel_rfl) ⟨hS3273.cell 0 rfl 0 rfl, hS3273.cell 0 rfl 1 rfl, hS3273.cell 0 rfl 2 rfl, trivial⟩ ⟨_, rfl, none, 0, rfl, (hS3274.sub [0] (by decide)).noR⟩)
  refine WC.condF2 (fun fb => by kernel_rfl) h3271 ?_
  refine WC.skip ?_
  refine WX.next ?_
  refine WC.seq ?_
  refine WC.region ?_
  refine seg 3 [] [1, 2, 3, 4, 5, 10, 64] [(1, (.int .i64 p1)), (2, (.int .i64 p2)), (3, (.int .i64 p3)), (4, (.int .i64 p4)), (5, (.pointer (some ⟨g3240, 0, none⟩))), (10, (.pointer (some ⟨g3244, 0, none⟩))), (64, (.agg #[(.int .i64 p3), (.int .i64 p4), (.slice none 0 0)]))] [] (fun fb => by kernel_rfl) rfl trivial ?_
  refine WL.new hS3252 12 [] (fun g => (.pointer (some ⟨g, 0, none⟩))) (.cells #[(.int .i64 0), (.int .i64 0), (.slice none 0 0)] 35 (0, 0)) [] (fun fb g => by kernel_rfl) trivial (fun g3275 w3276 hS3277 => ?_)
  refine ⟨trivial, ?_⟩
  refine WL.store hS3277 0 rfl [(0, (.int .i64 p3)), (1, (.int .i64 p4)), (2, (.slice none 0 0))] #[(.int .i64 p3), (.int .i64 p4), (.slice none 0 0)] (fun fb => by kernel_rfl) (by kernel_rfl) rfl [1, 2] (by decide) (by decide) (fun w3279 hS3280 => ?_)
  refine ⟨trivial, ?_⟩
  refine WL.done rfl ?_
  refine WX.next ?_
  refine WC.seq ?_
  refine WC.seq ?_
  refine WC.region ?_
  refine seg 2 [] [1, 2, 3, 5, 10, 12, 65, 66] [(1, (.int .i64 p1)), (2, (.int .i64 p2)), (3, (.int .i64 p3)), (5, (.pointer (some ⟨g3240, 0, none⟩))), (10, (.pointer (some ⟨g3244, 0, none⟩))), (12, (.pointer (some ⟨g3275, 0, none⟩))), (65, (.int .i64 p4)), (66, (.int .i64 0))] [] (fun fb => by kernel_rfl) rfl trivial ?_
  refine WL.done rfl ?_
  refine WX.next ?_
  have hS3330 := hS3280.nilrow 3 encInt
  obtain ⟨x3338, hx3339, hf⟩ := bind_some hf
  refine WC.cutN (T := (List Int) × (Option Addr) × Nat) (fun t => [(10, (.pointer (some ⟨g3244, 0, none⟩))), (12, (.pointer (some ⟨g3275, 0, none⟩)))]) (fun t w1 => St NoS w w1 [rowR encInt A_p0_Cells c_p0_Cells p0.Cells] [blk g3244 (.cells #[(.int .i64 0), (.int .i64 0), (.slice none 0 0)] 35 (0, 0)), blk g3275 (.cells #[(.int .i64 p3), (.int .i64 p4), (.slice t.2.1 t.1.length t.2.2)] 35 (0, 0)), rowO 3 encInt t.2.1 t.2.2 t.1] ∧ x3338 = t.1) (fun Kx3338 => ?_) ?_
  ·
    refine WC.block ?_
    refine WC.loop (T := ((List Int) × Int) × (Option Addr) × Nat) (fun t => [(1, (.int .i64 p1)), (2, (.int .i64 p2)), (3, (.int .i64 p3)), (5, (.pointer (some ⟨g3240, 0, none⟩))), (10, (.pointer (some ⟨g3244, 0, none⟩))), (12, (.pointer (some ⟨g3275, 0, none⟩))), (65, (.int .i64 p4)), (66, (.int .i64 t.1.2))]) (fun n t w1 => St NoS w w1 [rowR encInt A_p0_Cells c_p0_Cells p0.Cells] [blk g3240 (.cells #[(.int .i64 p0.Width), (.int .i64 p0.Height), (.slice A_p0_Cells p0.Cells.length c_p0_Cells)] 35 (0, 0)), blk g3244 (.cells #[(.int .i64 0), (.int .i64 0), (.slice none 0 0)] 35 (0, 0)), blk g3275 (.cells #[(.int .i64 p3), (.int .i64 p4), (.slice t.2.1 t.1.1.length t.2.2)] 35 (0, 0)), rowO 3 encInt t.2.1 t.2.2 t.1.1] ∧ tile_Cut.l0 n t.1.1 t.1.2 p0 p1 p2 p3 p4 = some x3338) k ((([] : List Int), 0), none, 0) [1, 2, 3, 5, 10, 12, 65, 66] rfl ⟨(hS3330.subR [0]).sub [3, 2, 1, 0] (by decide), hx3339⟩ ?_
    rintro k3340 ⟨⟨l3333, x3334⟩, A3331, c3332⟩ w3341 ⟨hS3342, hl3343⟩
    cases k3340 with
    | zero => rw [tile_Cut.l0] at hl3343; cases hl3343
    | succ k3340 =>
      rw [tile_Cut.l0] at hl3343
      refine WC.seq ?_
      refine WC.region ?_
      refine seg 1 [] [1, 2, 3, 5, 10, 12, 65, 66, 67] [(1, (.int .i64 p1)), (2, (.int .i64 p2)), (3, (.int .i64 p3)), (5, (.pointer (some ⟨g3240, 0, none⟩))), (10, (.pointer (some ⟨g3244, 0, none⟩))), (12, (.pointer (some ⟨g3275, 0, none⟩))), (65, (.int .i64 p4)), (66, (.int .i64 x3334)), (67, (.bool (decide (x3334 < p4))))] [] (fun fb => by kernel_rfl) rfl trivial ?_
      refine WL.done rfl ?_
      refine WX.next ?_
      refine WC.seq ?_
      rcases br_some hl3343 with ⟨h3344, hl3343⟩ | ⟨h3344, hl3343⟩
      · refine WC.condT2 (fun fb => by kernel_rfl) h3344 ?_
        refine WC.skip ?_
        refine WX.next ?_
        refine WC.seq ?_
        refine WC.block ?_
        refine WC.seq ?_
        refine WC.region ?_
        refine seg 2 [] [1, 2, 3, 5, 10, 12, 13, 65, 66] [(1, (.int .i64 p1)), (2, (.int .i64 p2)), (3, (.int .i64 p3)), (5, (.pointer (some ⟨g3240, 0, none⟩))), (10, (.pointer (some ⟨g3244, 0, none⟩))), (12, (.pointer (some ⟨g3275, 0, none⟩))), (13, (.int .i64 x3334)), (65, (.int .i64 p4)), (66, (.int .i64 x3334))] [] (fun fb => by kernel_rfl) rfl trivial ?_
        refine WL.done rfl ?_
        refine WX.next ?_
        refine WC.seq ?_
        refine WC.region ?_
        refine seg 9 [.v (.int .i64 p0.Width)] [1, 2, 3, 5, 10, 12, 14, 65, 66] [(1, (.int .i64 p1)), (2, (.int .i64 p2)), (3, (.int .i64 p3)), (5, (.pointer (some ⟨g3240, 0, none⟩))), (10, (.pointer (some ⟨g3244, 0, none⟩))), (12, (.pointer (some ⟨g3275, 0, none⟩))), (14, (.int .i64 (w64 ((w64 ((w64 (p2 + x3334)) * p0.Width)) + p1)))), (65, (.int .i64 p4)), (66, (.int .i64 x3334))] [.cell ⟨g3240, 0, none⟩ (.int .i64 p0.Width)] (fun fb => by kernel_rfl) rfl ⟨hS3342.cell 0 rfl 0 rfl, trivial⟩ ?_
        refine WL.done rfl ?_
        refine WX.next ?_
        refine WC.regionD ([(1, ⟨g3275, 2, none⟩, (.slice A3331 l3333.length c3332)), (3, ⟨g3240, 2, none⟩, (.slice A_p0_Cells p0.Cells.length c_p0_Cells))], [0, 1, 2, 3, 4, 5, 6, 7, 10], [[], [0], [], [2], [], [], [], [5, 6], [2, 3, 4, 5, 6, 7], [0, 1, 2, 3, 4, 5, 6, 7, 8], [0, 1, 2, 3, 4, 5, 6, 7, 8, 9], [0, 1, 2, 3, 4, 5, 6, 7, 8, 9, 10]]) [[0, 1, 2, 3, 4, 5, 6, 7, 8, 9, 10, 11]] (by kernel_rfl) (by kernel_rfl) (NoPanic.block (NoPanic.seq (NoPanic.seq (NoPanic.block (NoPanic.seq (NoPanic.body)))))) ?_
        have hS3355 := hS3342.drew
        revert hS3355
        generalize World.drew w3341 = w3354
        intro hS3355
        refine ⟨⟨hS3355.cell 2 rfl 2 rfl, hS3355.cell 0 rfl 2 rfl, trivial⟩, forallC ?_ (forallN)⟩
        refine segF 8 [.v (.slice A3331 l3333.length c3332), .v (.slice A_p0_Cells p0.Cells.length c_p0_Cells)] [1, 2, 3, 5, 10, 12, 65, 66, 78, 80, 81, 84] [(1, (.int .i64 p1)), (2, (.int .i64 p2)), (3, (.int .i64 p3)), (5, (.pointer (some ⟨g3240, 0, none⟩))), (10, (.pointer (some ⟨g3244, 0, none⟩))), (12, (.pointer (some ⟨g3275, 0, none⟩))), (65, (.int .i64 p4)), (66, (.int .i64 x3334)), (78, (.slice A3331 l3333.length c3332)), (80, (.slice A_p0_Cells p0.Cells.length c_p0_Cells)), (81, (.int .i64 (w64 ((w64 ((w64 (p2 + x3334)) * p0.Width)) + p1)))), (84, (.int .i64 (w64 ((w64 ((w64 ((w64 (p2 + x3334)) * p0.Width)) + p1)) + p3))))] [] [0, 1] [(1, ⟨g3275, 2, none⟩, (.slice A3331 l3333.length c3332)), (3, ⟨g3240, 2, none⟩, (.slice A_p0_Cells p0.Cells.length c_p0_Cells))] (fun fb => by kernel_rfl) rfl trivial rfl ?_
        obtain ⟨h3356, hl3343⟩ := as_some hl3343
        refine seg 9 [] [1, 2, 3, 5, 10, 12, 65, 66, 78, 85] [(1, (.int .i64 p1)), (2, (.int .i64 p2)), (3, (.int .i64 p3)), (5, (.pointer (some ⟨g3240, 0, none⟩))), (10, (.pointer (some ⟨g3244, 0, none⟩))), (12, (.pointer (some ⟨g3275, 0, none⟩))), (65, (.int .i64 p4)), (66, (.int .i64 x3334)), (78, (.slice A3331 l3333.length c3332)), (85, (.slice (subA A_p0_Cells c_p0_Cells (w64 ((w64 ((w64 (p2 + x3334)) * p0.Width)) + p1)).toNat 1) ((w64 ((w64 ((w64 ((w64 (p2 + x3334)) * p0.Width)) + p1)) + p3)).toNat - (w64 ((w64 ((w64 (p2 + x3334)) * p0.Width)) + p1)).toNat) (c_p0_Cells - (w64 ((w64 ((w64 (p2 + x3334)) * p0.Width)) + p1)).toNat)))] [.idx (some ⟨0, 0, none⟩) (w64 ((w64 ((w64 (p2 + x3334)) * p0.Width)) + p1)) ((w64 ((w64 ((w64 ((w64 (p2 + x3334)) * p0.Width)) + p1)) + p3)).toNat + 1), .idx (some ⟨0, 0, none⟩) (w64 ((w64 ((w64 ((w64 (p2 + x3334)) * p0.Width)) + p1)) + p3)) (c_p0_Cells + 1)] (fun fb => by kernel_rfl) rfl ⟨cut1 h3356.1 h3356.2.1, cut2 h3356.1 h3356.2.1 h3356.2.2 (hS3355.rd 0).1.2, trivial⟩ ?_
        refine WL.reE [1, 2, 3, 5, 10, 12, 65, 66, 78, 85] [(1, (.int .i64 p1)), (2, (.int .i64 p2)), (3, (.int .i64 p3)), (5, (.pointer (some ⟨g3240, 0, none⟩))), (10, (.pointer (some ⟨g3244, 0, none⟩))), (12, (.pointer (some ⟨g3275, 0, none⟩))), (65, (.int .i64 p4)), (66, (.int .i64 x3334)), (78, (.slice A3331 l3333.length c3332)), (85, (.slice (subA A_p0_Cells c_p0_Cells (w64 ((w64 ((w64 (p2 + x3334)) * p0.Width)) + p1)).toNat 1) ((w64 ((w64 ((w64 ((w64 (p2 + x3334)) * p0.Width)) + p1)) + p3)).toNat - (w64 ((w64 ((w64 (p2 + x3334)) * p0.Width)) + p1)).toNat) (c_p0_Cells - (w64 ((w64 ((w64 (p2 + x3334)) * p0.Width)) + p1)).toNat)))] [(1, (.int .i64 p1)), (2, (.int .i64 p2)), (3, (.int .i64 p3)), (5, (.pointer (some ⟨g3240, 0, none⟩))), (10, (.pointer (some ⟨g3244, 0, none⟩))), (12, (.pointer (some ⟨g3275, 0, none⟩))), (65, (.int .i64 p4)), (66, (.int .i64 x3334)), (78, (.slice A3331 l3333.length c3332)), (85, (.slice (subA A_p0_Cells c_p0_Cells (w64 ((w64 ((w64 (p2 + x3334)) * p0.Width)) + p1)).toNat 1) (cut p0.Cells (w64 ((w64 ((w64 (p2 + x3334)) * p0.Width)) + p1)) (w64 ((w64 ((w64 ((w64 (p2 + x3334)) * p0.Width)) + p1)) + p3))).length (c_p0_Cells - (w64 ((w64 ((w64 (p2 + x3334)) * p0.Width)) + p1)).toNat)))] rfl (by rw [cut_length h3356.1 h3356.2.1 h3356.2.2]) ?_
        have hS3357 := hS3355.cutR 0 rfl h3356.1 h3356.2.1 h3356.2.2
        obtain ⟨h3358, hl3343⟩ := as_some hl3343
        refine WL.append hS3357 3 (d := 86) (tS := 33) (z := (.int .i64 0)) (bytes := 8) (c2 := (c_p0_Cells - (w64 ((w64 ((w64 (p2 + x3334)) * p0.Width)) + p1)).toNat)) rfl (fun fb => by kernel_rfl) (hS3357.rd 0).1 (by kernel_rfl) (by kernel_rfl) rfl (by decide) h3358 (by decide) [0, 1, 2] (by decide) (by decide) (fun A3359 c3360 w3361 hS3362 => ?_)
        refine ⟨trivial, ?_⟩
        refine seg 11 [] [1, 2, 3, 5, 10, 12, 65, 66, 86, 87] [(1, (.int .i64 p1)), (2, (.int .i64 p2)), (3, (.int .i64 p3)), (5, (.pointer (some ⟨g3240, 0, none⟩))), (10, (.pointer (some ⟨g3244, 0, none⟩))), (12, (.pointer (some ⟨g3275, 0, none⟩))), (65, (.int .i64 p4)), (66, (.int .i64 x3334)), (86, (.slice A3359 (l3333 ++ (cut p0.Cells (w64 ((w64 ((w64 (p2 + x3334)) * p0.Width)) + p1)) (w64 ((w64 ((w64 ((w64 (p2 + x3334)) * p0.Width)) + p1)) + p3)))).length c3360)), (87, (.pointer (some ⟨g3275, 2, none⟩)))] [] (fun fb => by kernel_rfl) rfl trivial ?_
        refine WL.store hS3362 3 rfl [(2, (.slice A3359 (l3333 ++ (cut p0.Cells (w64 ((w64 ((w64 (p2 + x3334)) * p0.Width)) + p1)) (w64 ((w64 ((w64 ((w64 (p2 + x3334)) * p0.Width)) + p1)) + p3)))).length c3360))] #[(.int .i64 p3), (.int .i64 p4), (.slice A3359 (l3333 ++ (cut p0.Cells (w64 ((w64 ((w64 (p2 + x3334)) * p0.Width)) + p1)) (w64 ((w64 ((w64 ((w64 (p2 + x3334)) * p0.Width)) + p1)) + p3)))).length c3360)] (fun fb => by kernel_rfl) (by kernel_rfl) rfl [0, 1, 2] (by decide) (by decide) (fun w3363 hS3364 => ?_)
        refine ⟨trivial, ?_⟩
        refine WL.done rfl ?_
        refine WX.blockN (WX.next ?_)
        refine WC.region ?_
        refine seg 2 [] [1, 2, 3, 5, 10, 12, 65, 66] [(1, (.int .i64 p1)), (2, (.int .i64 p2)), (3, (.int .i64 p3)), (5, (.pointer (some ⟨g3240, 0, none⟩))), (10, (.pointer (some ⟨g3244, 0, none⟩))), (12, (.pointer (some ⟨g3275, 0, none⟩))), (65, (.int .i64 p4)), (66, (.int .i64 (w64 (x3334 + 1))))] [] (fun fb => by kernel_rfl) rfl trivial ?_
        refine WL.done rfl ?_
        exact WX.again k3340 (Nat.lt_succ_self _) ((l3333 ++ (cut p0.Cells (w64 ((w64 ((w64 (p2 + x3334)) * p0.Width)) + p1)) (w64 ((w64 ((w64 ((w64 (p2 + x3334)) * p0.Width)) + p1)) + p3))), w64 (x3334 + 1)), A3359, c3360) [1, 2, 3, 5, 10, 12, 65, 66] rfl ⟨(hS3364.subR [1]).sub [2, 3, 0, 1] (by decide), hl3343⟩
      refine WC.condF2 (fun fb => by kernel_rfl) h3344 ?_
      refine WC.exit ?_
      injection hl3343 with hl3343
      exact WX.thenX (WX.thenX (WX.blockHere (WX.to Kx3338 (l3333, A3331, c3332) [10, 12] rfl ⟨(hS3342.subR [0]).sub [1, 2, 3] (by decide), hl3343.symm⟩)))
  rintro ⟨y3368, A3335, c3336⟩ w3365 ⟨hS3366, hq3367⟩
  subst hq3367
  refine WX.next ?_
  refine WC.seq ?_
  refine WC.region ?_
  refine seg 1 [.v (.int .i64 p3), .v (.int .i64 p4), .v (.slice A3335 x3338.length c3336)] [10, 89] [(10, (.pointer (some ⟨g3244, 0, none⟩))), (89, (.agg #[(.int .i64 p3), (.int .i64 p4), (.slice A3335 x3338.length c3336)]))] [.cell ⟨g3275, 0, none⟩ (.int .i64 p3), .cell ⟨g3275, 1, none⟩ (.int .i64 p4), .cell ⟨g3275, 2, none⟩ (.slice A3335 x3338.length c3336)] (fun fb => by kernel_rfl) rfl ⟨hS3366.cell 1 rfl 0 rfl, hS3366.cell 1 rfl 1 rfl, hS3366.cell 1 rfl 2 rfl, trivial⟩ ?_
  refine WL.store hS3366 0 rfl [(0, (.int .i64 p3)), (1, (.int .i64 p4)), (2, (.slice A3335 x3338.length c3336))] #[(.int .i64 p3), (.int .i64 p4), (.slice A3335 x3338.length c3336)] (fun fb => by kernel_rfl) (by kernel_rfl) rfl [1, 2] (by decide) (by decide) (fun w3369 hS3370 => ?_)
  refine ⟨trivial, ?_⟩
  refine seg 3 [] [10, 11] [(10, (.pointer (some ⟨g3244, 0, none⟩))), (11, (.int .i64 0))] [] (fun fb => by kernel_rfl) rfl trivial ?_
  refine WL.done rfl ?_
  refine WX.next ?_
  refine WC.ret ?_
  injection hf with hf
  subst hf
  exact WX.ret_ [.v (.int .i64 p3), .v (.int .i64 p4), .v (.slice A3335 x3338.length c3336)] (.tuple #[(.agg #[(.int .i64 p3), (.int .i64 p4), (.slice A3335 x3338.length c3336)]), (.int .i64 0)]) [.cell ⟨g3244, 0, none⟩ (.int .i64 p3), .cell ⟨g3244, 1, none⟩ (.int .i64 p4), .cell ⟨g3244, 2, none⟩ (.slice A3335 x3338.length c3336)] (fun fb => by kernel_rfl) ⟨hS3370.cell 0 rfl 0 rfl, hS3370.cell 0 rfl 1 rfl, hS3370.cell 0 rfl 2 rfl, trivial⟩ ⟨_, rfl, A3335, c3336, rfl, (hS3370.sub [2] (by decide)).noR⟩
theorem tile_Repeat_calls (k : Nat) (p0 : Pattern) (p1 : Int) (p2 : Int) (A_p0_Cells : Option Addr) (c_p0_Cells : Nat) (r : Pattern × Int) (w : World) (hR0 : RO NoS w (rowR encInt A_p0_Cells c_p0_Cells p0.Cells)) (hf : tile_Repeat k p0 p1 p2 = some r) :
    CallsR Tryd.prog 32 #[(.agg #[(.int .i64 p0.Width), (.int .i64 p0.Height), (.slice A_p0_Cells p0.Cells.length c_p0_Cells)]), (.int .i64 p1), (.int .i64 p2)] w (fun v w' => ∃ (A1_ : Option Addr), ∃ (c1_ : Nat), v = (.tuple #[(.agg #[(.int .i64 r.1.Width), (.int .i64 r.1.Height), (.slice A1_ r.1.Cells.length c1_)]), (.int .i64 r.2)]) ∧ St NoS w w' [] [rowO 3 encInt A1_ c1_ r.1.Cells]) := by
  have hS : St NoS w w [rowR encInt A_p0_Cells c_p0_Cells p0.Cells] [] := St.init (ro_cons hR0 (ro_nil _ _))
  refine enter 70 Tryd.func32 rfl Tryd.ntmps32 rfl ?_
  unfold tile_Repeat at hf
  refine WC.seq ?_
  refine WC.region ?_
  refine WL.new hS 3 [] (fun g => (.pointer (some ⟨g, 0, none⟩))) (.cells #[(.int .i64 p0.Width), (.int .i64 p0.Height), (.slice A_p0_Cells p0.Cells.length c_p0_Cells)] 35 (0, 0)) [] (fun fb g => by kernel_rfl) trivial (fun g3384 w3385 hS3386 => ?_)
  refine ⟨trivial, ?_⟩
  refine WL.new hS3386 6 [] (fun g => (.pointer (some ⟨g, 0, none⟩))) (.cells #[(.int .i64 0), (.int .i64 0), (.slice none 0 0)] 35 (0, 0)) [] (fun fb g => by kernel_rfl) trivial (fun g3388 w3389 hS3390 => ?_)
  refine ⟨trivial, ?_⟩
  refine seg 3 [] [1, 2, 3, 6] [(1, (.int .i64 p1)), (2, (.int .i64 p2)), (3, (.pointer (some ⟨g3384, 0, none⟩))), (6, (.pointer (some ⟨g3388, 0, none⟩)))] [] (fun fb => by kernel_rfl) rfl trivial ?_
  refine WL.done rfl ?_
  refine WX.next ?_
  refine WC.seq ?_
  refine WC.seq ?_
  refine WC.region ?_
  refine seg 1 [.v (.int .i64 p0.Width), .v (.int .i64 p0.Height), .v (.slice A_p0_Cells p0.Cells.length c_p0_Cells)] [1, 2, 3, 6, 11] [(1, (.int .i64 p1)), (2, (.int .i64 p2)), (3, (.pointer (some ⟨g3384, 0, none⟩))), (6, (.pointer (some ⟨g3388, 0, none⟩))), (11, (.agg #[(.int .i64 p0.Width), (.int .i64 p0.Height), (.slice A_p0_Cells p0.Cells.length c_p0_Cells)]))] [.cell ⟨g3384, 0, none⟩ (.int .i64 p0.Width), .cell ⟨g3384, 1, none⟩ (.int .i64 p0.Height), .cell ⟨g3384, 2, none⟩ (.slice A_p0_Cells p0.Cells.length c_p0_Cells)] (fun fb => by kernel_rfl) rfl ⟨hS3390.cell 1 rfl 0 rfl, hS3390.cell 1 rfl 1 rfl, hS3390.cell 1 rfl 2 rfl, trivial⟩ ?_
  obtain ⟨t3392, ht3393, hf⟩ := bind_some hf
  refine WL.call (some 12) 54 #[(.agg #[(.int .i64 p0.Width), (.int .i64 p0.Height), (.slice A_p0_Cells p0.Cells.length c_p0_Cells)])] (fun fb => by kernel_rfl) (tile_Form_calls p0 A_p0_Cells c_p0_Cells t3392 _ (hS3390.rd 0) ht3393) (fun v w3394 hR3395 => ?_)
  obtain ⟨rfl, hk_⟩ := hR3395
  have hS3396 := hS3390.keepN hk_
  refine ⟨trivial, ?_⟩
  refine seg 3 [] [1, 2, 3, 6, 13] [(1, (.int .i64 p1)), (2, (.int .i64 p2)), (3, (.pointer (some ⟨g3384, 0, none⟩))), (6, (.pointer (some ⟨g3388, 0, none⟩))), (13, (.bool (!t3392)))] [] (fun fb => by kernel_rfl) rfl trivial ?_
  refine WL.done rfl ?_
  refine WX.next ?_
  rcases br_some hf with ⟨h3397, hf⟩ | ⟨h3397, hf⟩
  · refine WC.condT2 (fun fb => by kernel_rfl) h3397 ?_
    refine WC.seq ?_
    refine WC.region ?_
    refine seg 1 [] [6, 14] [(6, (.pointer (some ⟨g3388, 0, none⟩))), (14, (.agg #[(.int .i64 0), (.int .i64 0), (.slice none 0 0)]))] [] (fun fb => by kernel_rfl) rfl trivial ?_
    refine WL.store hS3396 0 rfl [(0, (.int .i64 0)), (1, (.int .i64 0)), (2, (.slice none 0 0))] #[(.int .i64 0), (.int .i64 0), (.slice none 0 0)] (fun fb => by kernel_rfl) (by kernel_rfl) rfl [1] (by decide) (by decide) (fun w3398 hS3399 => ?_)
    refine ⟨trivial, ?_⟩
    refine seg 3 [] [6, 7] [(6, (.pointer (some ⟨g3388, 0, none⟩))), (7, (.int .i64 1))] [] (fun fb => by kernel_rfl) rfl trivial ?_
    refine WL.done rfl ?_
    refine WX.next ?_
    refine WC.ret ?_
    have hS3400 := hS3399.nilrow 3 encInt
    injection hf with hf
    subst hf
    exact WX.thenR (WX.ret_ [.v (.int .i64 0), .v (.int .i64 0), .v (.slice none 0 0)] (.tuple #[(.agg #[(.int .i64 0), (.int .i64 0), (.slice none ([] : List Int).length 0)]), (.int .i64 1)]) [.cell ⟨g3388, 0, none⟩ (.int .i64 0), .cell ⟨g3388, 1, none⟩ (.int .i64 0), .cell ⟨g3388, 2, none⟩ (.slice none 0 0)] (fun fb => by kernel_rfl) ⟨hS3399.cell 0 rfl 0 rfl, hS3399.cell 0 rfl 1 rfl, hS3399.cell 0 rfl 2 rfl, trivial⟩ ⟨_, rfl, none, 0, rfl, (hS3400.sub [0] (by decide)).noR⟩)
  refine WC.condF2 (fun fb => by kernel_rfl) h3397 ?_
  refine WC.skip ?_
  refine WX.next ?_
  refine WC.seq ?_
  refine WC.seq ?_
  refine WC.region ?_
  refine seg 3 [] [1, 2, 3, 6, 17] [(1, (.int .i64 p1)), (2, (.int .i64 p2)), (3, (.pointer (some ⟨g3384, 0, none⟩))), (6, (.pointer (some ⟨g3388, 0, none⟩))), (17, (.bool (decide (p1 < 1))))] [] (fun fb => by kernel_rfl) rfl trivial ?_
  refine WL.cutV (T := Bool) 6 (fun t => [(20, (.bool t)), (1, (.int .i64 p1)), (2, (.int .i64 p2)), (3, (.pointer (some ⟨g3384, 0, none⟩))), (6, (.pointer (some ⟨g3388, 0, none⟩)))]) (fun t => t = ((decide (p1 < 1)) || (decide (p2 < 1)))) (fun K => ?_) ?_
  ·
    rcases Bool.eq_false_or_eq_true (decide (p1 < 1)) with h3401 | h3401
    ·
      refine WL.setB 17 h3401 rfl ?_
      refine seg 6 [] [1, 2, 3, 6, 20] [(1, (.int .i64 p1)), (2, (.int .i64 p2)), (3, (.pointer (some ⟨g3384, 0, none⟩))), (6, (.pointer (some ⟨g3388, 0, none⟩))), (20, (.bool true))] [] (fun fb => by kernel_rfl) rfl trivial ?_
      exact WL.toV K true [20, 1, 2, 3, 6] rfl (by first | (rw [h3401]; done) | (rw [h3401]; rfl))
    refine WL.setB 17 h3401 rfl ?_
    refine seg 6 [] [1, 2, 3, 6, 20] [(1, (.int .i64 p1)), (2, (.int .i64 p2)), (3, (.pointer (some ⟨g3384, 0, none⟩))), (6, (.pointer (some ⟨g3388, 0, none⟩))), (20, (.bool (decide (p2 < 1))))] [] (fun fb => by kernel_rfl) rfl trivial ?_
    exact WL.toV K (decide (p2 < 1)) [20, 1, 2, 3, 6] rfl (by first | (rw [h3401]; done) | (rw [h3401]; rfl))
  rintro b3402 rfl
  refine WL.done rfl ?_
  refine WX.next ?_
  rcases br_some hf with ⟨h3403, hf⟩ | ⟨h3403, hf⟩
  · refine WC.condT2 (fun fb => by kernel_rfl) h3403 ?_
    refine WC.seq ?_
    refine WC.region ?_
    refine seg 1 [] [6, 21] [(6, (.pointer (some ⟨g3388, 0, none⟩))), (21, (.agg #[(.int .i64 0), (.int .i64 0), (.slice none 0 0)]))] [] (fun fb => by kernel_rfl) rfl trivial ?_
    refine WL.store hS3396 0 rfl [(0, (.int .i64 0)), (1, (.int .i64 0)), (2, (.slice none 0 0))] #[(.int .i64 0), (.int .i64 0), (.slice none 0 0)] (fun fb => by kernel_rfl) (by kernel_rfl) rfl [1] (by decide) (by decide) (fun w3404 hS3405 => ?_)
    refine ⟨trivial, ?_⟩
    refine seg 3 [] [6, 7] [(6, (.pointer (some ⟨g3388, 0, none⟩))), (7, (.int .i64 2))] [] (fun fb => by kernel_rfl) rfl trivial ?_
    refine WL.done rfl ?_
    refine WX.next ?_
    refine WC.ret ?_
    have hS3406 := hS3405.nilrow 3 encInt
    injection hf with hf
    subst hf
    exact WX.thenR (WX.ret_ [.v (.int .i64 0), .v (.int .i64 0), .v (.slice none 0 0)] (.tuple #[(.agg #[(.int .i64 0), (.int .i64 0), (.slice none ([] : List Int).length 0)]), (.int .i64 2)]) [.cell ⟨g3388, 0, none⟩ (.int .i64 0), .cell ⟨g3388, 1, none⟩ (.int .i64 0), .cell ⟨g3388, 2, none⟩ (.slice none 0 0)] (fun fb => by kernel_rfl) ⟨hS3405.cell 0 rfl 0 rfl, hS3405.cell 0 rfl 1 rfl, hS3405.cell 0 rfl 2 rfl, trivial⟩ ⟨_, rfl, none, 0, rfl, (hS3406.sub [0] (by decide)).noR⟩)
  refine WC.condF2 (fun fb => by kernel_rfl) h3403 ?_
  refine WC.skip ?_
  refine WX.next ?_
  refine WC.seq ?_
  refine WC.seq ?_
  refine WC.region ?_
  refine seg 3 [] [1, 2, 3, 6, 24] [(1, (.int .i64 p1)), (2, (.int .i64 p2)), (3, (.pointer (some ⟨g3384, 0, none⟩))), (6, (.pointer (some ⟨g3388, 0, none⟩))), (24, (.bool (decide (p1 > 40000))))] [] (fun fb => by kernel_rfl) rfl trivial ?_
  refine WL.cutV (T := Bool) 6 (fun t => [(27, (.bool t)), (1, (.int .i64 p1)), (2, (.int .i64 p2)), (3, (.pointer (some ⟨g3384, 0, none⟩))), (6, (.pointer (some ⟨g3388, 0, none⟩)))]) (fun t => t = ((decide (p1 > 40000)) || (decide (p2 > 40000)))) (fun K => ?_) ?_
  ·
    rcases Bool.eq_false_or_eq_true (decide (p1 > 40000)) with h3407 | h3407
    ·
      refine WL.setB 24 h3407 rfl ?_
      refine seg 6 [] [1, 2, 3, 6, 27] [(1, (.int .i64 p1)), (2, (.int .i64 p2)), (3, (.pointer (some ⟨g3384, 0, none⟩))), (6, (.pointer (some ⟨g3388, 0, none⟩))), (27, (.bool true))] [] (fun fb => by kernel_rfl) rfl trivial ?_
      exact WL.toV K true [27, 1, 2, 3, 6] rfl (by first | (rw [h3407]; done) | (rw [h3407]; rfl))
    refine WL.setB 24 h3407 rfl ?_
    refine seg 6 [] [1, 2, 3, 6, 27] [(1, (.int .i64 p1)), (2, (.int .i64 p2)), (3, (.pointer (some ⟨g3384, 0, none⟩))), (6, (.pointer (some ⟨g3388, 0, none⟩))), (27, (.bool (decide (p2 > 40000))))] [] (fun fb => by kernel_rfl) rfl trivial ?_
    exact WL.toV K (decide (p2 > 40000)) [27, 1, 2, 3, 6] rfl (by first | (rw [h3407]; done) | (rw [h3407]; rfl))
  rintro b3408 rfl
  refine seg 7 [] [1, 2, 3, 6, 28] [(1, (.int .i64 p1)), (2, (.int .i64 p2)), (3, (.pointer (some ⟨g3384, 0, none⟩))), (6, (.pointer (some ⟨g3388, 0, none⟩))), (28, (.bool ((decide (p1 > 40000)) || (decide (p2 > 40000)))))] [] (fun fb => by kernel_rfl) rfl trivial ?_
  refine WL.cutV (T := Bool) 12 (fun t => [(33, (.bool t)), (1, (.int .i64 p1)), (2, (.int .i64 p2)), (3, (.pointer (some ⟨g3384, 0, none⟩))), (6, (.pointer (some ⟨g3388, 0, none⟩)))]) (fun t => t = (((decide (p1 > 40000)) || (decide (p2 > 40000))) || (decide (w64 (p1 * p2) > 40000)))) (fun K => ?_) ?_
  ·
    rcases Bool.eq_false_or_eq_true ((decide (p1 > 40000)) || (decide (p2 > 40000))) with h3409 | h3409
    ·
      refine WL.setB 28 h3409 rfl ?_
      refine seg 12 [] [1, 2, 3, 6, 33] [(1, (.int .i64 p1)), (2, (.int .i64 p2)), (3, (.pointer (some ⟨g3384, 0, none⟩))), (6, (.pointer (some ⟨g3388, 0, none⟩))), (33, (.bool true))] [] (fun fb => by kernel_rfl) rfl trivial ?_
      exact WL.toV K true [33, 1, 2, 3, 6] rfl (by first | (rw [h3409]; done) | (rw [h3409]; rfl))
    refine WL.setB 28 h3409 rfl ?_
    refine seg 12 [] [1, 2, 3, 6, 33] [(1, (.int .i64 p1)), (2, (.int .i64 p2)), (3, (.pointer (some ⟨g3384, 0, none⟩))), (6, (.pointer (some ⟨g3388, 0, none⟩))), (33, (.bool (decide (w64 (p1 * p2) > 40000))))] [] (fun fb => by kernel_rfl) rfl trivial ?_
    exact WL.toV K (decide (w64 (p1 * p2) > 40000)) [33, 1, 2, 3, 6] rfl (by first | (rw [h3409]; done) | (rw [h3409]; rfl))
  rintro b3410 rfl
  refine WL.done rfl ?_
  refine WX.next ?_
  rcases br_some hf with ⟨h3411, hf⟩ | ⟨h3411, hf⟩
  · refine WC.condT2 (fun fb => by kernel_rfl) h3411 ?_
    refine WC.seq ?_
    refine WC.region ?_
    refine seg 1 [] [6, 34] [(6, (.pointer (some ⟨g3388, 0, none⟩))), (34, (.agg #[(.int .i64 0), (.int .i64 0), (.slice none 0 0)]))] [] (fun fb => by kernel_rfl) rfl trivial ?_
    refine WL.store hS3396 0 rfl [(0, (.int .i64 0)), (1, (.int .i64 0)), (2, (.slice none 0 0))] #[(.int .i64 0), (.int .i64 0), (.slice none 0 0)] (fun fb => by kernel_rfl) (by kernel_rfl) rfl [1] (by decide) (by decide) (fun w3412 hS3413 => ?_)
    refine ⟨trivial, ?_⟩
    refine seg 3 [] [6, 7] [(6, (.pointer (some ⟨g3388, 0, none⟩))), (7, (.int .i64 4))] [] (fun fb => by kernel_rfl) rfl trivial ?_
    refine WL.done rfl ?_
    refine WX.next ?_
    refine WC.ret ?_
    have hS3414 := hS3413.nilrow 3 encInt
    injection hf with hf
    subst hf
    exact WX.thenR (WX.ret_ [.v (.int .i64 0), .v (.int .i64 0), .v (.slice none 0 0)] (.tuple #[(.agg #[(.int .i64 0), (.int .i64 0), (.slice none ([] : List Int).length 0)]), (.int .i64 4)]) [.cell ⟨g3388, 0, none⟩ (.int .i64 0), .cell ⟨g3388, 1, none⟩ (.int .i64 0), .cell ⟨g3388, 2, none⟩ (.slice none 0 0)] (fun fb => by kernel_rfl) ⟨hS3413.cell 0 rfl 0 rfl, hS3413.cell 0 rfl 1 rfl, hS3413.cell 0 rfl 2 rfl, trivial⟩ ⟨_, rfl, none, 0, rfl, (hS3414.sub [0] (by decide)).noR⟩)
  refine WC.condF2 (fun fb => by kernel_rfl) h3411 ?_
  refine WC.skip ?_
  refine WX.next ?_
  refine WC.seq ?_
  refine WC.region ?_
  refine seg 3 [] [1, 2, 3, 6, 37] [(1, (.int .i64 p1)), (2, (.int .i64 p2)), (3, (.pointer (some ⟨g3384, 0, none⟩))), (6, (.pointer (some ⟨g3388, 0, none⟩))), (37, (.agg #[(.int .i64 p1), (.int .i64 p2), (.slice none 0 0)]))] [] (fun fb => by kernel_rfl) rfl trivial ?_
  refine WL.new hS3396 8 [] (fun g => (.pointer (some ⟨g, 0, none⟩))) (.cells #[(.int .i64 0), (.int .i64 0), (.slice none 0 0)] 35 (0, 0)) [] (fun fb g => by kernel_rfl) trivial (fun g3415 w3416 hS3417 => ?_)
  refine ⟨trivial, ?_⟩
  refine WL.store hS3417 0 rfl [(0, (.int .i64 p1)), (1, (.int .i64 p2)), (2, (.slice none 0 0))] #[(.int .i64 p1), (.int .i64 p2), (.slice none 0 0)] (fun fb => by kernel_rfl) (by kernel_rfl) rfl [1, 2] (by decide) (by decide) (fun w3419 hS3420 => ?_)
  refine ⟨trivial, ?_⟩
  refine WL.done rfl ?_
  refine WX.next ?_
  refine WC.seq ?_
  refine WC.seq ?_
  refine WC.region ?_
  refine seg 2 [] [1, 3, 6, 8, 38, 39] [(1, (.int .i64 p1)), (3, (.pointer (some ⟨g3384, 0, none⟩))), (6, (.pointer (some ⟨g3388, 0, none⟩))), (8, (.pointer (some ⟨g3415, 0, none⟩))), (38, (.int .i64 p2)), (39, (.int .i64 0))] [] (fun fb => by kernel_rfl) rfl trivial ?_
  refine WL.done rfl ?_
  refine WX.next ?_
  have hS3690 := hS3420.nilrow 3 encInt
  obtain ⟨x3698, hx3699, hf⟩ := bind_some hf
  refine WC.cutN (T := (List Int) × (Option Addr) × Nat) (fun t => [(6, (.pointer (some ⟨g3388, 0, none⟩))), (8, (.pointer (some ⟨g3415, 0, none⟩)))]) (fun t w1 => St NoS w w1 [rowR encInt A_p0_Cells c_p0_Cells p0.Cells] [blk g3388 (.cells #[(.int .i64 0), (.int .i64 0), (.slice none 0 0)] 35 (0, 0)), blk g3415 (.cells #[(.int .i64 p1), (.int .i64 p2), (.slice t.2.1 t.1.length t.2.2)] 35 (0, 0)), rowO 3 encInt t.2.1 t.2.2 t.1] ∧ x3698 = t.1) (fun Kx3698 => ?_) ?_
  ·
    refine WC.block ?_
    refine WC.loop (T := ((List Int) × Int) × (Option Addr) × Nat) (fun t => [(1, (.int .i64 p1)), (3, (.pointer (some ⟨g3384, 0, none⟩))), (6, (.pointer (some ⟨g3388, 0, none⟩))), (8, (.pointer (some ⟨g3415, 0, none⟩))), (38, (.int .i64 p2)), (39, (.int .i64 t.1.2))]) (fun n t w1 => St NoS w w1 [rowR encInt A_p0_Cells c_p0_Cells p0.Cells] [blk g3384 (.cells #[(.int .i64 p0.Width), (.int .i64 p0.Height), (.slice A_p0_Cells p0.Cells.length c_p0_Cells)] 35 (0, 0)), blk g3388 (.cells #[(.int .i64 0), (.int .i64 0), (.slice none 0 0)] 35 (0, 0)), blk g3415 (.cells #[(.int .i64 p1), (.int .i64 p2), (.slice t.2.1 t.1.1.length t.2.2)] 35 (0, 0)), rowO 3 encInt t.2.1 t.2.2 t.1.1] ∧ tile_Repeat.l0 n t.1.1 t.1.2 p0 p1 p2 = some x3698) k ((([] : List Int), 0), none, 0) [1, 3, 6, 8, 38, 39] rfl ⟨(hS3690.subR [0]).sub [3, 2, 1, 0] (by decide), hx3699⟩ ?_
    rintro k3700 ⟨⟨l3693, x3694⟩, A3691, c3692⟩ w3701 ⟨hS3702, hl3703⟩
    cases k3700 with
    | zero => rw [tile_Repeat.l0] at hl3703; cases hl3703
    | succ k3700 =>
      rw [tile_Repeat.l0] at hl3703
      refine WC.seq ?_
      refine WC.region ?_
      refine seg 1 [] [1, 3, 6, 8, 38, 39, 40] [(1, (.int .i64 p1)), (3, (.pointer (some ⟨g3384, 0, none⟩))), (6, (.pointer (some ⟨g3388, 0, none⟩))), (8, (.pointer (some ⟨g3415, 0, none⟩))), (38, (.int .i64 p2)), (39, (.int .i64 x3694)), (40, (.bool (decide (x3694 < p2))))] [] (fun fb => by kernel_rfl) rfl trivial ?_
      refine WL.done rfl ?_
      refine WX.next ?_
      refine WC.seq ?_
      rcases br_some hl3703 with ⟨h3704, hl3703⟩ | ⟨h3704, hl3703⟩
      · refine WC.condT2 (fun fb => by kernel_rfl) h3704 ?_
        refine WC.skip ?_
        refine WX.next ?_
        refine WC.seq ?_
        refine WC.block ?_
        refine WC.seq ?_
        refine WC.region ?_
        refine seg 2 [] [1, 3, 6, 8, 9, 38, 39] [(1, (.int .i64 p1)), (3, (.pointer (some ⟨g3384, 0, none⟩))), (6, (.pointer (some ⟨g3388, 0, none⟩))), (8, (.pointer (some ⟨g3415, 0, none⟩))), (9, (.int .i64 x3694)), (38, (.int .i64 p2)), (39, (.int .i64 x3694))] [] (fun fb => by kernel_rfl) rfl trivial ?_
        refine WL.done rfl ?_
        refine WX.next ?_
        refine WC.seq ?_
        refine WC.region ?_
        refine seg 2 [] [1, 3, 6, 8, 9, 38, 39, 42, 43] [(1, (.int .i64 p1)), (3, (.pointer (some ⟨g3384, 0, none⟩))), (6, (.pointer (some ⟨g3388, 0, none⟩))), (8, (.pointer (some ⟨g3415, 0, none⟩))), (9, (.int .i64 x3694)), (38, (.int .i64 p2)), (39, (.int .i64 x3694)), (42, (.int .i64 p1)), (43, (.int .i64 0))] [] (fun fb => by kernel_rfl) rfl trivial ?_
        refine WL.done rfl ?_
        refine WX.next ?_
        obtain ⟨x3788, hx3789, hl3703⟩ := bind_some hl3703
        refine WC.cutN (T := (List Int) × (Option Addr) × Nat) (fun t => [(1, (.int .i64 p1)), (3, (.pointer (some ⟨g3384, 0, none⟩))), (6, (.pointer (some ⟨g3388, 0, none⟩))), (8, (.pointer (some ⟨g3415, 0, none⟩))), (38, (.int .i64 p2)), (39, (.int .i64 x3694))]) (fun t w1 => St NoS w w1 [rowR encInt A_p0_Cells c_p0_Cells p0.Cells] [blk g3384 (.cells #[(.int .i64 p0.Width), (.int .i64 p0.Height), (.slice A_p0_Cells p0.Cells.length c_p0_Cells)] 35 (0, 0)), blk g3388 (.cells #[(.int .i64 0), (.int .i64 0), (.slice none 0 0)] 35 (0, 0)), blk g3415 (.cells #[(.int .i64 p1), (.int .i64 p2), (.slice t.2.1 t.1.length t.2.2)] 35 (0, 0)), rowO 3 encInt t.2.1 t.2.2 t.1] ∧ x3788 = t.1) (fun Kx3788 => ?_) ?_
        ·
          refine WC.block ?_
          refine WC.loop (T := ((List Int) × Int) × (Option Addr) × Nat) (fun t => [(1, (.int .i64 p1)), (3, (.pointer (some ⟨g3384, 0, none⟩))), (6, (.pointer (some ⟨g3388, 0, none⟩))), (8, (.pointer (some ⟨g3415, 0, none⟩))), (9, (.int .i64 x3694)), (38, (.int .i64 p2)), (39, (.int .i64 x3694)), (42, (.int .i64 p1)), (43, (.int .i64 t.1.2))]) (fun n t w1 => St NoS w w1 [rowR encInt A_p0_Cells c_p0_Cells p0.Cells] [blk g3384 (.cells #[(.int .i64 p0.Width), (.int .i64 p0.Height), (.slice A_p0_Cells p0.Cells.length c_p0_Cells)] 35 (0, 0)), blk g3388 (.cells #[(.int .i64 0), (.int .i64 0), (.slice none 0 0)] 35 (0, 0)), blk g3415 (.cells #[(.int .i64 p1), (.int .i64 p2), (.slice t.2.1 t.1.1.length t.2.2)] 35 (0, 0)), rowO 3 encInt t.2.1 t.2.2 t.1.1] ∧ tile_Repeat.l1 n t.1.1 t.1.2 p0 p1 x3694 = some x3788) k3700 ((l3693, 0), A3691, c3692) [1, 3, 6, 8, 9, 38, 39, 42, 43] rfl ⟨(hS3702.subR [0]).sub [0, 1, 2, 3] (by decide), hx3789⟩ ?_
          rintro k3790 ⟨⟨l3783, x3784⟩, A3781, c3782⟩ w3791 ⟨hS3792, hl3793⟩
          cases k3790 with
          | zero => rw [tile_Repeat.l1] at hl3793; cases hl3793
          | succ k3790 =>
            rw [tile_Repeat.l1] at hl3793
            refine WC.seq ?_
            refine WC.region ?_
            refine seg 1 [] [1, 3, 6, 8, 9, 38, 39, 42, 43, 44] [(1, (.int .i64 p1)), (3, (.pointer (some ⟨g3384, 0, none⟩))), (6, (.pointer (some ⟨g3388, 0, none⟩))), (8, (.pointer (some ⟨g3415, 0, none⟩))), (9, (.int .i64 x3694)), (38, (.int .i64 p2)), (39, (.int .i64 x3694)), (42, (.int .i64 p1)), (43, (.int .i64 x3784)), (44, (.bool (decide (x3784 < p1))))] [] (fun fb => by kernel_rfl) rfl trivial ?_
            refine WL.done rfl ?_
            refine WX.next ?_
            refine WC.seq ?_
            rcases br_some hl3793 with ⟨h3794, hl3793⟩ | ⟨h3794, hl3793⟩
            · refine WC.condT2 (fun fb => by kernel_rfl) h3794 ?_
              refine WC.skip ?_
              refine WX.next ?_
              refine WC.seq ?_
              refine WC.block ?_
              refine WC.seq ?_
              refine WC.region ?_
              refine seg 2 [] [1, 3, 6, 8, 9, 10, 38, 39, 42, 43] [(1, (.int .i64 p1)), (3, (.pointer (some ⟨g3384, 0, none⟩))), (6, (.pointer (some ⟨g3388, 0, none⟩))), (8, (.pointer (some ⟨g3415, 0, none⟩))), (9, (.int .i64 x3694)), (10, (.int .i64 x3784)), (38, (.int .i64 p2)), (39, (.int .i64 x3694)), (42, (.int .i64 p1)), (43, (.int .i64 x3784))] [] (fun fb => by kernel_rfl) rfl trivial ?_
              refine WL.done rfl ?_
              refine WX.next ?_
              obtain ⟨h3815, hl3793⟩ := as_some hl3793
              obtain ⟨h3816, hl3793⟩ := as_some hl3793
              obtain ⟨h3817, hl3793⟩ := as_some hl3793
              refine WC.regionD ([(1, ⟨g3415, 2, none⟩, (.slice A3781 l3783.length c3782)), (3, ⟨g3384, 2, none⟩, (.slice A_p0_Cells p0.Cells.length c_p0_Cells)), (6, ⟨g3384, 1, none⟩, (.int .i64 p0.Height)), (9, ⟨g3384, 0, none⟩, (.int .i64 p0.Width)), (13, ⟨g3384, 0, none⟩, (.int .i64 p0.Width)), (17, ((adr A_p0_Cells).add ((w64 ((w64 ((Int.tmod x3694 p0.Height) * p0.Width)) + (Int.tmod x3784 p0.Width))).toNat * 1)), (.int .i64 (rdD p0.Cells (w64 ((w64 ((Int.tmod x3694 p0.Height) * p0.Width)) + (Int.tmod x3784 p0.Width))) 0)))], [0, 1, 2, 3, 4, 5, 6, 7, 8, 9, 10, 11, 12, 13, 14, 15, 16, 17, 20], [[], [0], [], [2], [], [], [5], [4, 5, 6], [], [8], [4, 5, 6, 7, 8, 9], [], [], [12], [11, 12, 13], [4, 5, 6, 7, 8, 9, 10, 11, 12, 13, 14], [2, 3, 4, 5, 6, 7, 8, 9, 10, 11, 12, 13, 14, 15], [2, 3, 4, 5, 6, 7, 8, 9, 10, 11, 12, 13, 14, 15, 16], [2, 3, 4, 5, 6, 7, 8, 9, 10, 11, 12, 13, 14, 15, 16, 17], [0, 1, 2, 3, 4, 5, 6, 7, 8, 9, 10, 11, 12, 13, 14, 15, 16, 17, 18], [0, 1, 2, 3, 4, 5, 6, 7, 8, 9, 10, 11, 12, 13, 14, 15, 16, 17, 18, 19], [0, 1, 2, 3, 4, 5, 6, 7, 8, 9, 10, 11, 12, 13, 14, 15, 16, 17, 18, 19, 20]]) [[0, 1, 2, 3, 4, 5, 6, 7, 8, 9, 10, 11, 12, 13, 14, 15, 16, 17, 18, 19, 20, 21]] (by kernel_rfl) (by kernel_rfl) (NoPanic.block (NoPanic.seq (NoPanic.seq (NoPanic.block (NoPanic.block (NoPanic.seq (NoPanic.seq (NoPanic.block (NoPanic.seq (NoPanic.body)))))))))) ?_
              have hS3811 := hS3792.drew
              revert hS3811
              generalize World.drew w3791 = w3810
              intro hS3811
              refine ⟨⟨hS3811.cell 2 rfl 2 rfl, hS3811.cell 0 rfl 2 rfl, hS3811.cell 0 rfl 1 rfl, hS3811.cell 0 rfl 0 rfl, hS3811.cell 0 rfl 0 rfl, rowR.cell (hS3811.rd 0).1 0 h3817.1 h3817.2 0 rfl, trivial⟩, forallC ?_ (forallN)⟩
              refine segF 18 [.v (.slice A3781 l3783.length c3782), .v (.slice A_p0_Cells p0.Cells.length c_p0_Cells), .v (.int .i64 p0.Height), .v (.int .i64 p0.Width), .v (.int .i64 p0.Width), .v (.int .i64 (rdD p0.Cells (w64 ((w64 ((Int.tmod x3694 p0.Height) * p0.Width)) + (Int.tmod x3784 p0.Width))) 0))] [1, 3, 6, 8, 9, 38, 39, 42, 43, 47, 63] [(1, (.int .i64 p1)), (3, (.pointer (some ⟨g3384, 0, none⟩))), (6, (.pointer (some ⟨g3388, 0, none⟩))), (8, (.pointer (some ⟨g3415, 0, none⟩))), (9, (.int .i64 x3694)), (38, (.int .i64 p2)), (39, (.int .i64 x3694)), (42, (.int .i64 p1)), (43, (.int .i64 x3784)), (47, (.slice A3781 l3783.length c3782)), (63, (.int .i64 (rdD p0.Cells (w64 ((w64 ((Int.tmod x3694 p0.Height) * p0.Width)) + (Int.tmod x3784 p0.Width))) 0)))] [.ne p0.Height, .ne p0.Width, .idx A_p0_Cells (w64 ((w64 ((Int.tmod x3694 p0.Height) * p0.Width)) + (Int.tmod x3784 p0.Width))) p0.Cells.length] [0, 1, 2, 3, 4, 5] [(1, ⟨g3415, 2, none⟩, (.slice A3781 l3783.length c3782)), (3, ⟨g3384, 2, none⟩, (.slice A_p0_Cells p0.Cells.length c_p0_Cells)), (6, ⟨g3384, 1, none⟩, (.int .i64 p0.Height)), (9, ⟨g3384, 0, none⟩, (.int .i64 p0.Width)), (13, ⟨g3384, 0, none⟩, (.int .i64 p0.Width)), (17, ((adr A_p0_Cells).add ((w64 ((w64 ((Int.tmod x3694 p0.Height) * p0.Width)) + (Int.tmod x3784 p0.Width))).toNat * 1)), (.int .i64 (rdD p0.Cells (w64 ((w64 ((Int.tmod x3694 p0.Height) * p0.Width)) + (Int.tmod x3784 p0.Width))) 0)))] (fun fb => by kernel_rfl) rfl ⟨h3815, h3816, rowR.adr (hS3811.rd 0).1 h3817.1 h3817.2, trivial⟩ rfl ?_
              refine WL.new hS3811 64 [] (fun g => (.slice (some ⟨g, 0, none⟩) 1 1)) (.cells #[(.int .i64 (rdD p0.Cells (w64 ((w64 ((Int.tmod x3694 p0.Height) * p0.Width)) + (Int.tmod x3784 p0.Width))) 0))] 3 (0, 0)) [] (fun fb g => by kernel_rfl) trivial (fun g3818 w3819 hS3820 => ?_)
              refine ⟨⟨hS3820.cell 3 rfl 2 rfl, trivial⟩, ?_⟩
              have hS3822 : St NoS w w3819 [rowR encInt A_p0_Cells c_p0_Cells p0.Cells] [rowO 3 encInt (some ⟨g3818, 0, none⟩) 1 [(rdD p0.Cells (w64 ((w64 ((Int.tmod x3694 p0.Height) * p0.Width)) + (Int.tmod x3784 p0.Width))) 0)], blk g3384 (.cells #[(.int .i64 p0.Width), (.int .i64 p0.Height), (.slice A_p0_Cells p0.Cells.length c_p0_Cells)] 35 (0, 0)), blk g3388 (.cells #[(.int .i64 0), (.int .i64 0), (.slice none 0 0)] 35 (0, 0)), blk g3415 (.cells #[(.int .i64 p1), (.int .i64 p2), (.slice A3781 l3783.length c3782)] 35 (0, 0)), rowO 3 encInt A3781 c3782 l3783] := hS3820.map1 0 _ (fun h => rowO.ofBlk h rfl (Nat.le_of_ble_eq_true (by kernel_rfl))) (fun _ h => by obtain ⟨_, h1, h2⟩ := h; injection h1 with h1; subst h1; exact h2) [1, 2, 3, 4] (by decide) (by decide)
              obtain ⟨h3823, hl3793⟩ := as_some hl3793
              refine WL.append hS3822 4 (d := 65) (tS := 33) (z := (.int .i64 0)) (bytes := 8) (c2 := 1) rfl (fun fb => by kernel_rfl) (rowO.rd (hS3822.own 0).1) (by kernel_rfl) (by kernel_rfl) rfl (by decide) h3823 (by decide) [0, 1, 2, 3] (by decide) (by decide) (fun A3824 c3825 w3826 hS3827 => ?_)
              refine ⟨trivial, ?_⟩
              refine seg 21 [] [1, 3, 6, 8, 9, 38, 39, 42, 43, 65, 66] [(1, (.int .i64 p1)), (3, (.pointer (some ⟨g3384, 0, none⟩))), (6, (.pointer (some ⟨g3388, 0, none⟩))), (8, (.pointer (some ⟨g3415, 0, none⟩))), (9, (.int .i64 x3694)), (38, (.int .i64 p2)), (39, (.int .i64 x3694)), (42, (.int .i64 p1)), (43, (.int .i64 x3784)), (65, (.slice A3824 (l3783 ++ [(rdD p0.Cells (w64 ((w64 ((Int.tmod x3694 p0.Height) * p0.Width)) + (Int.tmod x3784 p0.Width))) 0)]).length c3825)), (66, (.pointer (some ⟨g3415, 2, none⟩)))] [] (fun fb => by kernel_rfl) rfl trivial ?_
              refine WL.store hS3827 4 rfl [(2, (.slice A3824 (l3783 ++ [(rdD p0.Cells (w64 ((w64 ((Int.tmod x3694 p0.Height) * p0.Width)) + (Int.tmod x3784 p0.Width))) 0)]).length c3825))] #[(.int .i64 p1), (.int .i64 p2), (.slice A3824 (l3783 ++ [(rdD p0.Cells (w64 ((w64 ((Int.tmod x3694 p0.Height) * p0.Width)) + (Int.tmod x3784 p0.Width))) 0)]).length c3825)] (fun fb => by kernel_rfl) (by kernel_rfl) rfl [0, 1, 2, 3] (by decide) (by decide) (fun w3828 hS3829 => ?_)
              refine ⟨trivial, ?_⟩
              refine WL.done rfl ?_
              refine WX.blockN (WX.next ?_)
              refine WC.region ?_
              refine seg 2 [] [1, 3, 6, 8, 9, 38, 39, 42, 43] [(1, (.int .i64 p1)), (3, (.pointer (some ⟨g3384, 0, none⟩))), (6, (.pointer (some ⟨g3388, 0, none⟩))), (8, (.pointer (some ⟨g3415, 0, none⟩))), (9, (.int .i64 x3694)), (38, (.int .i64 p2)), (39, (.int .i64 x3694)), (42, (.int .i64 p1)), (43, (.int .i64 (w64 (x3784 + 1))))] [] (fun fb => by kernel_rfl) rfl trivial ?_
              refine WL.done rfl ?_
              exact WX.again k3790 (Nat.lt_succ_self _) ((l3783 ++ [(rdD p0.Cells (w64 ((w64 ((Int.tmod x3694 p0.Height) * p0.Width)) + (Int.tmod x3784 p0.Width))) 0)], w64 (x3784 + 1)), A3824, c3825) [1, 3, 6, 8, 9, 38, 39, 42, 43] rfl ⟨(hS3829.subR [0]).sub [3, 4, 0, 1] (by decide), hl3793⟩
            refine WC.condF2 (fun fb => by kernel_rfl) h3794 ?_
            refine WC.exit ?_
            injection hl3793 with hl3793
            exact WX.thenX (WX.thenX (WX.blockHere (WX.to Kx3788 (l3783, A3781, c3782) [1, 3, 6, 8, 38, 39] rfl ⟨(hS3792.subR [0]).sub [0, 1, 2, 3] (by decide), hl3793.symm⟩)))
        rintro ⟨y3833, A3785, c3786⟩ w3830 ⟨hS3831, hq3832⟩
        subst hq3832
        refine WX.blockN (WX.next ?_)
        refine WC.region ?_
        refine seg 2 [] [1, 3, 6, 8, 38, 39] [(1, (.int .i64 p1)), (3, (.pointer (some ⟨g3384, 0, none⟩))), (6, (.pointer (some ⟨g3388, 0, none⟩))), (8, (.pointer (some ⟨g3415, 0, none⟩))), (38, (.int .i64 p2)), (39, (.int .i64 (w64 (x3694 + 1))))] [] (fun fb => by kernel_rfl) rfl trivial ?_
        refine WL.done rfl ?_
        exact WX.again k3700 (Nat.lt_succ_self _) ((x3788, w64 (x3694 + 1)), A3785, c3786) [1, 3, 6, 8, 38, 39] rfl ⟨(hS3831.subR [0]).sub [0, 1, 2, 3] (by decide), hl3703⟩
      refine WC.condF2 (fun fb => by kernel_rfl) h3704 ?_
      refine WC.exit ?_
      injection hl3703 with hl3703
      exact WX.thenX (WX.thenX (WX.blockHere (WX.to Kx3698 (l3693, A3691, c3692) [6, 8] rfl ⟨(hS3702.subR [0]).sub [1, 2, 3] (by decide), hl3703.symm⟩)))
  rintro ⟨y3837, A3695, c3696⟩ w3834 ⟨hS3835, hq3836⟩
  subst hq3836
  refine WX.next ?_
  refine WC.seq ?_
  refine WC.region ?_
  refine seg 1 [.v (.int .i64 p1), .v (.int .i64 p2), .v (.slice A3695 x3698.length c3696)] [6, 69] [(6, (.pointer (some ⟨g3388, 0, none⟩))), (69, (.agg #[(.int .i64 p1), (.int .i64 p2), (.slice A3695 x3698.length c3696)]))] [.cell ⟨g3415, 0, none⟩ (.int .i64 p1), .cell ⟨g3415, 1, none⟩ (.int .i64 p2), .cell ⟨g3415, 2, none⟩ (.slice A3695 x3698.length c3696)] (fun fb => by kernel_rfl) rfl ⟨hS3835.cell 1 rfl 0 rfl, hS3835.cell 1 rfl 1 rfl, hS3835.cell 1 rfl 2 rfl, trivial⟩ ?_
  refine WL.store hS3835 0 rfl [(0, (.int .i64 p1)), (1, (.int .i64 p2)), (2, (.slice A3695 x3698.length c3696))] #[(.int .i64 p1), (.int .i64 p2), (.slice A3695 x3698.length c3696)] (fun fb => by kernel_rfl) (by kernel_rfl) rfl [1, 2] (by decide) (by decide) (fun w3838 hS3839 => ?_)
  refine ⟨trivial, ?_⟩
  refine seg 3 [] [6, 7] [(6, (.pointer (some ⟨g3388, 0, none⟩))), (7, (.int .i64 0))] [] (fun fb => by kernel_rfl) rfl trivial ?_
  refine WL.done rfl ?_
  refine WX.next ?_
  refine WC.ret ?_
  injection hf with hf
  subst hf
  exact WX.ret_ [.v (.int .i64 p1), .v (.int .i64 p2), .v (.slice A3695 x3698.length c3696)] (.tuple #[(.agg #[(.int .i64 p1), (.int .i64 p2), (.slice A3695 x3698.length c3696)]), (.int .i64 0)]) [.cell ⟨g3388, 0, none⟩ (.int .i64 p1), .cell ⟨g3388, 1, none⟩ (.int .i64 p2), .cell ⟨g3388, 2, none⟩ (.slice A3695 x3698.length c3696)] (fun fb => by kernel_rfl) ⟨hS3839.cell 0 rfl 0 rfl, hS3839.cell 0 rfl 1 rfl, hS3839.cell 0 rfl 2 rfl, trivial⟩ ⟨_, rfl, A3695, c3696, rfl, (hS3839.sub [2] (by decide)).noR⟩
theorem ref01_Form_calls (p0 : Pattern) (A_p0_Cells : Option Addr) (c_p0_Cells : Nat) (r : Bool) (w : World) (hR0 : RO NoS w (rowR encInt A_p0_Cells c_p0_Cells p0.Cells)) (hf : ref01_Form p0 = some r) :
    CallsR Tryd.prog 33 #[(.agg #[(.int .i64 p0.Width), (.int .i64 p0.Height), (.slice A_p0_Cells p0.Cells.length c_p0_Cells)])] w (fun v w' => v = (.bool r) ∧ Keeps NoS w w') := by
  have hS : St NoS w w [rowR encInt A_p0_Cells c_p0_Cells p0.Cells] [] := St.init (ro_cons hR0 (ro_nil _ _))
  refine enter 40 Tryd.func33 rfl Tryd.ntmps33 rfl ?_
  unfold ref01_Form at hf
  refine WC.seq ?_
  refine WC.region ?_
  refine WL.new hS 1 [] (fun g => (.pointer (some ⟨g, 0, none⟩))) (.cells #[(.int .i64 p0.Width), (.int .i64 p0.Height), (.slice A_p0_Cells p0.Cells.length c_p0_Cells)] 35 (0, 0)) [] (fun fb g => by kernel_rfl) trivial (fun g3859 w3860 hS3861 => ?_)
  refine ⟨trivial, ?_⟩
  refine seg 2 [] [1] [(1, (.pointer (some ⟨g3859, 0, none⟩)))] [] (fun fb => by kernel_rfl) rfl trivial ?_
  refine WL.done rfl ?_
  refine WX.next ?_
  refine WC.seq ?_
  refine WC.region ?_
  refine seg 4 [.v (.int .i64 p0.Width)] [1, 6] [(1, (.pointer (some ⟨g3859, 0, none⟩))), (6, (.bool (decide (p0.Width ≥ 1))))] [.cell ⟨g3859, 0, none⟩ (.int .i64 p0.Width)] (fun fb => by kernel_rfl) rfl ⟨hS3861.cell 0 rfl 0 rfl, trivial⟩ ?_
  refine WL.cutV (T := Bool) 8 (fun t => [(10, (.bool t)), (1, (.pointer (some ⟨g3859, 0, none⟩)))]) (fun t => t = ((decide (p0.Width ≥ 1)) && (decide (p0.Height ≥ 1)))) (fun K => ?_) ?_
  ·
    rcases Bool.eq_false_or_eq_true (decide (p0.Width ≥ 1)) with h3863 | h3863
    ·
      refine WL.setB 6 h3863 rfl ?_
      refine seg 8 [.v (.int .i64 p0.Height)] [1, 10] [(1, (.pointer (some ⟨g3859, 0, none⟩))), (10, (.bool (decide (p0.Height ≥ 1))))] [.cell ⟨g3859, 1, none⟩ (.int .i64 p0.Height)] (fun fb => by kernel_rfl) rfl ⟨hS3861.cell 0 rfl 1 rfl, trivial⟩ ?_
      exact WL.toV K (decide (p0.Height ≥ 1)) [10, 1] rfl (by first | (rw [h3863]; done) | (rw [h3863]; rfl))
    refine WL.setB 6 h3863 rfl ?_
    refine seg 8 [] [1, 10] [(1, (.pointer (some ⟨g3859, 0, none⟩))), (10, (.bool false))] [] (fun fb => by kernel_rfl) rfl trivial ?_
    exact WL.toV K false [10, 1] rfl (by first | (rw [h3863]; done) | (rw [h3863]; rfl))
  rintro b3864 rfl
  refine seg 9 [] [1, 11] [(1, (.pointer (some ⟨g3859, 0, none⟩))), (11, (.bool ((decide (p0.Width ≥ 1)) && (decide (p0.Height ≥ 1)))))] [] (fun fb => by kernel_rfl) rfl trivial ?_
  refine WL.cutV (T := Bool) 13 (fun t => [(15, (.bool t)), (1, (.pointer (some ⟨g3859, 0, none⟩)))]) (fun t => t = (((decide (p0.Width ≥ 1)) && (decide (p0.Height ≥ 1))) && (decide (p0.Width ≤ 40000)))) (fun K => ?_) ?_
  ·
    rcases Bool.eq_false_or_eq_true ((decide (p0.Width ≥ 1)) && (decide (p0.Height ≥ 1))) with h3865 | h3865
    ·
      refine WL.setB 11 h3865 rfl ?_
      refine seg 13 [.v (.int .i64 p0.Width)] [1, 15] [(1, (.pointer (some ⟨g3859, 0, none⟩))), (15, (.bool (decide (p0.Width ≤ 40000))))] [.cell ⟨g3859, 0, none⟩ (.int .i64 p0.Width)] (fun fb => by kernel_rfl) rfl ⟨hS3861.cell 0 rfl 0 rfl, trivial⟩ ?_
      exact WL.toV K (decide (p0.Width ≤ 40000)) [15, 1] rfl (by first | (rw [h3865]; done) | (rw [h3865]; rfl))
    refine WL.setB 11 h3865 rfl ?_
    refine seg 13 [] [1, 15] [(1, (.pointer (some ⟨g3859, 0, none⟩))), (15, (.bool false))] [] (fun fb => by kernel_rfl) rfl trivial ?_
    exact WL.toV K false [15, 1] rfl (by first | (rw [h3865]; done) | (rw [h3865]; rfl))
  rintro b3866 rfl
  refine seg 14 [] [1, 16] [(1, (.pointer (some ⟨g3859, 0, none⟩))), (16, (.bool (((decide (p0.Width ≥ 1)) && (decide (p0.Height ≥ 1))) && (decide (p0.Width ≤ 40000)))))] [] (fun fb => by kernel_rfl) rfl trivial ?_
  refine WL.cutV (T := Bool) 18 (fun t => [(20, (.bool t)), (1, (.pointer (some ⟨g3859, 0, none⟩)))]) (fun t => t = ((((decide (p0.Width ≥ 1)) && (decide (p0.Height ≥ 1))) && (decide (p0.Width ≤ 40000))) && (decide (p0.Height ≤ 40000)))) (fun K => ?_) ?_
  ·
    rcases Bool.eq_false_or_eq_true (((decide (p0.Width ≥ 1)) && (decide (p0.Height ≥ 1))) && (decide (p0.Width ≤ 40000))) with h3867 | h3867
    ·
      refine WL.setB 16 h3867 rfl ?_
      refine seg 18 [.v (.int .i64 p0.Height)] [1, 20] [(1, (.pointer (some ⟨g3859, 0, none⟩))), (20, (.bool (decide (p0.Height ≤ 40000))))] [.cell ⟨g3859, 1, none⟩ (.int .i64 p0.Height)] (fun fb => by kernel_rfl) rfl ⟨hS3861.cell 0 rfl 1 rfl, trivial⟩ ?_
      exact WL.toV K (decide (p0.Height ≤ 40000)) [20, 1] rfl (by first | (rw [h3867]; done) | (rw [h3867]; rfl))
    refine WL.setB 16 h3867 rfl ?_
    refine seg 18 [] [1, 20] [(1, (.pointer (some ⟨g3859, 0, none⟩))), (20, (.bool false))] [] (fun fb => by kernel_rfl) rfl trivial ?_
    exact WL.toV K false [20, 1] rfl (by first | (rw [h3867]; done) | (rw [h3867]; rfl))
  rintro b3868 rfl
  refine seg 19 [] [1, 21] [(1, (.pointer (some ⟨g3859, 0, none⟩))), (21, (.bool ((((decide (p0.Width ≥ 1)) && (decide (p0.Height ≥ 1))) && (decide (p0.Width ≤ 40000))) && (decide (p0.Height ≤ 40000)))))] [] (fun fb => by kernel_rfl) rfl trivial ?_
  refine WL.cutV (T := Bool) 26 (fun t => [(28, (.bool t)), (1, (.pointer (some ⟨g3859, 0, none⟩)))]) (fun t => t = (((((decide (p0.Width ≥ 1)) && (decide (p0.Height ≥ 1))) && (decide (p0.Width ≤ 40000))) && (decide (p0.Height ≤ 40000))) && (decide (w64 (p0.Width * p0.Height) ≤ 40000)))) (fun K => ?_) ?_
  ·
    rcases Bool.eq_false_or_eq_true ((((decide (p0.Width ≥ 1)) && (decide (p0.Height ≥ 1))) && (decide (p0.Width ≤ 40000))) && (decide (p0.Height ≤ 40000))) with h3869 | h3869
    ·
      refine WL.setB 21 h3869 rfl ?_
      refine seg 26 [.v (.int .i64 p0.Width), .v (.int .i64 p0.Height)] [1, 28] [(1, (.pointer (some ⟨g3859, 0, none⟩))), (28, (.bool (decide (w64 (p0.Width * p0.Height) ≤ 40000))))] [.cell ⟨g3859, 0, none⟩ (.int .i64 p0.Width), .cell ⟨g3859, 1, none⟩ (.int .i64 p0.Height)] (fun fb => by kernel_rfl) rfl ⟨hS3861.cell 0 rfl 0 rfl, hS3861.cell 0 rfl 1 rfl, trivial⟩ ?_
      exact WL.toV K (decide (w64 (p0.Width * p0.Height) ≤ 40000)) [28, 1] rfl (by first | (rw [h3869]; done) | (rw [h3869]; rfl))
    refine WL.setB 21 h3869 rfl ?_
    refine seg 26 [] [1, 28] [(1, (.pointer (some ⟨g3859, 0, none⟩))), (28, (.bool false))] [] (fun fb => by kernel_rfl) rfl trivial ?_
    exact WL.toV K false [28, 1] rfl (by first | (rw [h3869]; done) | (rw [h3869]; rfl))
  rintro b3870 rfl
  refine seg 27 [] [1, 29] [(1, (.pointer (some ⟨g3859, 0, none⟩))), (29, (.bool (((((decide (p0.Width ≥ 1)) && (decide (p0.Height ≥ 1))) && (decide (p0.Width ≤ 40000))) && (decide (p0.Height ≤ 40000))) && (decide (w64 (p0.Width * p0.Height) ≤ 40000)))))] [] (fun fb => by kernel_rfl) rfl trivial ?_
  refine WL.cutV (T := Bool) 37 (fun t => [(39, (.bool t))]) (fun t => t = ((((((decide (p0.Width ≥ 1)) && (decide (p0.Height ≥ 1))) && (decide (p0.Width ≤ 40000))) && (decide (p0.Height ≤ 40000))) && (decide (w64 (p0.Width * p0.Height) ≤ 40000))) && ((p0.Cells.length : Int) == (w64 (p0.Width * p0.Height))))) (fun K => ?_) ?_
  ·
    rcases Bool.eq_false_or_eq_true (((((decide (p0.Width ≥ 1)) && (decide (p0.Height ≥ 1))) && (decide (p0.Width ≤ 40000))) && (decide (p0.Height ≤ 40000))) && (decide (w64 (p0.Width * p0.Height) ≤ 40000))) with h3871 | h3871
    ·
      refine WL.setB 29 h3871 rfl ?_
      refine seg 37 [.v (.slice A_p0_Cells p0.Cells.length c_p0_Cells), .v (.int .i64 p0.Width), .v (.int .i64 p0.Height)] [39] [(39, (.bool ((p0.Cells.length : Int) == (w64 (p0.Width * p0.Height)))))] [.cell ⟨g3859, 2, none⟩ (.slice A_p0_Cells p0.Cells.length c_p0_Cells), .cell ⟨g3859, 0, none⟩ (.int .i64 p0.Width), .cell ⟨g3859, 1, none⟩ (.int .i64 p0.Height)] (fun fb => by kernel_rfl) rfl ⟨hS3861.cell 0 rfl 2 rfl, hS3861.cell 0 rfl 0 rfl, hS3861.cell 0 rfl 1 rfl, trivial⟩ ?_
      exact WL.toV K ((p0.Cells.length : Int) == (w64 (p0.Width * p0.Height))) [39] rfl (by first | (rw [h3871]; done) | (rw [h3871]; rfl))
    refine WL.setB 29 h3871 rfl ?_
    refine seg 37 [] [39] [(39, (.bool false))] [] (fun fb => by kernel_rfl) rfl trivial ?_
    exact WL.toV K false [39] rfl (by first | (rw [h3871]; done) | (rw [h3871]; rfl))
  rintro b3872 rfl
  refine seg 38 [] [2] [(2, (.bool ((((((decide (p0.Width ≥ 1)) && (decide (p0.Height ≥ 1))) && (decide (p0.Width ≤ 40000))) && (decide (p0.Height ≤ 40000))) && (decide (w64 (p0.Width * p0.Height) ≤ 40000))) && ((p0.Cells.length : Int) == (w64 (p0.Width * p0.Height))))))] [] (fun fb => by kernel_rfl) rfl trivial ?_
  refine WL.done rfl ?_
  refine WX.next ?_
  refine WC.ret ?_
  injection hf with hf
  subst hf
  exact WX.ret_ [] (.bool ((((((decide (p0.Width ≥ 1)) && (decide (p0.Height ≥ 1))) && (decide (p0.Width ≤ 40000))) && (decide (p0.Height ≤ 40000))) && (decide (w64 (p0.Width * p0.Height) ≤ 40000))) && ((p0.Cells.length : Int) == (w64 (p0.Width * p0.Height))))) [] (fun fb => by kernel_rfl) trivial ⟨_, rfl, rfl, hS3861.keep⟩
theorem ref01_Same_calls (k : Nat) (p0 : List Int) (p1 : List Int) (A_p0 : Option Addr) (c_p0 : Nat) (A_p1 : Option Addr) (c_p1 : Nat) (r : Bool) (w : World) (hR0 : RO NoS w (rowR encInt A_p0 c_p0 p0)) (hR1 : RO NoS w (rowR encInt A_p1 c_p1 p1)) (hf : ref01_Same k p0 p1 = some r) :
    CallsR Tryd.prog 56 #[(.slice A_p0 p0.length c_p0), (.slice A_p1 p1.length c_p1)] w (fun v w' => v = (.bool r) ∧ Keeps NoS w w') := by
  have hS : St NoS w w [rowR encInt A_p0 c_p0 p0, rowR encInt A_p1 c_p1 p1] [] := St.init (ro_cons hR0 (ro_cons hR1 (ro_nil _ _)))
  refine enter 26 Tryd.func56 rfl Tryd.ntmps56 rfl ?_
  unfold ref01_Same at hf
  refine WC.seq ?_
  refine WC.region ?_
  refine seg 1 [] [0, 1] [(0, (.slice A_p0 p0.length c_p0)), (1, (.slice A_p1 p1.length c_p1))] [] (fun fb => by kernel_rfl) rfl trivial ?_
  refine WL.done rfl ?_
  refine WX.next ?_
  refine WC.seq ?_
  refine WC.seq ?_
  refine WC.region ?_
  refine seg 5 [] [0, 1, 10] [(0, (.slice A_p0 p0.length c_p0)), (1, (.slice A_p1 p1.length c_p1)), (10, (.bool ((p0.length : Int) != (p1.length : Int))))] [] (fun fb => by kernel_rfl) rfl trivial ?_
  refine WL.done rfl ?_
  refine WX.next ?_
  rcases br_some hf with ⟨h3915, hf⟩ | ⟨h3915, hf⟩
  · refine WC.condT2 (fun fb => by kernel_rfl) h3915 ?_
    refine WC.seq ?_
    refine WC.region ?_
    refine seg 1 [] [4] [(4, (.bool false))] [] (fun fb => by kernel_rfl) rfl trivial ?_
    refine WL.done rfl ?_
    refine WX.next ?_
    refine WC.ret ?_
    injection hf with hf
    subst hf
    exact WX.thenR (WX.ret_ [] (.bool false) [] (fun fb => by kernel_rfl) trivial ⟨_, rfl, rfl, hS.keep⟩)
  refine WC.condF2 (fun fb => by kernel_rfl) h3915 ?_
  refine WC.skip ?_
  refine WX.next ?_
  refine WC.seq ?_
  refine WC.seq ?_
  refine WC.region ?_
  refine seg 1 [] [0, 1, 5] [(0, (.slice A_p0 p0.length c_p0)), (1, (.slice A_p1 p1.length c_p1)), (5, (.int .i64 0))] [] (fun fb => by kernel_rfl) rfl trivial ?_
  refine WL.done rfl ?_
  refine WX.next ?_
  obtain ⟨x3938, hx3939, hf⟩ := bind_some hf
  refine WC.cutN (T := Unit) (fun t => []) (fun t w1 => St NoS w w1 [rowR encInt A_p0 c_p0 p0, rowR encInt A_p1 c_p1 p1] [] ∧ x3938 = .inr t) (fun Kx3938 => ?_) ?_
  ·
    refine WC.block ?_
    refine WC.loop (T := Int) (fun t => [(0, (.slice A_p0 p0.length c_p0)), (1, (.slice A_p1 p1.length c_p1)), (5, (.int .i64 t))]) (fun n t w1 => St NoS w w1 [rowR encInt A_p0 c_p0 p0, rowR encInt A_p1 c_p1 p1] [] ∧ ref01_Same.l0 n t p0 p1 = some x3938) k 0 [0, 1, 5] rfl ⟨(hS.subR [0, 1]).sub [] (by decide), hx3939⟩ ?_
    rintro k3940 x3937 w3941 ⟨hS3942, hl3943⟩
    cases k3940 with
    | zero => rw [ref01_Same.l0] at hl3943; cases hl3943
    | succ k3940 =>
      rw [ref01_Same.l0] at hl3943
      refine WC.seq ?_
      refine WC.seq ?_
      refine WC.region ?_
      refine seg 4 [] [0, 1, 5, 14] [(0, (.slice A_p0 p0.length c_p0)), (1, (.slice A_p1 p1.length c_p1)), (5, (.int .i64 x3937)), (14, (.bool (decide (x3937 < (p0.length : Int)))))] [] (fun fb => by kernel_rfl) rfl trivial ?_
      refine WL.done rfl ?_
      refine WX.next ?_
      rcases br_some hl3943 with ⟨h3944, hl3943⟩ | ⟨h3944, hl3943⟩
      · refine WC.condT2 (fun fb => by kernel_rfl) h3944 ?_
        refine WC.skip ?_
        refine WX.next ?_
        refine WC.seq ?_
        refine WC.block ?_
        refine WC.seq ?_
        obtain ⟨h3951, hl3943⟩ := as_some hl3943
        obtain ⟨h3952, hl3943⟩ := as_some hl3943
        refine WC.regionD ([(3, ((adr A_p0).add ((x3937).toNat * 1)), (.int .i64 (rdD p0 x3937 0))), (7, ((adr A_p1).add ((x3937).toNat * 1)), (.int .i64 (rdD p1 x3937 0)))], [0, 1, 2, 3, 4, 5, 6, 7, 8], [[], [], [0, 1], [0, 1, 2], [], [], [4, 5], [4, 5, 6], [0, 1, 2, 3, 4, 5, 6, 7]]) [[0, 1, 2, 3, 4, 5, 6, 7, 8]] (by kernel_rfl) (by kernel_rfl) (NoPanic.seq (NoPanic.block (NoPanic.seq (NoPanic.seq (NoPanic.block (NoPanic.seq (NoPanic.body))))))) ?_
        have hS3948 := hS3942.drew
        revert hS3948
        generalize World.drew w3941 = w3947
        intro hS3948
        refine ⟨⟨rowR.cell (hS3948.rd 0).1 0 h3951.1 h3951.2 0 rfl, rowR.cell (hS3948.rd 1).1 0 h3952.1 h3952.2 0 rfl, trivial⟩, forallC ?_ (forallN)⟩
        refine segF 9 [.v (.int .i64 (rdD p0 x3937 0)), .v (.int .i64 (rdD p1 x3937 0))] [0, 1, 5, 25] [(0, (.slice A_p0 p0.length c_p0)), (1, (.slice A_p1 p1.length c_p1)), (5, (.int .i64 x3937)), (25, (.bool ((rdD p0 x3937 0) != (rdD p1 x3937 0))))] [.idx A_p0 x3937 p0.length, .idx A_p1 x3937 p1.length] [0, 1] [(3, ((adr A_p0).add ((x3937).toNat * 1)), (.int .i64 (rdD p0 x3937 0))), (7, ((adr A_p1).add ((x3937).toNat * 1)), (.int .i64 (rdD p1 x3937 0)))] (fun fb => by kernel_rfl) rfl ⟨rowR.adr (hS3948.rd 0).1 h3951.1 h3951.2, rowR.adr (hS3948.rd 1).1 h3952.1 h3952.2, trivial⟩ rfl ?_
        refine WL.done rfl ?_
        refine WX.next ?_
        rcases br_some hl3943 with ⟨h3953, hl3943⟩ | ⟨h3953, hl3943⟩
        · refine WC.condT2 (fun fb => by kernel_rfl) h3953 ?_
          refine WC.seq ?_
          refine WC.region ?_
          refine seg 1 [] [4] [(4, (.bool false))] [] (fun fb => by kernel_rfl) rfl trivial ?_
          refine WL.done rfl ?_
          refine WX.next ?_
          refine WC.ret ?_
          injection hl3943 with hl3943
          subst hl3943
          injection hf with hf
          subst hf
          exact WX.blockR (WX.thenR (WX.thenR (WX.blockR (WX.thenR (WX.ret_ [] (.bool false) [] (fun fb => by kernel_rfl) trivial ⟨_, rfl, rfl, hS3948.keep⟩)))))
        refine WC.condF2 (fun fb => by kernel_rfl) h3953 ?_
        refine WC.skip ?_
        refine WX.blockN (WX.next ?_)
        refine WC.region ?_
        refine seg 3 [] [0, 1, 5] [(0, (.slice A_p0 p0.length c_p0)), (1, (.slice A_p1 p1.length c_p1)), (5, (.int .i64 (w64 (x3937 + 1))))] [] (fun fb => by kernel_rfl) rfl trivial ?_
        refine WL.done rfl ?_
        exact WX.again k3940 (Nat.lt_succ_self _) (w64 (x3937 + 1)) [0, 1, 5] rfl ⟨(hS3948.subR [0, 1]).sub [] (by decide), hl3943⟩
      refine WC.condF2 (fun fb => by kernel_rfl) h3944 ?_
      refine WC.exit ?_
      injection hl3943 with hl3943
      exact WX.thenX (WX.thenX (WX.blockHere (WX.to Kx3938 () [] rfl ⟨(hS3942.subR [0, 1]).sub [] (by decide), hl3943.symm⟩)))
  rintro y3957 w3954 ⟨hS3955, hq3956⟩
  subst hq3956
  have hf := sum_inr hf
  refine WX.next ?_
  refine WC.seq ?_
  refine WC.region ?_
  refine seg 1 [] [4] [(4, (.bool true))] [] (fun fb => by kernel_rfl) rfl trivial ?_
  refine WL.done rfl ?_
  refine WX.next ?_
  refine WC.ret ?_
  injection hf with hf
  subst hf
  exact WX.ret_ [] (.bool true) [] (fun fb => by kernel_rfl) trivial ⟨_, rfl, rfl, hS3955.keep⟩
theorem ref01_SamePattern_calls (k : Nat) (p0 : Pattern) (p1 : Pattern) (A_p0_Cells : Option Addr) (c_p0_Cells : Nat) (A_p1_Cells : Option Addr) (c_p1_Cells : Nat) (r : Bool) (w : World) (hR0 : RO NoS w (rowR encInt A_p0_Cells c_p0_Cells p0.Cells)) (hR1 : RO NoS w (rowR encInt A_p1_Cells c_p1_Cells p1.Cells)) (hf : ref01_SamePattern k p0 p1 = some r) :
    CallsR Tryd.prog 40 #[(.agg #[(.int .i64 p0.Width), (.int .i64 p0.Height), (.slice A_p0_Cells p0.Cells.length c_p0_Cells)]), (.agg #[(.int .i64 p1.Width), (.int .i64 p1.Height), (.slice A_p1_Cells p1.Cells.length c_p1_Cells)])] w (fun v w' => v = (.bool r) ∧ Keeps NoS w w') := by
  have hS : St NoS w w [rowR encInt A_p0_Cells c_p0_Cells p0.Cells, rowR encInt A_p1_Cells c_p1_Cells p1.Cells] [] := St.init (ro_cons hR0 (ro_cons hR1 (ro_nil _ _)))
  refine enter 24 Tryd.func40 rfl Tryd.ntmps40 rfl ?_
  unfold ref01_SamePattern at hf
  refine WC.seq ?_
  refine WC.region ?_
  refine WL.new hS 2 [] (fun g => (.pointer (some ⟨g, 0, none⟩))) (.cells #[(.int .i64 p0.Width), (.int .i64 p0.Height), (.slice A_p0_Cells p0.Cells.length c_p0_Cells)] 35 (0, 0)) [] (fun fb g => by kernel_rfl) trivial (fun g3905 w3906 hS3907 => ?_)
  refine ⟨trivial, ?_⟩
  refine WL.new hS3907 3 [] (fun g => (.pointer (some ⟨g, 0, none⟩))) (.cells #[(.int .i64 p1.Width), (.int .i64 p1.Height), (.slice A_p1_Cells p1.Cells.length c_p1_Cells)] 35 (0, 0)) [] (fun fb g => by kernel_rfl) trivial (fun g3909 w3910 hS3911 => ?_)
  refine ⟨trivial, ?_⟩
  refine seg 3 [] [2, 3] [(2, (.pointer (some ⟨g3905, 0, none⟩))), (3, (.pointer (some ⟨g3909, 0, none⟩)))] [] (fun fb => by kernel_rfl) rfl trivial ?_
  refine WL.done rfl ?_
  refine WX.next ?_
  refine WC.seq ?_
  refine WC.region ?_
  refine seg 6 [.v (.int .i64 p0.Width), .v (.int .i64 p1.Width)] [2, 3, 10] [(2, (.pointer (some ⟨g3905, 0, none⟩))), (3, (.pointer (some ⟨g3909, 0, none⟩))), (10, (.bool (p0.Width == p1.Width)))] [.cell ⟨g3905, 0, none⟩ (.int .i64 p0.Width), .cell ⟨g3909, 0, none⟩ (.int .i64 p1.Width)] (fun fb => by kernel_rfl) rfl ⟨hS3911.cell 1 rfl 0 rfl, hS3911.cell 0 rfl 0 rfl, trivial⟩ ?_
  refine WL.cutV (T := Bool) 12 (fun t => [(16, (.bool t)), (2, (.pointer (some ⟨g3905, 0, none⟩))), (3, (.pointer (some ⟨g3909, 0, none⟩)))]) (fun t => t = ((p0.Width == p1.Width) && (p0.Height == p1.Height))) (fun K => ?_) ?_
  ·
    rcases Bool.eq_false_or_eq_true (p0.Width == p1.Width) with h3913 | h3913
    ·
      refine WL.setB 10 h3913 rfl ?_
      refine seg 12 [.v (.int .i64 p0.Height), .v (.int .i64 p1.Height)] [2, 3, 16] [(2, (.pointer (some ⟨g3905, 0, none⟩))), (3, (.pointer (some ⟨g3909, 0, none⟩))), (16, (.bool (p0.Height == p1.Height)))] [.cell ⟨g3905, 1, none⟩ (.int .i64 p0.Height), .cell ⟨g3909, 1, none⟩ (.int .i64 p1.Height)] (fun fb => by kernel_rfl) rfl ⟨hS3911.cell 1 rfl 1 rfl, hS3911.cell 0 rfl 1 rfl, trivial⟩ ?_
      exact WL.toV K (p0.Height == p1.Height) [16, 2, 3] rfl (by first | (rw [h3913]; done) | (rw [h3913]; rfl))
    refine WL.setB 10 h3913 rfl ?_
    refine seg 12 [] [2, 3, 16] [(2, (.pointer (some ⟨g3905, 0, none⟩))), (3, (.pointer (some ⟨g3909, 0, none⟩))), (16, (.bool false))] [] (fun fb => by kernel_rfl) rfl trivial ?_
    exact WL.toV K false [16, 2, 3] rfl (by first | (rw [h3913]; done) | (rw [h3913]; rfl))
  rintro b3914 rfl
  refine seg 13 [] [2, 3, 17] [(2, (.pointer (some ⟨g3905, 0, none⟩))), (3, (.pointer (some ⟨g3909, 0, none⟩))), (17, (.bool ((p0.Width == p1.Width) && (p0.Height == p1.Height))))] [] (fun fb => by kernel_rfl) rfl trivial ?_
  obtain ⟨x3965, hx3966, hf⟩ := bind_some hf
  refine WL.cutW (T := Bool) 19 (fun t => [(23, (.bool t))]) (fun t w1 => (St NoS w w1 [rowR encInt A_p0_Cells c_p0_Cells p0.Cells, rowR encInt A_p1_Cells c_p1_Cells p1.Cells] [] ∧ x3965 = t) ∧ CellsOK [] w1) (fun K => ?_) ?_
  ·
    rcases br_some hx3966 with ⟨h3967, hx3966⟩ | ⟨h3967, hx3966⟩
    ·
      refine WL.setB 17 h3967 rfl ?_
      refine seg 17 [.v (.slice A_p0_Cells p0.Cells.length c_p0_Cells), .v (.slice A_p1_Cells p1.Cells.length c_p1_Cells)] [17, 19, 21] [(17, (.bool true)), (19, (.slice A_p0_Cells p0.Cells.length c_p0_Cells)), (21, (.slice A_p1_Cells p1.Cells.length c_p1_Cells))] [.cell ⟨g3905, 2, none⟩ (.slice A_p0_Cells p0.Cells.length c_p0_Cells), .cell ⟨g3909, 2, none⟩ (.slice A_p1_Cells p1.Cells.length c_p1_Cells)] (fun fb => by kernel_rfl) rfl ⟨hS3911.cell 1 rfl 2 rfl, hS3911.cell 0 rfl 2 rfl, trivial⟩ ?_
      obtain ⟨t3968, ht3969, hx3966⟩ := bind_some hx3966
      refine WL.call (some 22) 56 #[(.slice A_p0_Cells p0.Cells.length c_p0_Cells), (.slice A_p1_Cells p1.Cells.length c_p1_Cells)] (fun fb => by kernel_rfl) (ref01_Same_calls _ p0.Cells p1.Cells A_p0_Cells c_p0_Cells A_p1_Cells c_p1_Cells t3968 _ (hS3911.rd 0) (hS3911.rd 1) ht3969) (fun v w3970 hR3971 => ?_)
      obtain ⟨rfl, hk_⟩ := hR3971
      have hS3972 := hS3911.keepN hk_
      refine ⟨trivial, ?_⟩
      refine seg 19 [] [23] [(23, (.bool t3968))] [] (fun fb => by kernel_rfl) rfl trivial ?_
      injection hx3966 with hx3966
      exact WL.to K t3968 [23] rfl ⟨⟨(hS3972.subR [0, 1]).sub [] (by decide), hx3966.symm⟩, trivial⟩
    refine WL.setB 17 h3967 rfl ?_
    refine seg 19 [] [23] [(23, (.bool false))] [] (fun fb => by kernel_rfl) rfl trivial ?_
    injection hx3966 with hx3966
    exact WL.to K false [23] rfl ⟨⟨(hS3911.subR [0, 1]).sub [] (by decide), hx3966.symm⟩, trivial⟩
  rintro y3973 w3975 ⟨⟨hS3976, hq3974⟩, hF3977⟩
  subst hq3974
  refine seg 20 [] [4] [(4, (.bool x3965))] [] (fun fb => by kernel_rfl) rfl trivial ?_
  refine WL.done rfl ?_
  refine WX.next ?_
  refine WC.ret ?_
  injection hf with hf
  subst hf
  exact WX.ret_ [] (.bool x3965) [] (fun fb => by kernel_rfl) trivial ⟨_, rfl, rfl, hS3976.keep⟩
theorem law01_is_calls (k : Nat) (p0 : Pattern) (p1 : Int) (p2 : Pattern) (p3 : Int) (A_p0_Cells : Option Addr) (c_p0_Cells : Nat) (A_p2_Cells : Option Addr) (c_p2_Cells : Nat) (r : Bool) (w : World) (hR0 : RO NoS w (rowR encInt A_p0_Cells c_p0_Cells p0.Cells)) (hR1 : RO NoS w (rowR encInt A_p2_Cells c_p2_Cells p2.Cells)) (hf : law01_is k p0 p1 p2 p3 = some r) :
    CallsR Tryd.prog 34 #[(.agg #[(.int .i64 p0.Width), (.int .i64 p0.Height), (.slice A_p0_Cells p0.Cells.length c_p0_Cells)]), (.int .i64 p1), (.agg #[(.int .i64 p2.Width), (.int .i64 p2.Height), (.slice A_p2_Cells p2.Cells.length c_p2_Cells)]), (.int .i64 p3)] w (fun v w' => v = (.bool r) ∧ Keeps NoS w w') := by
  have hS : St NoS w w [rowR encInt A_p0_Cells c_p0_Cells p0.Cells, rowR encInt A_p2_Cells c_p2_Cells p2.Cells] [] := St.init (ro_cons hR0 (ro_cons hR1 (ro_nil _ _)))
  refine enter 20 Tryd.func34 rfl Tryd.ntmps34 rfl ?_
  unfold law01_is at hf
  refine WC.seq ?_
  refine WC.region ?_
  refine WL.new hS 4 [] (fun g => (.pointer (some ⟨g, 0, none⟩))) (.cells #[(.int .i64 p0.Width), (.int .i64 p0.Height), (.slice A_p0_Cells p0.Cells.length c_p0_Cells)] 35 (0, 0)) [] (fun fb g => by kernel_rfl) trivial (fun g3879 w3880 hS3881 => ?_)
  refine ⟨trivial, ?_⟩
  refine WL.new hS3881 6 [] (fun g => (.pointer (some ⟨g, 0, none⟩))) (.cells #[(.int .i64 p2.Width), (.int .i64 p2.Height), (.slice A_p2_Cells p2.Cells.length c_p2_Cells)] 35 (0, 0)) [] (fun fb g => by kernel_rfl) trivial (fun g3883 w3884 hS3885 => ?_)
  refine ⟨trivial, ?_⟩
  refine seg 3 [] [1, 3, 4, 6] [(1, (.int .i64 p1)), (3, (.int .i64 p3)), (4, (.pointer (some ⟨g3879, 0, none⟩))), (6, (.pointer (some ⟨g3883, 0, none⟩)))] [] (fun fb => by kernel_rfl) rfl trivial ?_
  refine WL.done rfl ?_
  refine WX.next ?_
  refine WC.seq ?_
  refine WC.seq ?_
  refine WC.region ?_
  refine seg 2 [] [1, 3, 4, 6, 10] [(1, (.int .i64 p1)), (3, (.int .i64 p3)), (4, (.pointer (some ⟨g3879, 0, none⟩))), (6, (.pointer (some ⟨g3883, 0, none⟩))), (10, (.bool (p3 != 0)))] [] (fun fb => by kernel_rfl) rfl trivial ?_
  refine WL.done rfl ?_
  refine WX.next ?_
  obtain ⟨x3895, hx3896, hf⟩ := bind_some hf
  refine WC.cutN (T := (Int × Int × (List Int)) × (Option Addr) × Nat) (fun t => [(1, (.int .i64 p1)), (3, (.int .i64 p3)), (4, (.pointer (some ⟨g3879, 0, none⟩))), (6, (.pointer (some ⟨g3883, 0, none⟩)))]) (fun t w1 => St NoS w w1 [rowR encInt t.2.1 t.2.2 t.1.2.2, rowR encInt A_p0_Cells c_p0_Cells p0.Cells, rowR encInt A_p2_Cells c_p2_Cells p2.Cells] [blk g3879 (.cells #[(.int .i64 p0.Width), (.int .i64 p0.Height), (.slice A_p0_Cells p0.Cells.length c_p0_Cells)] 35 (0, 0)), blk g3883 (.cells #[(.int .i64 t.1.1), (.int .i64 t.1.2.1), (.slice t.2.1 t.1.2.2.length t.2.2)] 35 (0, 0))] ∧ x3895 = t.1) (fun Kx3895 => ?_) ?_
  ·
    rcases br_some hx3896 with ⟨h3897, hx3896⟩ | ⟨h3897, hx3896⟩
    · refine WC.condT2 (fun fb => by kernel_rfl) h3897 ?_
      refine WC.region ?_
      refine seg 1 [] [1, 3, 4, 6, 11] [(1, (.int .i64 p1)), (3, (.int .i64 p3)), (4, (.pointer (some ⟨g3879, 0, none⟩))), (6, (.pointer (some ⟨g3883, 0, none⟩))), (11, (.agg #[(.int .i64 0), (.int .i64 0), (.slice none 0 0)]))] [] (fun fb => by kernel_rfl) rfl trivial ?_
      refine WL.store hS3885 0 rfl [(0, (.int .i64 0)), (1, (.int .i64 0)), (2, (.slice none 0 0))] #[(.int .i64 0), (.int .i64 0), (.slice none 0 0)] (fun fb => by kernel_rfl) (by kernel_rfl) rfl [1] (by decide) (by decide) (fun w3898 hS3899 => ?_)
      refine ⟨trivial, ?_⟩
      refine WL.done rfl ?_
      have hS3900 := hS3899.nilR encInt
      injection hx3896 with hx3896
      exact WX.to Kx3895 ((0, 0, ([] : List Int)), none, 0) [1, 3, 4, 6] rfl ⟨(hS3900.subR [0, 1, 2]).sub [1, 0] (by decide), hx3896.symm⟩
    refine WC.condF2 (fun fb => by kernel_rfl) h3897 ?_
    refine WC.skip ?_
    injection hx3896 with hx3896
    exact WX.to Kx3895 ((p2.Width, p2.Height, p2.Cells), A_p2_Cells, c_p2_Cells) [1, 3, 4, 6] rfl ⟨(hS3885.subR [1, 0, 1]).sub [1, 0] (by decide), hx3896.symm⟩
  rintro ⟨y3904, A3892, c3893⟩ w3901 ⟨hS3902, hq3903⟩
  subst hq3903
  refine WX.next ?_
  refine WC.seq ?_
  refine WC.region ?_
  refine seg 4 [] [4, 6, 15] [(4, (.pointer (some ⟨g3879, 0, none⟩))), (6, (.pointer (some ⟨g3883, 0, none⟩))), (15, (.bool (p1 == p3)))] [] (fun fb => by kernel_rfl) rfl trivial ?_
  obtain ⟨x3984, hx3985, hf⟩ := bind_some hf
  refine WL.cutW (T := Bool) 8 (fun t => [(19, (.bool t))]) (fun t w1 => (St NoS w w1 [rowR encInt A3892 c3893 x3895.2.2, rowR encInt A_p0_Cells c_p0_Cells p0.Cells, rowR encInt A_p2_Cells c_p2_Cells p2.Cells] [] ∧ x3984 = t) ∧ CellsOK [] w1) (fun K => ?_) ?_
  ·
    rcases br_some hx3985 with ⟨h3986, hx3985⟩ | ⟨h3986, hx3985⟩
    ·
      refine WL.setB 15 h3986 rfl ?_
      refine seg 6 [.v (.int .i64 p0.Width), .v (.int .i64 p0.Height), .v (.slice A_p0_Cells p0.Cells.length c_p0_Cells), .v (.int .i64 x3895.1), .v (.int .i64 x3895.2.1), .v (.slice A3892 x3895.2.2.length c3893)] [15, 16, 17] [(15, (.bool true)), (16, (.agg #[(.int .i64 p0.Width), (.int .i64 p0.Height), (.slice A_p0_Cells p0.Cells.length c_p0_Cells)])), (17, (.agg #[(.int .i64 x3895.1), (.int .i64 x3895.2.1), (.slice A3892 x3895.2.2.length c3893)]))] [.cell ⟨g3879, 0, none⟩ (.int .i64 p0.Width), .cell ⟨g3879, 1, none⟩ (.int .i64 p0.Height), .cell ⟨g3879, 2, none⟩ (.slice A_p0_Cells p0.Cells.length c_p0_Cells), .cell ⟨g3883, 0, none⟩ (.int .i64 x3895.1), .cell ⟨g3883, 1, none⟩ (.int .i64 x3895.2.1), .cell ⟨g3883, 2, none⟩ (.slice A3892 x3895.2.2.length c3893)] (fun fb => by kernel_rfl) rfl ⟨hS3902.cell 0 rfl 0 rfl, hS3902.cell 0 rfl 1 rfl, hS3902.cell 0 rfl 2 rfl, hS3902.cell 1 rfl 0 rfl, hS3902.cell 1 rfl 1 rfl, hS3902.cell 1 rfl 2 rfl, trivial⟩ ?_
      obtain ⟨t3987, ht3988, hx3985⟩ := bind_some hx3985
      refine WL.call (some 18) 40 #[(.agg #[(.int .i64 p0.Width), (.int .i64 p0.Height), (.slice A_p0_Cells p0.Cells.length c_p0_Cells)]), (.agg #[(.int .i64 x3895.1), (.int .i64 x3895.2.1), (.slice A3892 x3895.2.2.length c3893)])] (fun fb => by kernel_rfl) (ref01_SamePattern_calls _ p0 (Pattern.mk x3895.1 x3895.2.1 x3895.2.2) A_p0_Cells c_p0_Cells A3892 c3893 t3987 _ (hS3902.rd 1) (hS3902.rd 0) ht3988) (fun v w3989 hR3990 => ?_)
      obtain ⟨rfl, hk_⟩ := hR3990
      have hS3991 := hS3902.keepN hk_
      refine ⟨trivial, ?_⟩
      refine seg 8 [] [19] [(19, (.bool t3987))] [] (fun fb => by kernel_rfl) rfl trivial ?_
      injection hx3985 with hx3985
      exact WL.to K t3987 [19] rfl ⟨⟨(hS3991.subR [0, 1, 2]).sub [] (by decide), hx3985.symm⟩, trivial⟩
    refine WL.setB 15 h3986 rfl ?_
    refine seg 8 [] [19] [(19, (.bool false))] [] (fun fb => by kernel_rfl) rfl trivial ?_
    injection hx3985 with hx3985
    exact WL.to K false [19] rfl ⟨⟨(hS3902.subR [0, 1, 2]).sub [] (by decide), hx3985.symm⟩, trivial⟩
  rintro y3992 w3994 ⟨⟨hS3995, hq3993⟩, hF3996⟩
  subst hq3993
  refine seg 9 [] [8] [(8, (.bool x3984))] [] (fun fb => by kernel_rfl) rfl trivial ?_
  refine WL.done rfl ?_
  refine WX.next ?_
  refine WC.ret ?_
  injection hf with hf
  subst hf
  exact WX.ret_ [] (.bool x3984) [] (fun fb => by kernel_rfl) trivial ⟨_, rfl, rfl, hS3995.keep⟩
theorem ref01_Blank_calls (p0 : Int) (p1 : Int)  (r : Pattern) (w : World)  (hf : ref01_Blank p0 p1 = some r) :
    CallsR Tryd.prog 55 #[(.int .i64 p0), (.int .i64 p1)] w (fun v w' => ∃ (A1_ : Option Addr), ∃ (c1_ : Nat), v = (.agg #[(.int .i64 r.Width), (.int .i64 r.Height), (.slice A1_ r.Cells.length c1_)]) ∧ St NoS w w' [] [rowO 3 encInt A1_ c1_ r.Cells]) := by
  have hS : St NoS w w [] [] := St.init (ro_nil _ _)
  refine enter 12 Tryd.func55 rfl Tryd.ntmps55 rfl ?_
  unfold ref01_Blank at hf
  refine WC.seq ?_
  refine WC.region ?_
  refine WL.new hS 4 [] (fun g => (.pointer (some ⟨g, 0, none⟩))) (.cells #[(.int .i64 0), (.int .i64 0), (.slice none 0 0)] 35 (0, 0)) [] (fun fb g => by kernel_rfl) trivial (fun g4105 w4106 hS4107 => ?_)
  refine ⟨trivial, ?_⟩
  refine WL.done rfl ?_
  refine WX.next ?_
  refine WC.seq ?_
  refine WC.region ?_
  refine seg 5 [] [4, 5, 6, 9] [(4, (.pointer (some ⟨g4105, 0, none⟩))), (5, (.int .i64 p0)), (6, (.int .i64 p1)), (9, (.int .i64 (w64 (p0 * p1))))] [] (fun fb => by kernel_rfl) rfl trivial ?_
  obtain ⟨h4109, hf⟩ := as_some hf
  refine WL.make hS4107 (e := encInt) (T := 3) (tS := 33) (z := (.int .i64 0)) (bytes := 8) (d := 10) (0 : Int) (w64 (p0 * p1)) (fun fb => by kernel_rfl) (by kernel_rfl) (by kernel_rfl) rfl (by decide) h4109 (by decide) (fun g4110 w4111 hS4112 => ?_)
  refine ⟨trivial, ?_⟩
  refine seg 7 [] [4, 11] [(4, (.pointer (some ⟨g4105, 0, none⟩))), (11, (.agg #[(.int .i64 p0), (.int .i64 p1), (.slice (some ⟨g4110, 0, none⟩) (List.replicate (w64 (p0 * p1)).toNat (0 : Int)).length ((w64 (p0 * p1)).toNat))]))] [] (fun fb => by kernel_rfl) rfl trivial ?_
  refine WL.store hS4112 1 rfl [(0, (.int .i64 p0)), (1, (.int .i64 p1)), (2, (.slice (some ⟨g4110, 0, none⟩) (List.replicate (w64 (p0 * p1)).toNat (0 : Int)).length ((w64 (p0 * p1)).toNat)))] #[(.int .i64 p0), (.int .i64 p1), (.slice (some ⟨g4110, 0, none⟩) (List.replicate (w64 (p0 * p1)).toNat (0 : Int)).length ((w64 (p0 * p1)).toNat))] (fun fb => by kernel_rfl) (by kernel_rfl) rfl [0] (by decide) (by decide) (fun w4113 hS4114 => ?_)
  refine ⟨trivial, ?_⟩
  refine WL.done rfl ?_
  refine WX.next ?_
  refine WC.ret ?_
  injection hf with hf
  subst hf
  exact WX.ret_ [.v (.int .i64 p0), .v (.int .i64 p1), .v (.slice (some ⟨g4110, 0, none⟩) (List.replicate (w64 (p0 * p1)).toNat (0 : Int)).length ((w64 (p0 * p1)).toNat))] (.agg #[(.int .i64 p0), (.int .i64 p1), (.slice (some ⟨g4110, 0, none⟩) (List.replicate (w64 (p0 * p1)).toNat (0 : Int)).length ((w64 (p0 * p1)).toNat))]) [.cell ⟨g4105, 0, none⟩ (.int .i64 p0), .cell ⟨g4105, 1, none⟩ (.int .i64 p1), .cell ⟨g4105, 2, none⟩ (.slice (some ⟨g4110, 0, none⟩) (List.replicate (w64 (p0 * p1)).toNat (0 : Int)).length ((w64 (p0 * p1)).toNat))] (fun fb => by kernel_rfl) ⟨hS4114.cell 0 rfl 0 rfl, hS4114.cell 0 rfl 1 rfl, hS4114.cell 0 rfl 2 rfl, trivial⟩ ⟨_, rfl, (some ⟨g4110, 0, none⟩), (w64 (p0 * p1)).toNat, rfl, (hS4114.sub [1] (by decide)).noR⟩
theorem ref01_Cell_calls (p0 : Pattern) (p1 : Int) (p2 : Int) (A_p0_Cells : Option Addr) (c_p0_Cells : Nat) (r : Int) (w : World) (hR0 : RO NoS w (rowR encInt A_p0_Cells c_p0_Cells p0.Cells)) (hf : ref01_Cell p0 p1 p2 = some r) :
    CallsR Tryd.prog 49 #[(.agg #[(.int .i64 p0.Width), (.int .i64 p0.Height), (.slice A_p0_Cells p0.Cells.length c_p0_Cells)]), (.int .i64 p1), (.int .i64 p2)] w (fun v w' => v = (.int .i64 r) ∧ Keeps NoS w w') := by
  have hS : St NoS w w [rowR encInt A_p0_Cells c_p0_Cells p0.Cells] [] := St.init (ro_cons hR0 (ro_nil _ _))
  refine enter 17 Tryd.func49 rfl Tryd.ntmps49 rfl ?_
  unfold ref01_Cell at hf
  refine WC.seq ?_
  refine WC.region ?_
  refine WL.new hS 3 [] (fun g => (.pointer (some ⟨g, 0, none⟩))) (.cells #[(.int .i64 p0.Width), (.int .i64 p0.Height), (.slice A_p0_Cells p0.Cells.length c_p0_Cells)] 35 (0, 0)) [] (fun fb g => by kernel_rfl) trivial (fun g4130 w4131 hS4132 => ?_)
  refine ⟨trivial, ?_⟩
  refine seg 2 [] [1, 2, 3] [(1, (.int .i64 p1)), (2, (.int .i64 p2)), (3, (.pointer (some ⟨g4130, 0, none⟩)))] [] (fun fb => by kernel_rfl) rfl trivial ?_
  refine WL.done rfl ?_
  refine WX.next ?_
  refine WC.seq ?_
  refine WC.region ?_
  refine seg 8 [.v (.slice A_p0_Cells p0.Cells.length c_p0_Cells), .v (.int .i64 p0.Width)] [8, 14] [(8, (.slice A_p0_Cells p0.Cells.length c_p0_Cells)), (14, (.int .i64 (w64 ((w64 (p2 * p0.Width)) + p1))))] [.cell ⟨g4130, 2, none⟩ (.slice A_p0_Cells p0.Cells.length c_p0_Cells), .cell ⟨g4130, 0, none⟩ (.int .i64 p0.Width)] (fun fb => by kernel_rfl) rfl ⟨hS4132.cell 0 rfl 2 rfl, hS4132.cell 0 rfl 0 rfl, trivial⟩ ?_
  obtain ⟨h4134, hf⟩ := as_some hf
  refine seg 11 [.v (.int .i64 (rdD p0.Cells (w64 ((w64 (p2 * p0.Width)) + p1)) 0))] [6] [(6, (.int .i64 (rdD p0.Cells (w64 ((w64 (p2 * p0.Width)) + p1)) 0)))] [.idx A_p0_Cells (w64 ((w64 (p2 * p0.Width)) + p1)) p0.Cells.length, .cell ((adr A_p0_Cells).add ((w64 ((w64 (p2 * p0.Width)) + p1)).toNat * 1)) (.int .i64 (rdD p0.Cells (w64 ((w64 (p2 * p0.Width)) + p1)) 0))] (fun fb => by kernel_rfl) rfl ⟨rowR.adr (hS4132.rd 0).1 h4134.1 h4134.2, rowR.cell (hS4132.rd 0).1 0 h4134.1 h4134.2 0 rfl, trivial⟩ ?_
  refine WL.done rfl ?_
  refine WX.next ?_
  refine WC.ret ?_
  injection hf with hf
  subst hf
  exact WX.ret_ [] (.int .i64 (rdD p0.Cells (w64 ((w64 (p2 * p0.Width)) + p1)) 0)) [] (fun fb => by kernel_rfl) trivial ⟨_, rfl, rfl, hS4132.keep⟩
theorem ref01_MirrorPattern_calls (k : Nat) (p0 : Pattern) (A_p0_Cells : Option Addr) (c_p0_Cells : Nat) (r : Pattern) (w : World) (hR0 : RO NoS w (rowR encInt A_p0_Cells c_p0_Cells p0.Cells)) (hf : ref01_MirrorPattern k p0 = some r) :
    CallsR Tryd.prog 35 #[(.agg #[(.int .i64 p0.Width), (.int .i64 p0.Height), (.slice A_p0_Cells p0.Cells.length c_p0_Cells)])] w (fun v w' => ∃ (A1_ : Option Addr), ∃ (c1_ : Nat), v = (.agg #[(.int .i64 r.Width), (.int .i64 r.Height), (.slice A1_ r.Cells.length c1_)]) ∧ St NoS w w' [] [rowO 3 encInt A1_ c1_ r.Cells]) := by
  have hS : St NoS w w [rowR encInt A_p0_Cells c_p0_Cells p0.Cells] [] := St.init (ro_cons hR0 (ro_nil _ _))
  refine enter 41 Tryd.func35 rfl Tryd.ntmps35 rfl ?_
  unfold ref01_MirrorPattern at hf
  refine WC.seq ?_
  refine WC.region ?_
  refine WL.new hS 1 [] (fun g => (.pointer (some ⟨g, 0, none⟩))) (.cells #[(.int .i64 p0.Width), (.int .i64 p0.Height), (.slice A_p0_Cells p0.Cells.length c_p0_Cells)] 35 (0, 0)) [] (fun fb g => by kernel_rfl) trivial (fun g4097 w4098 hS4099 => ?_)
  refine ⟨trivial, ?_⟩
  refine WL.new hS4099 2 [] (fun g => (.pointer (some ⟨g, 0, none⟩))) (.cells #[(.int .i64 0), (.int .i64 0), (.slice none 0 0)] 35 (0, 0)) [] (fun fb g => by kernel_rfl) trivial (fun g4101 w4102 hS4103 => ?_)
  refine ⟨trivial, ?_⟩
  refine WL.done rfl ?_
  refine WX.next ?_
  refine WC.seq ?_
  refine WC.region ?_
  refine seg 4 [.v (.int .i64 p0.Width), .v (.int .i64 p0.Height)] [1, 2, 7, 9] [(1, (.pointer (some ⟨g4097, 0, none⟩))), (2, (.pointer (some ⟨g4101, 0, none⟩))), (7, (.int .i64 p0.Width)), (9, (.int .i64 p0.Height))] [.cell ⟨g4097, 0, none⟩ (.int .i64 p0.Width), .cell ⟨g4097, 1, none⟩ (.int .i64 p0.Height)] (fun fb => by kernel_rfl) rfl ⟨hS4103.cell 1 rfl 0 rfl, hS4103.cell 1 rfl 1 rfl, trivial⟩ ?_
  obtain ⟨t4115, ht4116, hf⟩ := bind_some hf
  refine WL.call (some 10) 55 #[(.int .i64 p0.Width), (.int .i64 p0.Height)] (fun fb => by kernel_rfl) (ref01_Blank_calls p0.Width p0.Height t4115 _ ht4116) (fun v w4117 hR4118 => ?_)
  obtain ⟨A4120, c4121, rfl, hk_⟩ := hR4118
  have hS4119 : St NoS w w4117 [rowR encInt A_p0_Cells c_p0_Cells p0.Cells] [rowO 3 encInt A4120 c4121 t4115.Cells, blk g4101 (.cells #[(.int .i64 0), (.int .i64 0), (.slice none 0 0)] 35 (0, 0)), blk g4097 (.cells #[(.int .i64 p0.Width), (.int .i64 p0.Height), (.slice A_p0_Cells p0.Cells.length c_p0_Cells)] 35 (0, 0))] := hS4103.call hk_ [] [0, 1] (fun g hg => hg.elim) (by simp) (by decide)
  refine ⟨trivial, ?_⟩
  refine WL.new hS4119 3 [] (fun g => (.pointer (some ⟨g, 0, none⟩))) (.cells #[(.int .i64 0), (.int .i64 0), (.slice none 0 0)] 35 (0, 0)) [] (fun fb g => by kernel_rfl) trivial (fun g4122 w4123 hS4124 => ?_)
  refine ⟨trivial, ?_⟩
  refine WL.store hS4124 0 rfl [(0, (.int .i64 t4115.Width)), (1, (.int .i64 t4115.Height)), (2, (.slice A4120 t4115.Cells.length c4121))] #[(.int .i64 t4115.Width), (.int .i64 t4115.Height), (.slice A4120 t4115.Cells.length c4121)] (fun fb => by kernel_rfl) (by kernel_rfl) rfl [1, 2, 3] (by decide) (by decide) (fun w4126 hS4127 => ?_)
  refine ⟨trivial, ?_⟩
  refine WL.done rfl ?_
  refine WX.next ?_
  refine WC.seq ?_
  refine WC.seq ?_
  refine WC.region ?_
  refine seg 1 [] [1, 2, 3, 4] [(1, (.pointer (some ⟨g4097, 0, none⟩))), (2, (.pointer (some ⟨g4101, 0, none⟩))), (3, (.pointer (some ⟨g4122, 0, none⟩))), (4, (.int .i64 0))] [] (fun fb => by kernel_rfl) rfl trivial ?_
  refine WL.done rfl ?_
  refine WX.next ?_
  obtain ⟨x4314, hx4315, hf⟩ := bind_some hf
  refine WC.cutN (T := (List Int) × (Option Addr) × Nat) (fun t => [(2, (.pointer (some ⟨g4101, 0, none⟩))), (3, (.pointer (some ⟨g4122, 0, none⟩)))]) (fun t w1 => St NoS w w1 [rowR encInt A_p0_Cells c_p0_Cells p0.Cells] [blk g4101 (.cells #[(.int .i64 0), (.int .i64 0), (.slice none 0 0)] 35 (0, 0)), blk g4122 (.cells #[(.int .i64 t4115.Width), (.int .i64 t4115.Height), (.slice t.2.1 t.1.length t.2.2)] 35 (0, 0)), rowO 3 encInt t.2.1 t.2.2 t.1] ∧ x4314 = t.1) (fun Kx4314 => ?_) ?_
  ·
    refine WC.block ?_
    refine WC.loop (T := ((List Int) × Int) × (Option Addr) × Nat) (fun t => [(1, (.pointer (some ⟨g4097, 0, none⟩))), (2, (.pointer (some ⟨g4101, 0, none⟩))), (3, (.pointer (some ⟨g4122, 0, none⟩))), (4, (.int .i64 t.1.2))]) (fun n t w1 => St NoS w w1 [rowR encInt A_p0_Cells c_p0_Cells p0.Cells] [blk g4097 (.cells #[(.int .i64 p0.Width), (.int .i64 p0.Height), (.slice A_p0_Cells p0.Cells.length c_p0_Cells)] 35 (0, 0)), blk g4101 (.cells #[(.int .i64 0), (.int .i64 0), (.slice none 0 0)] 35 (0, 0)), blk g4122 (.cells #[(.int .i64 t4115.Width), (.int .i64 t4115.Height), (.slice t.2.1 t.1.1.length t.2.2)] 35 (0, 0)), rowO 3 encInt t.2.1 t.2.2 t.1.1] ∧ ref01_MirrorPattern.l0 n t.1.1 t.1.2 p0 = some x4314) k ((t4115.Cells, 0), A4120, c4121) [1, 2, 3, 4] rfl ⟨(hS4127.subR [0]).sub [3, 2, 0, 1] (by decide), hx4315⟩ ?_
    rintro k4316 ⟨⟨l4309, x4310⟩, A4307, c4308⟩ w4317 ⟨hS4318, hl4319⟩
    cases k4316 with
    | zero => rw [ref01_MirrorPattern.l0] at hl4319; cases hl4319
    | succ k4316 =>
      rw [ref01_MirrorPattern.l0] at hl4319
      refine WC.seq ?_
      refine WC.seq ?_
      refine WC.region ?_
      refine seg 4 [.v (.int .i64 p0.Height)] [1, 2, 3, 4, 14] [(1, (.pointer (some ⟨g4097, 0, none⟩))), (2, (.pointer (some ⟨g4101, 0, none⟩))), (3, (.pointer (some ⟨g4122, 0, none⟩))), (4, (.int .i64 x4310)), (14, (.bool (decide (x4310 < p0.Height))))] [.cell ⟨g4097, 1, none⟩ (.int .i64 p0.Height)] (fun fb => by kernel_rfl) rfl ⟨hS4318.cell 0 rfl 1 rfl, trivial⟩ ?_
      refine WL.done rfl ?_
      refine WX.next ?_
      rcases br_some hl4319 with ⟨h4320, hl4319⟩ | ⟨h4320, hl4319⟩
      · refine WC.condT2 (fun fb => by kernel_rfl) h4320 ?_
        refine WC.skip ?_
        refine WX.next ?_
        refine WC.seq ?_
        refine WC.block ?_
        refine WC.seq ?_
        refine WC.region ?_
        refine seg 1 [] [1, 2, 3, 4, 5] [(1, (.pointer (some ⟨g4097, 0, none⟩))), (2, (.pointer (some ⟨g4101, 0, none⟩))), (3, (.pointer (some ⟨g4122, 0, none⟩))), (4, (.int .i64 x4310)), (5, (.int .i64 0))] [] (fun fb => by kernel_rfl) rfl trivial ?_
        refine WL.done rfl ?_
        refine WX.next ?_
        obtain ⟨x4374, hx4375, hl4319⟩ := bind_some hl4319
        refine WC.cutN (T := (List Int) × (Option Addr) × Nat) (fun t => [(1, (.pointer (some ⟨g4097, 0, none⟩))), (2, (.pointer (some ⟨g4101, 0, none⟩))), (3, (.pointer (some ⟨g4122, 0, none⟩))), (4, (.int .i64 x4310))]) (fun t w1 => St NoS w w1 [rowR encInt A_p0_Cells c_p0_Cells p0.Cells] [blk g4097 (.cells #[(.int .i64 p0.Width), (.int .i64 p0.Height), (.slice A_p0_Cells p0.Cells.length c_p0_Cells)] 35 (0, 0)), blk g4101 (.cells #[(.int .i64 0), (.int .i64 0), (.slice none 0 0)] 35 (0, 0)), blk g4122 (.cells #[(.int .i64 t4115.Width), (.int .i64 t4115.Height), (.slice t.2.1 t.1.length t.2.2)] 35 (0, 0)), rowO 3 encInt t.2.1 t.2.2 t.1] ∧ x4374 = t.1) (fun Kx4374 => ?_) ?_
        ·
          refine WC.block ?_
          refine WC.loop (T := ((List Int) × Int) × (Option Addr) × Nat) (fun t => [(1, (.pointer (some ⟨g4097, 0, none⟩))), (2, (.pointer (some ⟨g4101, 0, none⟩))), (3, (.pointer (some ⟨g4122, 0, none⟩))), (4, (.int .i64 x4310)), (5, (.int .i64 t.1.2))]) (fun n t w1 => St NoS w w1 [rowR encInt A_p0_Cells c_p0_Cells p0.Cells] [blk g4097 (.cells #[(.int .i64 p0.Width), (.int .i64 p0.Height), (.slice A_p0_Cells p0.Cells.length c_p0_Cells)] 35 (0, 0)), blk g4101 (.cells #[(.int .i64 0), (.int .i64 0), (.slice none 0 0)] 35 (0, 0)), blk g4122 (.cells #[(.int .i64 t4115.Width), (.int .i64 t4115.Height), (.slice t.2.1 t.1.1.length t.2.2)] 35 (0, 0)), rowO 3 encInt t.2.1 t.2.2 t.1.1] ∧ ref01_MirrorPattern.l1 n t.1.1 t.1.2 p0 x4310 = some x4374) k4316 ((l4309, 0), A4307, c4308) [1, 2, 3, 4, 5] rfl ⟨(hS4318.subR [0]).sub [0, 1, 2, 3] (by decide), hx4375⟩ ?_
          rintro k4376 ⟨⟨l4369, x4370⟩, A4367, c4368⟩ w4377 ⟨hS4378, hl4379⟩
          cases k4376 with
          | zero => rw [ref01_MirrorPattern.l1] at hl4379; cases hl4379
          | succ k4376 =>
            rw [ref01_MirrorPattern.l1] at hl4379
            refine WC.seq ?_
            refine WC.seq ?_
            refine WC.region ?_
            refine seg 4 [.v (.int .i64 p0.Width)] [1, 2, 3, 4, 5, 20] [(1, (.pointer (some ⟨g4097, 0, none⟩))), (2, (.pointer (some ⟨g4101, 0, none⟩))), (3, (.pointer (some ⟨g4122, 0, none⟩))), (4, (.int .i64 x4310)), (5, (.int .i64 x4370)), (20, (.bool (decide (x4370 < p0.Width))))] [.cell ⟨g4097, 0, none⟩ (.int .i64 p0.Width)] (fun fb => by kernel_rfl) rfl ⟨hS4378.cell 0 rfl 0 rfl, trivial⟩ ?_
            refine WL.done rfl ?_
            refine WX.next ?_
            rcases br_some hl4379 with ⟨h4380, hl4379⟩ | ⟨h4380, hl4379⟩
            · refine WC.condT2 (fun fb => by kernel_rfl) h4380 ?_
              refine WC.skip ?_
              refine WX.next ?_
              refine WC.seq ?_
              refine WC.block ?_
              refine WC.regionD ([(1, ⟨g4122, 2, none⟩, (.slice A4367 l4369.length c4368)), (4, ⟨g4097, 0, none⟩, (.int .i64 p0.Width)), (7, ⟨g4097, 0, none⟩, (.int .i64 p0.Width)), (12, ⟨g4097, 0, none⟩, (.int .i64 p0.Width)), (12, ⟨g4097, 1, none⟩, (.int .i64 p0.Height)), (12, ⟨g4097, 2, none⟩, (.slice A_p0_Cells p0.Cells.length c_p0_Cells))], [0, 1, 2, 3, 4, 5, 6, 7, 8, 9, 10, 11, 12, 13, 14, 16], [[], [0], [], [], [3], [2, 3, 4], [], [6], [2, 3, 4, 5, 6, 7], [2, 3, 4, 5, 6, 7, 8], [], [2, 3, 4, 5, 6, 7, 8, 9, 10], [], [], [], [12, 13, 14], [0, 1, 2, 3, 4, 5, 6, 7, 8, 9, 10, 11, 12, 13, 14, 15], [0, 1, 2, 3, 4, 5, 6, 7, 8, 9, 10, 11, 12, 13, 14, 15, 16]]) [[0, 1, 2, 3, 4, 5, 6, 7, 8, 9, 10, 11, 12, 13, 14, 15, 16, 17]] (by kernel_rfl) (by kernel_rfl) (NoPanic.block (NoPanic.seq (NoPanic.seq (NoPanic.block (NoPanic.block (NoPanic.seq (NoPanic.seq (NoPanic.block (NoPanic.seq (NoPanic.body)))))))))) ?_
              have hS4391 := hS4378.drew
              revert hS4391
              generalize World.drew w4377 = w4390
              intro hS4391
              refine ⟨⟨hS4391.cell 2 rfl 2 rfl, hS4391.cell 0 rfl 0 rfl, hS4391.cell 0 rfl 0 rfl, hS4391.cell 0 rfl 0 rfl, hS4391.cell 0 rfl 1 rfl, hS4391.cell 0 rfl 2 rfl, trivial⟩, forallC ?_ (forallN)⟩
              refine segF 15 [.v (.slice A4367 l4369.length c4368), .v (.int .i64 p0.Width), .v (.int .i64 p0.Width), .v (.int .i64 p0.Width), .v (.int .i64 p0.Height), .v (.slice A_p0_Cells p0.Cells.length c_p0_Cells)] [1, 2, 3, 4, 5, 24, 34, 35, 36, 37] [(1, (.pointer (some ⟨g4097, 0, none⟩))), (2, (.pointer (some ⟨g4101, 0, none⟩))), (3, (.pointer (some ⟨g4122, 0, none⟩))), (4, (.int .i64 x4310)), (5, (.int .i64 x4370)), (24, (.slice A4367 l4369.length c4368)), (34, (.int .i64 (w64 ((w64 ((w64 ((w64 (x4310 * p0.Width)) + p0.Width)) - 1)) - x4370)))), (35, (.agg #[(.int .i64 p0.Width), (.int .i64 p0.Height), (.slice A_p0_Cells p0.Cells.length c_p0_Cells)])), (36, (.int .i64 x4370)), (37, (.int .i64 x4310))] [] [0, 1, 2, 3, 4, 5] [(1, ⟨g4122, 2, none⟩, (.slice A4367 l4369.length c4368)), (4, ⟨g4097, 0, none⟩, (.int .i64 p0.Width)), (7, ⟨g4097, 0, none⟩, (.int .i64 p0.Width)), (12, ⟨g4097, 0, none⟩, (.int .i64 p0.Width)), (12, ⟨g4097, 1, none⟩, (.int .i64 p0.Height)), (12, ⟨g4097, 2, none⟩, (.slice A_p0_Cells p0.Cells.length c_p0_Cells))] (fun fb => by kernel_rfl) rfl trivial rfl ?_
              obtain ⟨t4392, ht4393, hl4379⟩ := bind_some hl4379
              refine WL.call (some 38) 49 #[(.agg #[(.int .i64 p0.Width), (.int .i64 p0.Height), (.slice A_p0_Cells p0.Cells.length c_p0_Cells)]), (.int .i64 x4370), (.int .i64 x4310)] (fun fb => by kernel_rfl) (ref01_Cell_calls p0 x4370 x4310 A_p0_Cells c_p0_Cells t4392 _ (hS4391.rd 0) ht4393) (fun v w4394 hR4395 => ?_)
              obtain ⟨rfl, hk_⟩ := hR4395
              have hS4396 := hS4391.keepN hk_
              refine ⟨⟨hS4396.cell 2 rfl 2 rfl, hS4396.cell 0 rfl 0 rfl, hS4396.cell 0 rfl 0 rfl, trivial⟩, ?_⟩
              obtain ⟨h4397, hl4379⟩ := as_some hl4379
              refine seg 17 [] [1, 2, 3, 4, 5, 38, 39] [(1, (.pointer (some ⟨g4097, 0, none⟩))), (2, (.pointer (some ⟨g4101, 0, none⟩))), (3, (.pointer (some ⟨g4122, 0, none⟩))), (4, (.int .i64 x4310)), (5, (.int .i64 x4370)), (38, (.int .i64 t4392)), (39, (.pointer (some ((adr A4367).add ((w64 ((w64 ((w64 ((w64 (x4310 * p0.Width)) + p0.Width)) - 1)) - x4370)).toNat * 1)))))] [.idx A4367 (w64 ((w64 ((w64 ((w64 (x4310 * p0.Width)) + p0.Width)) - 1)) - x4370)) l4369.length] (fun fb => by kernel_rfl) rfl ⟨rowR.adr (rowO.rd (hS4396.own 3).1) h4397.1 h4397.2, trivial⟩ ?_
              refine WL.storeRow hS4396 3 rfl (w64 ((w64 ((w64 ((w64 (x4310 * p0.Width)) + p0.Width)) - 1)) - x4370)) (t4392) (0) [(0, (.int .i64 t4392))] (fun fb => by kernel_rfl) h4397.1 h4397.2 (by kernel_rfl) rfl [0, 1, 2] (by decide) (by decide) (fun w4398 hS4399 => ?_)
              refine ⟨trivial, ?_⟩
              have hS4400 : St NoS w w4398 [rowR encInt A_p0_Cells c_p0_Cells p0.Cells] [rowO 3 encInt A4367 c4368 (l4369.set (w64 ((w64 ((w64 ((w64 (x4310 * p0.Width)) + p0.Width)) - 1)) - x4370)).toNat t4392), blk g4097 (.cells #[(.int .i64 p0.Width), (.int .i64 p0.Height), (.slice A_p0_Cells p0.Cells.length c_p0_Cells)] 35 (0, 0)), blk g4101 (.cells #[(.int .i64 0), (.int .i64 0), (.slice none 0 0)] 35 (0, 0)), blk g4122 (.cells #[(.int .i64 t4115.Width), (.int .i64 t4115.Height), (.slice A4367 (l4369.set (w64 ((w64 ((w64 ((w64 (x4310 * p0.Width)) + p0.Width)) - 1)) - x4370)).toNat t4392).length c4368)] 35 (0, 0))] := by simpa only [List.length_set] using (show St NoS w w4398 [rowR encInt A_p0_Cells c_p0_Cells p0.Cells] [rowO 3 encInt A4367 c4368 (l4369.set (w64 ((w64 ((w64 ((w64 (x4310 * p0.Width)) + p0.Width)) - 1)) - x4370)).toNat t4392), blk g4097 (.cells #[(.int .i64 p0.Width), (.int .i64 p0.Height), (.slice A_p0_Cells p0.Cells.length c_p0_Cells)] 35 (0, 0)), blk g4101 (.cells #[(.int .i64 0), (.int .i64 0), (.slice none 0 0)] 35 (0, 0)), blk g4122 (.cells #[(.int .i64 t4115.Width), (.int .i64 t4115.Height), (.slice A4367 l4369.length c4368)] 35 (0, 0))] from hS4399)
              refine WL.done rfl ?_
              refine WX.blockN (WX.next ?_)
              refine WC.region ?_
              refine seg 3 [] [1, 2, 3, 4, 5] [(1, (.pointer (some ⟨g4097, 0, none⟩))), (2, (.pointer (some ⟨g4101, 0, none⟩))), (3, (.pointer (some ⟨g4122, 0, none⟩))), (4, (.int .i64 x4310)), (5, (.int .i64 (w64 (x4370 + 1))))] [] (fun fb => by kernel_rfl) rfl trivial ?_
              refine WL.done rfl ?_
              exact WX.again k4376 (Nat.lt_succ_self _) ((l4369.set (w64 ((w64 ((w64 ((w64 (x4310 * p0.Width)) + p0.Width)) - 1)) - x4370)).toNat t4392, w64 (x4370 + 1)), A4367, c4368) [1, 2, 3, 4, 5] rfl ⟨(hS4400.subR [0]).sub [1, 2, 3, 0] (by decide), hl4379⟩
            refine WC.condF2 (fun fb => by kernel_rfl) h4380 ?_
            refine WC.exit ?_
            injection hl4379 with hl4379
            exact WX.thenX (WX.thenX (WX.blockHere (WX.to Kx4374 (l4369, A4367, c4368) [1, 2, 3, 4] rfl ⟨(hS4378.subR [0]).sub [0, 1, 2, 3] (by decide), hl4379.symm⟩)))
        rintro ⟨y4404, A4371, c4372⟩ w4401 ⟨hS4402, hq4403⟩
        subst hq4403
        refine WX.blockN (WX.next ?_)
        refine WC.region ?_
        refine seg 3 [] [1, 2, 3, 4] [(1, (.pointer (some ⟨g4097, 0, none⟩))), (2, (.pointer (some ⟨g4101, 0, none⟩))), (3, (.pointer (some ⟨g4122, 0, none⟩))), (4, (.int .i64 (w64 (x4310 + 1))))] [] (fun fb => by kernel_rfl) rfl trivial ?_
        refine WL.done rfl ?_
        exact WX.again k4316 (Nat.lt_succ_self _) ((x4374, w64 (x4310 + 1)), A4371, c4372) [1, 2, 3, 4] rfl ⟨(hS4402.subR [0]).sub [0, 1, 2, 3] (by decide), hl4319⟩
      refine WC.condF2 (fun fb => by kernel_rfl) h4320 ?_
      refine WC.exit ?_
      injection hl4319 with hl4319
      exact WX.thenX (WX.thenX (WX.blockHere (WX.to Kx4314 (l4309, A4307, c4308) [2, 3] rfl ⟨(hS4318.subR [0]).sub [1, 2, 3] (by decide), hl4319.symm⟩)))
  rintro ⟨y4408, A4311, c4312⟩ w4405 ⟨hS4406, hq4407⟩
  subst hq4407
  refine WX.next ?_
  refine WC.seq ?_
  refine WC.region ?_
  refine seg 1 [.v (.int .i64 t4115.Width), .v (.int .i64 t4115.Height), .v (.slice A4311 x4314.length c4312)] [2, 40] [(2, (.pointer (some ⟨g4101, 0, none⟩))), (40, (.agg #[(.int .i64 t4115.Width), (.int .i64 t4115.Height), (.slice A4311 x4314.length c4312)]))] [.cell ⟨g4122, 0, none⟩ (.int .i64 t4115.Width), .cell ⟨g4122, 1, none⟩ (.int .i64 t4115.Height), .cell ⟨g4122, 2, none⟩ (.slice A4311 x4314.length c4312)] (fun fb => by kernel_rfl) rfl ⟨hS4406.cell 1 rfl 0 rfl, hS4406.cell 1 rfl 1 rfl, hS4406.cell 1 rfl 2 rfl, trivial⟩ ?_
  refine WL.store hS4406 0 rfl [(0, (.int .i64 t4115.Width)), (1, (.int .i64 t4115.Height)), (2, (.slice A4311 x4314.length c4312))] #[(.int .i64 t4115.Width), (.int .i64 t4115.Height), (.slice A4311 x4314.length c4312)] (fun fb => by kernel_rfl) (by kernel_rfl) rfl [1, 2] (by decide) (by decide) (fun w4409 hS4410 => ?_)
  refine ⟨trivial, ?_⟩
  refine WL.done rfl ?_
  refine WX.next ?_
  refine WC.ret ?_
  injection hf with hf
  subst hf
  exact WX.ret_ [.v (.int .i64 t4115.Width), .v (.int .i64 t4115.Height), .v (.slice A4311 x4314.length c4312)] (.agg #[(.int .i64 t4115.Width), (.int .i64 t4115.Height), (.slice A4311 x4314.length c4312)]) [.cell ⟨g4101, 0, none⟩ (.int .i64 t4115.Width), .cell ⟨g4101, 1, none⟩ (.int .i64 t4115.Height), .cell ⟨g4101, 2, none⟩ (.slice A4311 x4314.length c4312)] (fun fb => by kernel_rfl) ⟨hS4410.cell 0 rfl 0 rfl, hS4410.cell 0 rfl 1 rfl, hS4410.cell 0 rfl 2 rfl, trivial⟩ ⟨_, rfl, A4311, c4312, rfl, (hS4410.sub [2] (by decide)).noR⟩
theorem ref01_UpturnPattern_calls (k : Nat) (p0 : Pattern) (A_p0_Cells : Option Addr) (c_p0_Cells : Nat) (r : Pattern) (w : World) (hR0 : RO NoS w (rowR encInt A_p0_Cells c_p0_Cells p0.Cells)) (hf : ref01_UpturnPattern k p0 = some r) :
    CallsR Tryd.prog 36 #[(.agg #[(.int .i64 p0.Width), (.int .i64 p0.Height), (.slice A_p0_Cells p0.Cells.length c_p0_Cells)])] w (fun v w' => ∃ (A1_ : Option Addr), ∃ (c1_ : Nat), v = (.agg #[(.int .i64 r.Width), (.int .i64 r.Height), (.slice A1_ r.Cells.length c1_)]) ∧ St NoS w w' [] [rowO 3 encInt A1_ c1_ r.Cells]) := by
  have hS : St NoS w w [rowR encInt A_p0_Cells c_p0_Cells p0.Cells] [] := St.init (ro_cons hR0 (ro_nil _ _))
  refine enter 41 Tryd.func36 rfl Tryd.ntmps36 rfl ?_
  unfold ref01_UpturnPattern at hf
  refine WC.seq ?_
  refine WC.region ?_
  refine WL.new hS 1 [] (fun g => (.pointer (some ⟨g, 0, none⟩))) (.cells #[(.int .i64 p0.Width), (.int .i64 p0.Height), (.slice A_p0_Cells p0.Cells.length c_p0_Cells)] 35 (0, 0)) [] (fun fb g => by kernel_rfl) trivial (fun g4423 w4424 hS4425 => ?_)
  refine ⟨trivial, ?_⟩
  refine WL.new hS4425 2 [] (fun g => (.pointer (some ⟨g, 0, none⟩))) (.cells #[(.int .i64 0), (.int .i64 0), (.slice none 0 0)] 35 (0, 0)) [] (fun fb g => by kernel_rfl) trivial (fun g4427 w4428 hS4429 => ?_)
  refine ⟨trivial, ?_⟩
  refine WL.done rfl ?_
  refine WX.next ?_
  refine WC.seq ?_
  refine WC.region ?_
  refine seg 4 [.v (.int .i64 p0.Width), .v (.int .i64 p0.Height)] [1, 2, 7, 9] [(1, (.pointer (some ⟨g4423, 0, none⟩))), (2, (.pointer (some ⟨g4427, 0, none⟩))), (7, (.int .i64 p0.Width)), (9, (.int .i64 p0.Height))] [.cell ⟨g4423, 0, none⟩ (.int .i64 p0.Width), .cell ⟨g4423, 1, none⟩ (.int .i64 p0.Height)] (fun fb => by kernel_rfl) rfl ⟨hS4429.cell 1 rfl 0 rfl, hS4429.cell 1 rfl 1 rfl, trivial⟩ ?_
  obtain ⟨t4431, ht4432, hf⟩ := bind_some hf
  refine WL.call (some 10) 55 #[(.int .i64 p0.Width), (.int .i64 p0.Height)] (fun fb => by kernel_rfl) (ref01_Blank_calls p0.Width p0.Height t4431 _ ht4432) (fun v w4433 hR4434 => ?_)
  obtain ⟨A4436, c4437, rfl, hk_⟩ := hR4434
  have hS4435 : St NoS w w4433 [rowR encInt A_p0_Cells c_p0_Cells p0.Cells] [rowO 3 encInt A4436 c4437 t4431.Cells, blk g4427 (.cells #[(.int .i64 0), (.int .i64 0), (.slice none 0 0)] 35 (0, 0)), blk g4423 (.cells #[(.int .i64 p0.Width), (.int .i64 p0.Height), (.slice A_p0_Cells p0.Cells.length c_p0_Cells)] 35 (0, 0))] := hS4429.call hk_ [] [0, 1] (fun g hg => hg.elim) (by simp) (by decide)
  refine ⟨trivial, ?_⟩
  refine WL.new hS4435 3 [] (fun g => (.pointer (some ⟨g, 0, none⟩))) (.cells #[(.int .i64 0), (.int .i64 0), (.slice none 0 0)] 35 (0, 0)) [] (fun fb g => by kernel_rfl) trivial (fun g4438 w4439 hS4440 => ?_)
  refine ⟨trivial, ?_⟩
  refine WL.store hS4440 0 rfl [(0, (.int .i64 t4431.Width)), (1, (.int .i64 t4431.Height)), (2, (.slice A4436 t4431.Cells.length c4437))] #[(.int .i64 t4431.Width), (.int .i64 t4431.Height), (.slice A4436 t4431.Cells.length c4437)] (fun fb => by kernel_rfl) (by kernel_rfl) rfl [1, 2, 3] (by decide) (by decide) (fun w4442 hS4443 => ?_)
  refine ⟨trivial, ?_⟩
  refine WL.done rfl ?_
  refine WX.next ?_
  refine WC.seq ?_
  refine WC.seq ?_
  refine WC.region ?_
  refine seg 1 [] [1, 2, 3, 4] [(1, (.pointer (some ⟨g4423, 0, none⟩))), (2, (.pointer (some ⟨g4427, 0, none⟩))), (3, (.pointer (some ⟨g4438, 0, none⟩))), (4, (.int .i64 0))] [] (fun fb => by kernel_rfl) rfl trivial ?_
  refine WL.done rfl ?_
  refine WX.next ?_
  obtain ⟨x4625, hx4626, hf⟩ := bind_some hf
  refine WC.cutN (T := (List Int) × (Option Addr) × Nat) (fun t => [(2, (.pointer (some ⟨g4427, 0, none⟩))), (3, (.pointer (some ⟨g4438, 0, none⟩)))]) (fun t w1 => St NoS w w1 [rowR encInt A_p0_Cells c_p0_Cells p0.Cells] [blk g4427 (.cells #[(.int .i64 0), (.int .i64 0), (.slice none 0 0)] 35 (0, 0)), blk g4438 (.cells #[(.int .i64 t4431.Width), (.int .i64 t4431.Height), (.slice t.2.1 t.1.length t.2.2)] 35 (0, 0)), rowO 3 encInt t.2.1 t.2.2 t.1] ∧ x4625 = t.1) (fun Kx4625 => ?_) ?_
  ·
    refine WC.block ?_
    refine WC.loop (T := ((List Int) × Int) × (Option Addr) × Nat) (fun t => [(1, (.pointer (some ⟨g4423, 0, none⟩))), (2, (.pointer (some ⟨g4427, 0, none⟩))), (3, (.pointer (some ⟨g4438, 0, none⟩))), (4, (.int .i64 t.1.2))]) (fun n t w1 => St NoS w w1 [rowR encInt A_p0_Cells c_p0_Cells p0.Cells] [blk g4423 (.cells #[(.int .i64 p0.Width), (.int .i64 p0.Height), (.slice A_p0_Cells p0.Cells.length c_p0_Cells)] 35 (0, 0)), blk g4427 (.cells #[(.int .i64 0), (.int .i64 0), (.slice none 0 0)] 35 (0, 0)), blk g4438 (.cells #[(.int .i64 t4431.Width), (.int .i64 t4431.Height), (.slice t.2.1 t.1.1.length t.2.2)] 35 (0, 0)), rowO 3 encInt t.2.1 t.2.2 t.1.1] ∧ ref01_UpturnPattern.l0 n t.1.1 t.1.2 p0 = some x4625) k ((t4431.Cells, 0), A4436, c4437) [1, 2, 3, 4] rfl ⟨(hS4443.subR [0]).sub [3, 2, 0, 1] (by decide), hx4626⟩ ?_
    rintro k4627 ⟨⟨l4620, x4621⟩, A4618, c4619⟩ w4628 ⟨hS4629, hl4630⟩
    cases k4627 with
    | zero => rw [ref01_UpturnPattern.l0] at hl4630; cases hl4630
    | succ k4627 =>
      rw [ref01_UpturnPattern.l0] at hl4630
      refine WC.seq ?_
      refine WC.seq ?_
      refine WC.region ?_
      refine seg 4 [.v (.int .i64 p0.Height)] [1, 2, 3, 4, 14] [(1, (.pointer (some ⟨g4423, 0, none⟩))), (2, (.pointer (some ⟨g4427, 0, none⟩))), (3, (.pointer (some ⟨g4438, 0, none⟩))), (4, (.int .i64 x4621)), (14, (.bool (decide (x4621 < p0.Height))))] [.cell ⟨g4423, 1, none⟩ (.int .i64 p0.Height)] (fun fb => by kernel_rfl) rfl ⟨hS4629.cell 0 rfl 1 rfl, trivial⟩ ?_
      refine WL.done rfl ?_
      refine WX.next ?_
      rcases br_some hl4630 with ⟨h4631, hl4630⟩ | ⟨h4631, hl4630⟩
      · refine WC.condT2 (fun fb => by kernel_rfl) h4631 ?_
        refine WC.skip ?_
        refine WX.next ?_
        refine WC.seq ?_
        refine WC.block ?_
        refine WC.seq ?_
        refine WC.region ?_
        refine seg 1 [] [1, 2, 3, 4, 5] [(1, (.pointer (some ⟨g4423, 0, none⟩))), (2, (.pointer (some ⟨g4427, 0, none⟩))), (3, (.pointer (some ⟨g4438, 0, none⟩))), (4, (.int .i64 x4621)), (5, (.int .i64 0))] [] (fun fb => by kernel_rfl) rfl trivial ?_
        refine WL.done rfl ?_
        refine WX.next ?_
        obtain ⟨x4685, hx4686, hl4630⟩ := bind_some hl4630
        refine WC.cutN (T := (List Int) × (Option Addr) × Nat) (fun t => [(1, (.pointer (some ⟨g4423, 0, none⟩))), (2, (.pointer (some ⟨g4427, 0, none⟩))), (3, (.pointer (some ⟨g4438, 0, none⟩))), (4, (.int .i64 x4621))]) (fun t w1 => St NoS w w1 [rowR encInt A_p0_Cells c_p0_Cells p0.Cells] [blk g4423 (.cells #[(.int .i64 p0.Width), (.int .i64 p0.Height), (.slice A_p0_Cells p0.Cells.length c_p0_Cells)] 35 (0, 0)), blk g4427 (.cells #[(.int .i64 0), (.int .i64 0), (.slice none 0 0)] 35 (0, 0)), blk g4438 (.cells #[(.int .i64 t4431.Width), (.int .i64 t4431.Height), (.slice t.2.1 t.1.length t.2.2)] 35 (0, 0)), rowO 3 encInt t.2.1 t.2.2 t.1] ∧ x4685 = t.1) (fun Kx4685 => ?_) ?_
        ·
          refine WC.block ?_
          refine WC.loop (T := ((List Int) × Int) × (Option Addr) × Nat) (fun t => [(1, (.pointer (some ⟨g4423, 0, none⟩))), (2, (.pointer (some ⟨g4427, 0, none⟩))), (3, (.pointer (some ⟨g4438, 0, none⟩))), (4, (.int .i64 x4621)), (5, (.int .i64 t.1.2))]) (fun n t w1 => St NoS w w1 [rowR encInt A_p0_Cells c_p0_Cells p0.Cells] [blk g4423 (.cells #[(.int .i64 p0.Width), (.int .i64 p0.Height), (.slice A_p0_Cells p0.Cells.length c_p0_Cells)] 35 (0, 0)), blk g4427 (.cells #[(.int .i64 0), (.int .i64 0), (.slice none 0 0)] 35 (0, 0)), blk g4438 (.cells #[(.int .i64 t4431.Width), (.int .i64 t4431.Height), (.slice t.2.1 t.1.1.length t.2.2)] 35 (0, 0)), rowO 3 encInt t.2.1 t.2.2 t.1.1] ∧ ref01_UpturnPattern.l1 n t.1.1 t.1.2 p0 x4621 = some x4685) k4627 ((l4620, 0), A4618, c4619) [1, 2, 3, 4, 5] rfl ⟨(hS4629.subR [0]).sub [0, 1, 2, 3] (by decide), hx4686⟩ ?_
          rintro k4687 ⟨⟨l4680, x4681⟩, A4678, c4679⟩ w4688 ⟨hS4689, hl4690⟩
          cases k4687 with
          | zero => rw [ref01_UpturnPattern.l1] at hl4690; cases hl4690
          | succ k4687 =>
            rw [ref01_UpturnPattern.l1] at hl4690
            refine WC.seq ?_
            refine WC.seq ?_
            refine WC.region ?_
            refine seg 4 [.v (.int .i64 p0.Width)] [1, 2, 3, 4, 5, 20] [(1, (.pointer (some ⟨g4423, 0, none⟩))), (2, (.pointer (some ⟨g4427, 0, none⟩))), (3, (.pointer (some ⟨g4438, 0, none⟩))), (4, (.int .i64 x4621)), (5, (.int .i64 x4681)), (20, (.bool (decide (x4681 < p0.Width))))] [.cell ⟨g4423, 0, none⟩ (.int .i64 p0.Width)] (fun fb => by kernel_rfl) rfl ⟨hS4689.cell 0 rfl 0 rfl, trivial⟩ ?_
            refine WL.done rfl ?_
            refine WX.next ?_
            rcases br_some hl4690 with ⟨h4691, hl4690⟩ | ⟨h4691, hl4690⟩
            · refine WC.condT2 (fun fb => by kernel_rfl) h4691 ?_
              refine WC.skip ?_
              refine WX.next ?_
              refine WC.seq ?_
              refine WC.block ?_
              refine WC.regionD ([(1, ⟨g4438, 2, none⟩, (.slice A4678 l4680.length c4679)), (3, ⟨g4423, 1, none⟩, (.int .i64 p0.Height)), (8, ⟨g4423, 0, none⟩, (.int .i64 p0.Width)), (12, ⟨g4423, 0, none⟩, (.int .i64 p0.Width)), (12, ⟨g4423, 1, none⟩, (.int .i64 p0.Height)), (12, ⟨g4423, 2, none⟩, (.slice A_p0_Cells p0.Cells.length c_p0_Cells))], [0, 1, 2, 3, 4, 5, 6, 7, 8, 9, 10, 11, 12, 13, 14, 16], [[], [0], [], [2], [2, 3], [], [2, 3, 4, 5], [], [7], [2, 3, 4, 5, 6, 7, 8], [], [2, 3, 4, 5, 6, 7, 8, 9, 10], [], [], [], [12, 13, 14], [0, 1, 2, 3, 4, 5, 6, 7, 8, 9, 10, 11, 12, 13, 14, 15], [0, 1, 2, 3, 4, 5, 6, 7, 8, 9, 10, 11, 12, 13, 14, 15, 16]]) [[0, 1, 2, 3, 4, 5, 6, 7, 8, 9, 10, 11, 12, 13, 14, 15, 16, 17]] (by kernel_rfl) (by kernel_rfl) (NoPanic.block (NoPanic.seq (NoPanic.seq (NoPanic.block (NoPanic.block (NoPanic.seq (NoPanic.seq (NoPanic.block (NoPanic.seq (NoPanic.body)))))))))) ?_
              have hS4702 := hS4689.drew
              revert hS4702
              generalize World.drew w4688 = w4701
              intro hS4702
              refine ⟨⟨hS4702.cell 2 rfl 2 rfl, hS4702.cell 0 rfl 1 rfl, hS4702.cell 0 rfl 0 rfl, hS4702.cell 0 rfl 0 rfl, hS4702.cell 0 rfl 1 rfl, hS4702.cell 0 rfl 2 rfl, trivial⟩, forallC ?_ (forallN)⟩
              refine segF 15 [.v (.slice A4678 l4680.length c4679), .v (.int .i64 p0.Height), .v (.int .i64 p0.Width), .v (.int .i64 p0.Width), .v (.int .i64 p0.Height), .v (.slice A_p0_Cells p0.Cells.length c_p0_Cells)] [1, 2, 3, 4, 5, 24, 34, 35, 36, 37] [(1, (.pointer (some ⟨g4423, 0, none⟩))), (2, (.pointer (some ⟨g4427, 0, none⟩))), (3, (.pointer (some ⟨g4438, 0, none⟩))), (4, (.int .i64 x4621)), (5, (.int .i64 x4681)), (24, (.slice A4678 l4680.length c4679)), (34, (.int .i64 (w64 ((w64 ((w64 ((w64 (p0.Height - 1)) - x4621)) * p0.Width)) + x4681)))), (35, (.agg #[(.int .i64 p0.Width), (.int .i64 p0.Height), (.slice A_p0_Cells p0.Cells.length c_p0_Cells)])), (36, (.int .i64 x4681)), (37, (.int .i64 x4621))] [] [0, 1, 2, 3, 4, 5] [(1, ⟨g4438, 2, none⟩, (.slice A4678 l4680.length c4679)), (3, ⟨g4423, 1, none⟩, (.int .i64 p0.Height)), (8, ⟨g4423, 0, none⟩, (.int .i64 p0.Width)), (12, ⟨g4423, 0, none⟩, (.int .i64 p0.Width)), (12, ⟨g4423, 1, none⟩, (.int .i64 p0.Height)), (12, ⟨g4423, 2, none⟩, (.slice A_p0_Cells p0.Cells.length c_p0_Cells))] (fun fb => by kernel_rfl) rfl trivial rfl ?_
              obtain ⟨t4703, ht4704, hl4690⟩ := bind_some hl4690
              refine WL.call (some 38) 49 #[(.agg #[(.int .i64 p0.Width), (.int .i64 p0.Height), (.slice A_p0_Cells p0.Cells.length c_p0_Cells)]), (.int .i64 x4681), (.int .i64 x4621)] (fun fb => by kernel_rfl) (ref01_Cell_calls p0 x4681 x4621 A_p0_Cells c_p0_Cells t4703 _ (hS4702.rd 0) ht4704) (fun v w4705 hR4706 => ?_)
              obtain ⟨rfl, hk_⟩ := hR4706
              have hS4707 := hS4702.keepN hk_
              refine ⟨⟨hS4707.cell 2 rfl 2 rfl, hS4707.cell 0 rfl 1 rfl, hS4707.cell 0 rfl 0 rfl, trivial⟩, ?_⟩
              obtain ⟨h4708, hl4690⟩ := as_some hl4690
              refine seg 17 [] [1, 2, 3, 4, 5, 38, 39] [(1, (.pointer (some ⟨g4423, 0, none⟩))), (2, (.pointer (some ⟨g4427, 0, none⟩))), (3, (.pointer (some ⟨g4438, 0, none⟩))), (4, (.int .i64 x4621)), (5, (.int .i64 x4681)), (38, (.int .i64 t4703)), (39, (.pointer (some ((adr A4678).add ((w64 ((w64 ((w64 ((w64 (p0.Height - 1)) - x4621)) * p0.Width)) + x4681)).toNat * 1)))))] [.idx A4678 (w64 ((w64 ((w64 ((w64 (p0.Height - 1)) - x4621)) * p0.Width)) + x4681)) l4680.length] (fun fb => by kernel_rfl) rfl ⟨rowR.adr (rowO.rd (hS4707.own 3).1) h4708.1 h4708.2, trivial⟩ ?_
              refine WL.storeRow hS4707 3 rfl (w64 ((w64 ((w64 ((w64 (p0.Height - 1)) - x4621)) * p0.Width)) + x4681)) (t4703) (0) [(0, (.int .i64 t4703))] (fun fb => by kernel_rfl) h4708.1 h4708.2 (by kernel_rfl) rfl [0, 1, 2] (by decide) (by decide) (fun w4709 hS4710 => ?_)
              refine ⟨trivial, ?_⟩
              have hS4711 : St NoS w w4709 [rowR encInt A_p0_Cells c_p0_Cells p0.Cells] [rowO 3 encInt A4678 c4679 (l4680.set (w64 ((w64 ((w64 ((w64 (p0.Height - 1)) - x4621)) * p0.Width)) + x4681)).toNat t4703), blk g4423 (.cells #[(.int .i64 p0.Width), (.int .i64 p0.Height), (.slice A_p0_Cells p0.Cells.length c_p0_Cells)] 35 (0, 0)), blk g4427 (.cells #[(.int .i64 0), (.int .i64 0), (.slice none 0 0)] 35 (0, 0)), blk g4438 (.cells #[(.int .i64 t4431.Width), (.int .i64 t4431.Height), (.slice A4678 (l4680.set (w64 ((w64 ((w64 ((w64 (p0.Height - 1)) - x4621)) * p0.Width)) + x4681)).toNat t4703).length c4679)] 35 (0, 0))] := by simpa only [List.length_set] using (show St NoS w w4709 [rowR encInt A_p0_Cells c_p0_Cells p0.Cells] [rowO 3 encInt A4678 c4679 (l4680.set (w64 ((w64 ((w64 ((w64 (p0.Height - 1)) - x4621)) * p0.Width)) + x4681)).toNat t4703), blk g4423 (.cells #[(.int .i64 p0.Width), (.int .i64 p0.Height), (.slice A_p0_Cells p0.Cells.length c_p0_Cells)] 35 (0, 0)), blk g4427 (.cells #[(.int .i64 0), (.int .i64 0), (.slice none 0 0)] 35 (0, 0)), blk g4438 (.cells #[(.int .i64 t4431.Width), (.int .i64 t4431.Height), (.slice A4678 l4680.length c4679)] 35 (0, 0))] from hS4710)
              refine WL.done rfl ?_
              refine WX.blockN (WX.next ?_)
              refine WC.region ?_
              refine seg 3 [] [1, 2, 3, 4, 5] [(1, (.pointer (some ⟨g4423, 0, none⟩))), (2, (.pointer (some ⟨g4427, 0, none⟩))), (3, (.pointer (some ⟨g4438, 0, none⟩))), (4, (.int .i64 x4621)), (5, (.int .i64 (w64 (x4681 + 1))))] [] (fun fb => by kernel_rfl) rfl trivial ?_
              refine WL.done rfl ?_
              exact WX.again k4687 (Nat.lt_succ_self _) ((l4680.set (w64 ((w64 ((w64 ((w64 (p0.Height - 1)) - x4621)) * p0.Width)) + x4681)).toNat t4703, w64 (x4681 + 1)), A4678, c4679) [1, 2, 3, 4, 5] rfl ⟨(hS4711.subR [0]).sub [1, 2, 3, 0] (by decide), hl4690⟩
            refine WC.condF2 (fun fb => by kernel_rfl) h4691 ?_
            refine WC.exit ?_
            injection hl4690 with hl4690
            exact WX.thenX (WX.thenX (WX.blockHere (WX.to Kx4685 (l4680, A4678, c4679) [1, 2, 3, 4] rfl ⟨(hS4689.subR [0]).sub [0, 1, 2, 3] (by decide), hl4690.symm⟩)))
        rintro ⟨y4715, A4682, c4683⟩ w4712 ⟨hS4713, hq4714⟩
        subst hq4714
        refine WX.blockN (WX.next ?_)
        refine WC.region ?_
        refine seg 3 [] [1, 2, 3, 4] [(1, (.pointer (some ⟨g4423, 0, none⟩))), (2, (.pointer (some ⟨g4427, 0, none⟩))), (3, (.pointer (some ⟨g4438, 0, none⟩))), (4, (.int .i64 (w64 (x4621 + 1))))] [] (fun fb => by kernel_rfl) rfl trivial ?_
        refine WL.done rfl ?_
        exact WX.again k4627 (Nat.lt_succ_self _) ((x4685, w64 (x4621 + 1)), A4682, c4683) [1, 2, 3, 4] rfl ⟨(hS4713.subR [0]).sub [0, 1, 2, 3] (by decide), hl4630⟩
      refine WC.condF2 (fun fb => by kernel_rfl) h4631 ?_
      refine WC.exit ?_
      injection hl4630 with hl4630
      exact WX.thenX (WX.thenX (WX.blockHere (WX.to Kx4625 (l4620, A4618, c4619) [2, 3] rfl ⟨(hS4629.subR [0]).sub [1, 2, 3] (by decide), hl4630.symm⟩)))
  rintro ⟨y4719, A4622, c4623⟩ w4716 ⟨hS4717, hq4718⟩
  subst hq4718
  refine WX.next ?_
  refine WC.seq ?_
  refine WC.region ?_
  refine seg 1 [.v (.int .i64 t4431.Width), .v (.int .i64 t4431.Height), .v (.slice A4622 x4625.length c4623)] [2, 40] [(2, (.pointer (some ⟨g4427, 0, none⟩))), (40, (.agg #[(.int .i64 t4431.Width), (.int .i64 t4431.Height), (.slice A4622 x4625.length c4623)]))] [.cell ⟨g4438, 0, none⟩ (.int .i64 t4431.Width), .cell ⟨g4438, 1, none⟩ (.int .i64 t4431.Height), .cell ⟨g4438, 2, none⟩ (.slice A4622 x4625.length c4623)] (fun fb => by kernel_rfl) rfl ⟨hS4717.cell 1 rfl 0 rfl, hS4717.cell 1 rfl 1 rfl, hS4717.cell 1 rfl 2 rfl, trivial⟩ ?_
  refine WL.store hS4717 0 rfl [(0, (.int .i64 t4431.Width)), (1, (.int .i64 t4431.Height)), (2, (.slice A4622 x4625.length c4623))] #[(.int .i64 t4431.Width), (.int .i64 t4431.Height), (.slice A4622 x4625.length c4623)] (fun fb => by kernel_rfl) (by kernel_rfl) rfl [1, 2] (by decide) (by decide) (fun w4720 hS4721 => ?_)
  refine ⟨trivial, ?_⟩
  refine WL.done rfl ?_
  refine WX.next ?_
  refine WC.ret ?_
  injection hf with hf
  subst hf
  exact WX.ret_ [.v (.int .i64 t4431.Width), .v (.int .i64 t4431.Height), .v (.slice A4622 x4625.length c4623)] (.agg #[(.int .i64 t4431.Width), (.int .i64 t4431.Height), (.slice A4622 x4625.length c4623)]) [.cell ⟨g4427, 0, none⟩ (.int .i64 t4431.Width), .cell ⟨g4427, 1, none⟩ (.int .i64 t4431.Height), .cell ⟨g4427, 2, none⟩ (.slice A4622 x4625.length c4623)] (fun fb => by kernel_rfl) ⟨hS4721.cell 0 rfl 0 rfl, hS4721.cell 0 rfl 1 rfl, hS4721.cell 0 rfl 2 rfl, trivial⟩ ⟨_, rfl, A4622, c4623, rfl, (hS4721.sub [2] (by decide)).noR⟩
theorem ref01_TurnPattern_calls (k : Nat) (p0 : Pattern) (A_p0_Cells : Option Addr) (c_p0_Cells : Nat) (r : Pattern) (w : World) (hR0 : RO NoS w (rowR encInt A_p0_Cells c_p0_Cells p0.Cells)) (hf : ref01_TurnPattern k p0 = some r) :
    CallsR Tryd.prog 37 #[(.agg #[(.int .i64 p0.Width), (.int .i64 p0.Height), (.slice A_p0_Cells p0.Cells.length c_p0_Cells)])] w (fun v w' => ∃ (A1_ : Option Addr), ∃ (c1_ : Nat), v = (.agg #[(.int .i64 r.Width), (.int .i64 r.Height), (.slice A1_ r.Cells.length c1_)]) ∧ St NoS w w' [] [rowO 3 encInt A1_ c1_ r.Cells]) := by
  have hS : St NoS w w [rowR encInt A_p0_Cells c_p0_Cells p0.Cells] [] := St.init (ro_cons hR0 (ro_nil _ _))
  refine enter 41 Tryd.func37 rfl Tryd.ntmps37 rfl ?_
  unfold ref01_TurnPattern at hf
  refine WC.seq ?_
  refine WC.region ?_
  refine WL.new hS 1 [] (fun g => (.pointer (some ⟨g, 0, none⟩))) (.cells #[(.int .i64 p0.Width), (.int .i64 p0.Height), (.slice A_p0_Cells p0.Cells.length c_p0_Cells)] 35 (0, 0)) [] (fun fb g => by kernel_rfl) trivial (fun g4755 w4756 hS4757 => ?_)
  refine ⟨trivial, ?_⟩
  refine WL.new hS4757 2 [] (fun g => (.pointer (some ⟨g, 0, none⟩))) (.cells #[(.int .i64 0), (.int .i64 0), (.slice none 0 0)] 35 (0, 0)) [] (fun fb g => by kernel_rfl) trivial (fun g4759 w4760 hS4761 => ?_)
  refine ⟨trivial, ?_⟩
  refine WL.done rfl ?_
  refine WX.next ?_
  refine WC.seq ?_
  refine WC.region ?_
  refine seg 4 [.v (.int .i64 p0.Height), .v (.int .i64 p0.Width)] [1, 2, 7, 9] [(1, (.pointer (some ⟨g4755, 0, none⟩))), (2, (.pointer (some ⟨g4759, 0, none⟩))), (7, (.int .i64 p0.Height)), (9, (.int .i64 p0.Width))] [.cell ⟨g4755, 1, none⟩ (.int .i64 p0.Height), .cell ⟨g4755, 0, none⟩ (.int .i64 p0.Width)] (fun fb => by kernel_rfl) rfl ⟨hS4761.cell 1 rfl 1 rfl, hS4761.cell 1 rfl 0 rfl, trivial⟩ ?_
  obtain ⟨t4763, ht4764, hf⟩ := bind_some hf
  refine WL.call (some 10) 55 #[(.int .i64 p0.Height), (.int .i64 p0.Width)] (fun fb => by kernel_rfl) (ref01_Blank_calls p0.Height p0.Width t4763 _ ht4764) (fun v w4765 hR4766 => ?_)
  obtain ⟨A4768, c4769, rfl, hk_⟩ := hR4766
  have hS4767 : St NoS w w4765 [rowR encInt A_p0_Cells c_p0_Cells p0.Cells] [rowO 3 encInt A4768 c4769 t4763.Cells, blk g4759 (.cells #[(.int .i64 0), (.int .i64 0), (.slice none 0 0)] 35 (0, 0)), blk g4755 (.cells #[(.int .i64 p0.Width), (.int .i64 p0.Height), (.slice A_p0_Cells p0.Cells.length c_p0_Cells)] 35 (0, 0))] := hS4761.call hk_ [] [0, 1] (fun g hg => hg.elim) (by simp) (by decide)
  refine ⟨trivial, ?_⟩
  refine WL.new hS4767 3 [] (fun g => (.pointer (some ⟨g, 0, none⟩))) (.cells #[(.int .i64 0), (.int .i64 0), (.slice none 0 0)] 35 (0, 0)) [] (fun fb g => by kernel_rfl) trivial (fun g4770 w4771 hS4772 => ?_)
  refine ⟨trivial, ?_⟩
  refine WL.store hS4772 0 rfl [(0, (.int .i64 t4763.Width)), (1, (.int .i64 t4763.Height)), (2, (.slice A4768 t4763.Cells.length c4769))] #[(.int .i64 t4763.Width), (.int .i64 t4763.Height), (.slice A4768 t4763.Cells.length c4769)] (fun fb => by kernel_rfl) (by kernel_rfl) rfl [1, 2, 3] (by decide) (by decide) (fun w4774 hS4775 => ?_)
  refine ⟨trivial, ?_⟩
  refine WL.done rfl ?_
  refine WX.next ?_
  refine WC.seq ?_
  refine WC.seq ?_
  refine WC.region ?_
  refine seg 1 [] [1, 2, 3, 4] [(1, (.pointer (some ⟨g4755, 0, none⟩))), (2, (.pointer (some ⟨g4759, 0, none⟩))), (3, (.pointer (some ⟨g4770, 0, none⟩))), (4, (.int .i64 0))] [] (fun fb => by kernel_rfl) rfl trivial ?_
  refine WL.done rfl ?_
  refine WX.next ?_
  obtain ⟨x4957, hx4958, hf⟩ := bind_some hf
  refine WC.cutN (T := (List Int) × (Option Addr) × Nat) (fun t => [(2, (.pointer (some ⟨g4759, 0, none⟩))), (3, (.pointer (some ⟨g4770, 0, none⟩)))]) (fun t w1 => St NoS w w1 [rowR encInt A_p0_Cells c_p0_Cells p0.Cells] [blk g4759 (.cells #[(.int .i64 0), (.int .i64 0), (.slice none 0 0)] 35 (0, 0)), blk g4770 (.cells #[(.int .i64 t4763.Width), (.int .i64 t4763.Height), (.slice t.2.1 t.1.length t.2.2)] 35 (0, 0)), rowO 3 encInt t.2.1 t.2.2 t.1] ∧ x4957 = t.1) (fun Kx4957 => ?_) ?_
  ·
    refine WC.block ?_
    refine WC.loop (T := ((List Int) × Int) × (Option Addr) × Nat) (fun t => [(1, (.pointer (some ⟨g4755, 0, none⟩))), (2, (.pointer (some ⟨g4759, 0, none⟩))), (3, (.pointer (some ⟨g4770, 0, none⟩))), (4, (.int .i64 t.1.2))]) (fun n t w1 => St NoS w w1 [rowR encInt A_p0_Cells c_p0_Cells p0.Cells] [blk g4755 (.cells #[(.int .i64 p0.Width), (.int .i64 p0.Height), (.slice A_p0_Cells p0.Cells.length c_p0_Cells)] 35 (0, 0)), blk g4759 (.cells #[(.int .i64 0), (.int .i64 0), (.slice none 0 0)] 35 (0, 0)), blk g4770 (.cells #[(.int .i64 t4763.Width), (.int .i64 t4763.Height), (.slice t.2.1 t.1.1.length t.2.2)] 35 (0, 0)), rowO 3 encInt t.2.1 t.2.2 t.1.1] ∧ ref01_TurnPattern.l0 n t.1.1 t.1.2 p0 = some x4957) k ((t4763.Cells, 0), A4768, c4769) [1, 2, 3, 4] rfl ⟨(hS4775.subR [0]).sub [3, 2, 0, 1] (by decide), hx4958⟩ ?_
    rintro k4959 ⟨⟨l4952, x4953⟩, A4950, c4951⟩ w4960 ⟨hS4961, hl4962⟩
    cases k4959 with
    | zero => rw [ref01_TurnPattern.l0] at hl4962; cases hl4962
    | succ k4959 =>
      rw [ref01_TurnPattern.l0] at hl4962
      refine WC.seq ?_
      refine WC.seq ?_
      refine WC.region ?_
      refine seg 4 [.v (.int .i64 p0.Height)] [1, 2, 3, 4, 14] [(1, (.pointer (some ⟨g4755, 0, none⟩))), (2, (.pointer (some ⟨g4759, 0, none⟩))), (3, (.pointer (some ⟨g4770, 0, none⟩))), (4, (.int .i64 x4953)), (14, (.bool (decide (x4953 < p0.Height))))] [.cell ⟨g4755, 1, none⟩ (.int .i64 p0.Height)] (fun fb => by kernel_rfl) rfl ⟨hS4961.cell 0 rfl 1 rfl, trivial⟩ ?_
      refine WL.done rfl ?_
      refine WX.next ?_
      rcases br_some hl4962 with ⟨h4963, hl4962⟩ | ⟨h4963, hl4962⟩
      · refine WC.condT2 (fun fb => by kernel_rfl) h4963 ?_
        refine WC.skip ?_
        refine WX.next ?_
        refine WC.seq ?_
        refine WC.block ?_
        refine WC.seq ?_
        refine WC.region ?_
        refine seg 1 [] [1, 2, 3, 4, 5] [(1, (.pointer (some ⟨g4755, 0, none⟩))), (2, (.pointer (some ⟨g4759, 0, none⟩))), (3, (.pointer (some ⟨g4770, 0, none⟩))), (4, (.int .i64 x4953)), (5, (.int .i64 0))] [] (fun fb => by kernel_rfl) rfl trivial ?_
        refine WL.done rfl ?_
        refine WX.next ?_
        obtain ⟨x5017, hx5018, hl4962⟩ := bind_some hl4962
        refine WC.cutN (T := (List Int) × (Option Addr) × Nat) (fun t => [(1, (.pointer (some ⟨g4755, 0, none⟩))), (2, (.pointer (some ⟨g4759, 0, none⟩))), (3, (.pointer (some ⟨g4770, 0, none⟩))), (4, (.int .i64 x4953))]) (fun t w1 => St NoS w w1 [rowR encInt A_p0_Cells c_p0_Cells p0.Cells] [blk g4755 (.cells #[(.int .i64 p0.Width), (.int .i64 p0.Height), (.slice A_p0_Cells p0.Cells.length c_p0_Cells)] 35 (0, 0)), blk g4759 (.cells #[(.int .i64 0), (.int .i64 0), (.slice none 0 0)] 35 (0, 0)), blk g4770 (.cells #[(.int .i64 t4763.Width), (.int .i64 t4763.Height), (.slice t.2.1 t.1.length t.2.2)] 35 (0, 0)), rowO 3 encInt t.2.1 t.2.2 t.1] ∧ x5017 = t.1) (fun Kx5017 => ?_) ?_
        ·
          refine WC.block ?_
          refine WC.loop (T := ((List Int) × Int) × (Option Addr) × Nat) (fun t => [(1, (.pointer (some ⟨g4755, 0, none⟩))), (2, (.pointer (some ⟨g4759, 0, none⟩))), (3, (.pointer (some ⟨g4770, 0, none⟩))), (4, (.int .i64 x4953)), (5, (.int .i64 t.1.2))]) (fun n t w1 => St NoS w w1 [rowR encInt A_p0_Cells c_p0_Cells p0.Cells] [blk g4755 (.cells #[(.int .i64 p0.Width), (.int .i64 p0.Height), (.slice A_p0_Cells p0.Cells.length c_p0_Cells)] 35 (0, 0)), blk g4759 (.cells #[(.int .i64 0), (.int .i64 0), (.slice none 0 0)] 35 (0, 0)), blk g4770 (.cells #[(.int .i64 t4763.Width), (.int .i64 t4763.Height), (.slice t.2.1 t.1.1.length t.2.2)] 35 (0, 0)), rowO 3 encInt t.2.1 t.2.2 t.1.1] ∧ ref01_TurnPattern.l1 n t.1.1 t.1.2 p0 x4953 = some x5017) k4959 ((l4952, 0), A4950, c4951) [1, 2, 3, 4, 5] rfl ⟨(hS4961.subR [0]).sub [0, 1, 2, 3] (by decide), hx5018⟩ ?_
          rintro k5019 ⟨⟨l5012, x5013⟩, A5010, c5011⟩ w5020 ⟨hS5021, hl5022⟩
          cases k5019 with
          | zero => rw [ref01_TurnPattern.l1] at hl5022; cases hl5022
          | succ k5019 =>
            rw [ref01_TurnPattern.l1] at hl5022
            refine WC.seq ?_
            refine WC.seq ?_
            refine WC.region ?_
            refine seg 4 [.v (.int .i64 p0.Width)] [1, 2, 3, 4, 5, 20] [(1, (.pointer (some ⟨g4755, 0, none⟩))), (2, (.pointer (some ⟨g4759, 0, none⟩))), (3, (.pointer (some ⟨g4770, 0, none⟩))), (4, (.int .i64 x4953)), (5, (.int .i64 x5013)), (20, (.bool (decide (x5013 < p0.Width))))] [.cell ⟨g4755, 0, none⟩ (.int .i64 p0.Width)] (fun fb => by kernel_rfl) rfl ⟨hS5021.cell 0 rfl 0 rfl, trivial⟩ ?_
            refine WL.done rfl ?_
            refine WX.next ?_
            rcases br_some hl5022 with ⟨h5023, hl5022⟩ | ⟨h5023, hl5022⟩
            · refine WC.condT2 (fun fb => by kernel_rfl) h5023 ?_
              refine WC.skip ?_
              refine WX.next ?_
              refine WC.seq ?_
              refine WC.block ?_
              refine WC.regionD ([(1, ⟨g4770, 2, none⟩, (.slice A5010 l5012.length c5011)), (3, ⟨g4755, 0, none⟩, (.int .i64 p0.Width)), (8, ⟨g4755, 1, none⟩, (.int .i64 p0.Height)), (12, ⟨g4755, 0, none⟩, (.int .i64 p0.Width)), (12, ⟨g4755, 1, none⟩, (.int .i64 p0.Height)), (12, ⟨g4755, 2, none⟩, (.slice A_p0_Cells p0.Cells.length c_p0_Cells))], [0, 1, 2, 3, 4, 5, 6, 7, 8, 9, 10, 11, 12, 13, 14, 16], [[], [0], [], [2], [2, 3], [], [2, 3, 4, 5], [], [7], [2, 3, 4, 5, 6, 7, 8], [], [2, 3, 4, 5, 6, 7, 8, 9, 10], [], [], [], [12, 13, 14], [0, 1, 2, 3, 4, 5, 6, 7, 8, 9, 10, 11, 12, 13, 14, 15], [0, 1, 2, 3, 4, 5, 6, 7, 8, 9, 10, 11, 12, 13, 14, 15, 16]]) [[0, 1, 2, 3, 4, 5, 6, 7, 8, 9, 10, 11, 12, 13, 14, 15, 16, 17]] (by kernel_rfl) (by kernel_rfl) (NoPanic.block (NoPanic.seq (NoPanic.seq (NoPanic.block (NoPanic.block (NoPanic.seq (NoPanic.seq (NoPanic.block (NoPanic.seq (NoPanic.body)))))))))) ?_
              have hS5034 := hS5021.drew
              revert hS5034
              generalize World.drew w5020 = w5033
              intro hS5034
              refine ⟨⟨hS5034.cell 2 rfl 2 rfl, hS5034.cell 0 rfl 0 rfl, hS5034.cell 0 rfl 1 rfl, hS5034.cell 0 rfl 0 rfl, hS5034.cell 0 rfl 1 rfl, hS5034.cell 0 rfl 2 rfl, trivial⟩, forallC ?_ (forallN)⟩
              refine segF 15 [.v (.slice A5010 l5012.length c5011), .v (.int .i64 p0.Width), .v (.int .i64 p0.Height), .v (.int .i64 p0.Width), .v (.int .i64 p0.Height), .v (.slice A_p0_Cells p0.Cells.length c_p0_Cells)] [1, 2, 3, 4, 5, 24, 34, 35, 36, 37] [(1, (.pointer (some ⟨g4755, 0, none⟩))), (2, (.pointer (some ⟨g4759, 0, none⟩))), (3, (.pointer (some ⟨g4770, 0, none⟩))), (4, (.int .i64 x4953)), (5, (.int .i64 x5013)), (24, (.slice A5010 l5012.length c5011)), (34, (.int .i64 (w64 ((w64 ((w64 ((w64 (p0.Width - 1)) - x5013)) * p0.Height)) + x4953)))), (35, (.agg #[(.int .i64 p0.Width), (.int .i64 p0.Height), (.slice A_p0_Cells p0.Cells.length c_p0_Cells)])), (36, (.int .i64 x5013)), (37, (.int .i64 x4953))] [] [0, 1, 2, 3, 4, 5] [(1, ⟨g4770, 2, none⟩, (.slice A5010 l5012.length c5011)), (3, ⟨g4755, 0, none⟩, (.int .i64 p0.Width)), (8, ⟨g4755, 1, none⟩, (.int .i64 p0.Height)), (12, ⟨g4755, 0, none⟩, (.int .i64 p0.Width)), (12, ⟨g4755, 1, none⟩, (.int .i64 p0.Height)), (12, ⟨g4755, 2, none⟩, (.slice A_p0_Cells p0.Cells.length c_p0_Cells))] (fun fb => by kernel_rfl) rfl trivial rfl ?_
              obtain ⟨t5035, ht5036, hl5022⟩ := bind_some hl5022
              refine WL.call (some 38) 49 #[(.agg #[(.int .i64 p0.Width), (.int .i64 p0.Height), (.slice A_p0_Cells p0.Cells.length c_p0_Cells)]), (.int .i64 x5013), (.int .i64 x4953)] (fun fb => by kernel_rfl) (ref01_Cell_calls p0 x5013 x4953 A_p0_Cells c_p0_Cells t5035 _ (hS5034.rd 0) ht5036) (fun v w5037 hR5038 => ?_)
              obtain ⟨rfl, hk_⟩ := hR5038
              have hS5039 := hS5034.keepN hk_
              refine ⟨⟨hS5039.cell 2 rfl 2 rfl, hS5039.cell 0 rfl 0 rfl, hS5039.cell 0 rfl 1 rfl, trivial⟩, ?_⟩
              obtain ⟨h5040, hl5022⟩ := as_some hl5022
              refine seg 17 [] [1, 2, 3, 4, 5, 38, 39] [(1, (.pointer (some ⟨g4755, 0, none⟩))), (2, (.pointer (some ⟨g4759, 0, none⟩))), (3, (.pointer (some ⟨g4770, 0, none⟩))), (4, (.int .i64 x4953)), (5, (.int .i64 x5013)), (38, (.int .i64 t5035)), (39, (.pointer (some ((adr A5010).add ((w64 ((w64 ((w64 ((w64 (p0.Width - 1)) - x5013)) * p0.Height)) + x4953)).toNat * 1)))))] [.idx A5010 (w64 ((w64 ((w64 ((w64 (p0.Width - 1)) - x5013)) * p0.Height)) + x4953)) l5012.length] (fun fb => by kernel_rfl) rfl ⟨rowR.adr (rowO.rd (hS5039.own 3).1) h5040.1 h5040.2, trivial⟩ ?_
              refine WL.storeRow hS5039 3 rfl (w64 ((w64 ((w64 ((w64 (p0.Width - 1)) - x5013)) * p0.Height)) + x4953)) (t5035) (0) [(0, (.int .i64 t5035))] (fun fb => by kernel_rfl) h5040.1 h5040.2 (by kernel_rfl) rfl [0, 1, 2] (by decide) (by decide) (fun w5041 hS5042 => ?_)
              refine ⟨trivial, ?_⟩
              have hS5043 : St NoS w w5041 [rowR encInt A_p0_Cells c_p0_Cells p0.Cells] [rowO 3 encInt A5010 c5011 (l5012.set (w64 ((w64 ((w64 ((w64 (p0.Width - 1)) - x5013)) * p0.Height)) + x4953)).toNat t5035), blk g4755 (.cells #[(.int .i64 p0.Width), (.int .i64 p0.Height), (.slice A_p0_Cells p0.Cells.length c_p0_Cells)] 35 (0, 0)), blk g4759 (.cells #[(.int .i64 0), (.int .i64 0), (.slice none 0 0)] 35 (0, 0)), blk g4770 (.cells #[(.int .i64 t4763.Width), (.int .i64 t4763.Height), (.slice A5010 (l5012.set (w64 ((w64 ((w64 ((w64 (p0.Width - 1)) - x5013)) * p0.Height)) + x4953)).toNat t5035).length c5011)] 35 (0, 0))] := by simpa only [List.length_set] using (show St NoS w w5041 [rowR encInt A_p0_Cells c_p0_Cells p0.Cells] [rowO 3 encInt A5010 c5011 (l5012.set (w64 ((w64 ((w64 ((w64 (p0.Width - 1)) - x5013)) * p0.Height)) + x4953)).toNat t5035), blk g4755 (.cells #[(.int .i64 p0.Width), (.int .i64 p0.Height), (.slice A_p0_Cells p0.Cells.length c_p0_Cells)] 35 (0, 0)), blk g4759 (.cells #[(.int .i64 0), (.int .i64 0), (.slice none 0 0)] 35 (0, 0)), blk g4770 (.cells #[(.int .i64 t4763.Width), (.int .i64 t4763.Height), (.slice A5010 l5012.length c5011)] 35 (0, 0))] from hS5042)
              refine WL.done rfl ?_
              refine WX.blockN (WX.next ?_)
              refine WC.region ?_
              refine seg 3 [] [1, 2, 3, 4, 5] [(1, (.pointer (some ⟨g4755, 0, none⟩))), (2, (.pointer (some ⟨g4759, 0, none⟩))), (3, (.pointer (some ⟨g4770, 0, none⟩))), (4, (.int .i64 x4953)), (5, (.int .i64 (w64 (x5013 + 1))))] [] (fun fb => by kernel_rfl) rfl trivial ?_
              refine WL.done rfl ?_
              exact WX.again k5019 (Nat.lt_succ_self _) ((l5012.set (w64 ((w64 ((w64 ((w64 (p0.Width - 1)) - x5013)) * p0.Height)) + x4953)).toNat t5035, w64 (x5013 + 1)), A5010, c5011) [1, 2, 3, 4, 5] rfl ⟨(hS5043.subR [0]).sub [1, 2, 3, 0] (by decide), hl5022⟩
            refine WC.condF2 (fun fb => by kernel_rfl) h5023 ?_
            refine WC.exit ?_
            injection hl5022 with hl5022
            exact WX.thenX (WX.thenX (WX.blockHere (WX.to Kx5017 (l5012, A5010, c5011) [1, 2, 3, 4] rfl ⟨(hS5021.subR [0]).sub [0, 1, 2, 3] (by decide), hl5022.symm⟩)))
        rintro ⟨y5047, A5014, c5015⟩ w5044 ⟨hS5045, hq5046⟩
        subst hq5046
        refine WX.blockN (WX.next ?_)
        refine WC.region ?_
        refine seg 3 [] [1, 2, 3, 4] [(1, (.pointer (some ⟨g4755, 0, none⟩))), (2, (.pointer (some ⟨g4759, 0, none⟩))), (3, (.pointer (some ⟨g4770, 0, none⟩))), (4, (.int .i64 (w64 (x4953 + 1))))] [] (fun fb => by kernel_rfl) rfl trivial ?_
        refine WL.done rfl ?_
        exact WX.again k4959 (Nat.lt_succ_self _) ((x5017, w64 (x4953 + 1)), A5014, c5015) [1, 2, 3, 4] rfl ⟨(hS5045.subR [0]).sub [0, 1, 2, 3] (by decide), hl4962⟩
      refine WC.condF2 (fun fb => by kernel_rfl) h4963 ?_
      refine WC.exit ?_
      injection hl4962 with hl4962
      exact WX.thenX (WX.thenX (WX.blockHere (WX.to Kx4957 (l4952, A4950, c4951) [2, 3] rfl ⟨(hS4961.subR [0]).sub [1, 2, 3] (by decide), hl4962.symm⟩)))
  rintro ⟨y5051, A4954, c4955⟩ w5048 ⟨hS5049, hq5050⟩
  subst hq5050
  refine WX.next ?_
  refine WC.seq ?_
  refine WC.region ?_
  refine seg 1 [.v (.int .i64 t4763.Width), .v (.int .i64 t4763.Height), .v (.slice A4954 x4957.length c4955)] [2, 40] [(2, (.pointer (some ⟨g4759, 0, none⟩))), (40, (.agg #[(.int .i64 t4763.Width), (.int .i64 t4763.Height), (.slice A4954 x4957.length c4955)]))] [.cell ⟨g4770, 0, none⟩ (.int .i64 t4763.Width), .cell ⟨g4770, 1, none⟩ (.int .i64 t4763.Height), .cell ⟨g4770, 2, none⟩ (.slice A4954 x4957.length c4955)] (fun fb => by kernel_rfl) rfl ⟨hS5049.cell 1 rfl 0 rfl, hS5049.cell 1 rfl 1 rfl, hS5049.cell 1 rfl 2 rfl, trivial⟩ ?_
  refine WL.store hS5049 0 rfl [(0, (.int .i64 t4763.Width)), (1, (.int .i64 t4763.Height)), (2, (.slice A4954 x4957.length c4955))] #[(.int .i64 t4763.Width), (.int .i64 t4763.Height), (.slice A4954 x4957.length c4955)] (fun fb => by kernel_rfl) (by kernel_rfl) rfl [1, 2] (by decide) (by decide) (fun w5052 hS5053 => ?_)
  refine ⟨trivial, ?_⟩
  refine WL.done rfl ?_
  refine WX.next ?_
  refine WC.ret ?_
  injection hf with hf
  subst hf
  exact WX.ret_ [.v (.int .i64 t4763.Width), .v (.int .i64 t4763.Height), .v (.slice A4954 x4957.length c4955)] (.agg #[(.int .i64 t4763.Width), (.int .i64 t4763.Height), (.slice A4954 x4957.length c4955)]) [.cell ⟨g4759, 0, none⟩ (.int .i64 t4763.Width), .cell ⟨g4759, 1, none⟩ (.int .i64 t4763.Height), .cell ⟨g4759, 2, none⟩ (.slice A4954 x4957.length c4955)] (fun fb => by kernel_rfl) ⟨hS5053.cell 0 rfl 0 rfl, hS5053.cell 0 rfl 1 rfl, hS5053.cell 0 rfl 2 rfl, trivial⟩ ⟨_, rfl, A4954, c4955, rfl, (hS5053.sub [2] (by decide)).noR⟩
theorem ref01_Cut_calls (k : Nat) (p0 : Pattern) (p1 : Int) (p2 : Int) (p3 : Int) (p4 : Int) (A_p0_Cells : Option Addr) (c_p0_Cells : Nat) (r : Pattern) (w : World) (hR0 : RO NoS w (rowR encInt A_p0_Cells c_p0_Cells p0.Cells)) (hf : ref01_Cut k p0 p1 p2 p3 p4 = some r) :
    CallsR Tryd.prog 38 #[(.agg #[(.int .i64 p0.Width), (.int .i64 p0.Height), (.slice A_p0_Cells p0.Cells.length c_p0_Cells)]), (.int .i64 p1), (.int .i64 p2), (.int .i64 p3), (.int .i64 p4)] w (fun v w' => ∃ (A1_ : Option Addr), ∃ (c1_ : Nat), v = (.agg #[(.int .i64 r.Width), (.int .i64 r.Height), (.slice A1_ r.Cells.length c1_)]) ∧ St NoS w w' [] [rowO 3 encInt A1_ c1_ r.Cells]) := by
  have hS : St NoS w w [rowR encInt A_p0_Cells c_p0_Cells p0.Cells] [] := St.init (ro_cons hR0 (ro_nil _ _))
  refine enter 41 Tryd.func38 rfl Tryd.ntmps38 rfl ?_
  unfold ref01_Cut at hf
  refine WC.seq ?_
  refine WC.region ?_
  refine WL.new hS 5 [] (fun g => (.pointer (some ⟨g, 0, none⟩))) (.cells #[(.int .i64 p0.Width), (.int .i64 p0.Height), (.slice A_p0_Cells p0.Cells.length c_p0_Cells)] 35 (0, 0)) [] (fun fb g => by kernel_rfl) trivial (fun g5189 w5190 hS5191 => ?_)
  refine ⟨trivial, ?_⟩
  refine WL.new hS5191 10 [] (fun g => (.pointer (some ⟨g, 0, none⟩))) (.cells #[(.int .i64 0), (.int .i64 0), (.slice none 0 0)] 35 (0, 0)) [] (fun fb g => by kernel_rfl) trivial (fun g5193 w5194 hS5195 => ?_)
  refine ⟨trivial, ?_⟩
  refine WL.done rfl ?_
  refine WX.next ?_
  refine WC.seq ?_
  refine WC.region ?_
  refine seg 3 [] [1, 2, 3, 4, 5, 10, 16] [(1, (.int .i64 p1)), (2, (.int .i64 p2)), (3, (.int .i64 p3)), (4, (.int .i64 p4)), (5, (.pointer (some ⟨g5189, 0, none⟩))), (10, (.pointer (some ⟨g5193, 0, none⟩))), (16, (.agg #[(.int .i64 p3), (.int .i64 p4), (.slice none 0 0)]))] [] (fun fb => by kernel_rfl) rfl trivial ?_
  refine WL.new hS5195 11 [] (fun g => (.pointer (some ⟨g, 0, none⟩))) (.cells #[(.int .i64 0), (.int .i64 0), (.slice none 0 0)] 35 (0, 0)) [] (fun fb g => by kernel_rfl) trivial (fun g5197 w5198 hS5199 => ?_)
  refine ⟨trivial, ?_⟩
  refine WL.store hS5199 0 rfl [(0, (.int .i64 p3)), (1, (.int .i64 p4)), (2, (.slice none 0 0))] #[(.int .i64 p3), (.int .i64 p4), (.slice none 0 0)] (fun fb => by kernel_rfl) (by kernel_rfl) rfl [1, 2] (by decide) (by decide) (fun w5201 hS5202 => ?_)
  refine ⟨trivial, ?_⟩
  refine WL.done rfl ?_
  refine WX.next ?_
  refine WC.seq ?_
  refine WC.seq ?_
  refine WC.region ?_
  refine seg 1 [] [1, 2, 3, 4, 5, 10, 11, 12] [(1, (.int .i64 p1)), (2, (.int .i64 p2)), (3, (.int .i64 p3)), (4, (.int .i64 p4)), (5, (.pointer (some ⟨g5189, 0, none⟩))), (10, (.pointer (some ⟨g5193, 0, none⟩))), (11, (.pointer (some ⟨g5197, 0, none⟩))), (12, (.int .i64 0))] [] (fun fb => by kernel_rfl) rfl trivial ?_
  refine WL.done rfl ?_
  refine WX.next ?_
  have hS5478 := hS5202.nilrow 3 encInt
  obtain ⟨x5486, hx5487, hf⟩ := bind_some hf
  refine WC.cutN (T := (List Int) × (Option Addr) × Nat) (fun t => [(10, (.pointer (some ⟨g5193, 0, none⟩))), (11, (.pointer (some ⟨g5197, 0, none⟩)))]) (fun t w1 => St NoS w w1 [rowR encInt A_p0_Cells c_p0_Cells p0.Cells] [blk g5193 (.cells #[(.int .i64 0), (.int .i64 0), (.slice none 0 0)] 35 (0, 0)), blk g5197 (.cells #[(.int .i64 p3), (.int .i64 p4), (.slice t.2.1 t.1.length t.2.2)] 35 (0, 0)), rowO 3 encInt t.2.1 t.2.2 t.1] ∧ x5486 = t.1) (fun Kx5486 => ?_) ?_
  ·
    refine WC.block ?_
    refine WC.loop (T := ((List Int) × Int) × (Option Addr) × Nat) (fun t => [(1, (.int .i64 p1)), (2, (.int .i64 p2)), (3, (.int .i64 p3)), (4, (.int .i64 p4)), (5, (.pointer (some ⟨g5189, 0, none⟩))), (10, (.pointer (some ⟨g5193, 0, none⟩))), (11, (.pointer (some ⟨g5197, 0, none⟩))), (12, (.int .i64 t.1.2))]) (fun n t w1 => St NoS w w1 [rowR encInt A_p0_Cells c_p0_Cells p0.Cells] [blk g5189 (.cells #[(.int .i64 p0.Width), (.int .i64 p0.Height), (.slice A_p0_Cells p0.Cells.length c_p0_Cells)] 35 (0, 0)), blk g5193 (.cells #[(.int .i64 0), (.int .i64 0), (.slice none 0 0)] 35 (0, 0)), blk g5197 (.cells #[(.int .i64 p3), (.int .i64 p4), (.slice t.2.1 t.1.1.length t.2.2)] 35 (0, 0)), rowO 3 encInt t.2.1 t.2.2 t.1.1] ∧ ref01_Cut.l0 n t.1.1 t.1.2 p0 p1 p2 p3 p4 = some x5486) k ((([] : List Int), 0), none, 0) [1, 2, 3, 4, 5, 10, 11, 12] rfl ⟨(hS5478.subR [0]).sub [3, 2, 1, 0] (by decide), hx5487⟩ ?_
    rintro k5488 ⟨⟨l5481, x5482⟩, A5479, c5480⟩ w5489 ⟨hS5490, hl5491⟩
    cases k5488 with
    | zero => rw [ref01_Cut.l0] at hl5491; cases hl5491
    | succ k5488 =>
      rw [ref01_Cut.l0] at hl5491
      refine WC.seq ?_
      refine WC.seq ?_
      refine WC.region ?_
      refine seg 3 [] [1, 2, 3, 4, 5, 10, 11, 12, 19] [(1, (.int .i64 p1)), (2, (.int .i64 p2)), (3, (.int .i64 p3)), (4, (.int .i64 p4)), (5, (.pointer (some ⟨g5189, 0, none⟩))), (10, (.pointer (some ⟨g5193, 0, none⟩))), (11, (.pointer (some ⟨g5197, 0, none⟩))), (12, (.int .i64 x5482)), (19, (.bool (decide (x5482 < p4))))] [] (fun fb => by kernel_rfl) rfl trivial ?_
      refine WL.done rfl ?_
      refine WX.next ?_
      rcases br_some hl5491 with ⟨h5492, hl5491⟩ | ⟨h5492, hl5491⟩
      · refine WC.condT2 (fun fb => by kernel_rfl) h5492 ?_
        refine WC.skip ?_
        refine WX.next ?_
        refine WC.seq ?_
        refine WC.block ?_
        refine WC.seq ?_
        refine WC.region ?_
        refine seg 1 [] [1, 2, 3, 4, 5, 10, 11, 12, 13] [(1, (.int .i64 p1)), (2, (.int .i64 p2)), (3, (.int .i64 p3)), (4, (.int .i64 p4)), (5, (.pointer (some ⟨g5189, 0, none⟩))), (10, (.pointer (some ⟨g5193, 0, none⟩))), (11, (.pointer (some ⟨g5197, 0, none⟩))), (12, (.int .i64 x5482)), (13, (.int .i64 0))] [] (fun fb => by kernel_rfl) rfl trivial ?_
        refine WL.done rfl ?_
        refine WX.next ?_
        obtain ⟨x5578, hx5579, hl5491⟩ := bind_some hl5491
        refine WC.cutN (T := (List Int) × (Option Addr) × Nat) (fun t => [(1, (.int .i64 p1)), (2, (.int .i64 p2)), (3, (.int .i64 p3)), (4, (.int .i64 p4)), (5, (.pointer (some ⟨g5189, 0, none⟩))), (10, (.pointer (some ⟨g5193, 0, none⟩))), (11, (.pointer (some ⟨g5197, 0, none⟩))), (12, (.int .i64 x5482))]) (fun t w1 => St NoS w w1 [rowR encInt A_p0_Cells c_p0_Cells p0.Cells] [blk g5189 (.cells #[(.int .i64 p0.Width), (.int .i64 p0.Height), (.slice A_p0_Cells p0.Cells.length c_p0_Cells)] 35 (0, 0)), blk g5193 (.cells #[(.int .i64 0), (.int .i64 0), (.slice none 0 0)] 35 (0, 0)), blk g5197 (.cells #[(.int .i64 p3), (.int .i64 p4), (.slice t.2.1 t.1.length t.2.2)] 35 (0, 0)), rowO 3 encInt t.2.1 t.2.2 t.1] ∧ x5578 = t.1) (fun Kx5578 => ?_) ?_
        ·
          refine WC.block ?_
          refine WC.loop (T := ((List Int) × Int) × (Option Addr) × Nat) (fun t => [(1, (.int .i64 p1)), (2, (.int .i64 p2)), (3, (.int .i64 p3)), (4, (.int .i64 p4)), (5, (.pointer (some ⟨g5189, 0, none⟩))), (10, (.pointer (some ⟨g5193, 0, none⟩))), (11, (.pointer (some ⟨g5197, 0, none⟩))), (12, (.int .i64 x5482)), (13, (.int .i64 t.1.2))]) (fun n t w1 => St NoS w w1 [rowR encInt A_p0_Cells c_p0_Cells p0.Cells] [blk g5189 (.cells #[(.int .i64 p0.Width), (.int .i64 p0.Height), (.slice A_p0_Cells p0.Cells.length c_p0_Cells)] 35 (0, 0)), blk g5193 (.cells #[(.int .i64 0), (.int .i64 0), (.slice none 0 0)] 35 (0, 0)), blk g5197 (.cells #[(.int .i64 p3), (.int .i64 p4), (.slice t.2.1 t.1.1.length t.2.2)] 35 (0, 0)), rowO 3 encInt t.2.1 t.2.2 t.1.1] ∧ ref01_Cut.l1 n t.1.1 t.1.2 p0 p1 p2 p3 x5482 = some x5578) k5488 ((l5481, 0), A5479, c5480) [1, 2, 3, 4, 5, 10, 11, 12, 13] rfl ⟨(hS5490.subR [0]).sub [0, 1, 2, 3] (by decide), hx5579⟩ ?_
          rintro k5580 ⟨⟨l5573, x5574⟩, A5571, c5572⟩ w5581 ⟨hS5582, hl5583⟩
          cases k5580 with
          | zero => rw [ref01_Cut.l1] at hl5583; cases hl5583
          | succ k5580 =>
            rw [ref01_Cut.l1] at hl5583
            refine WC.seq ?_
            refine WC.seq ?_
            refine WC.region ?_
            refine seg 3 [] [1, 2, 3, 4, 5, 10, 11, 12, 13, 24] [(1, (.int .i64 p1)), (2, (.int .i64 p2)), (3, (.int .i64 p3)), (4, (.int .i64 p4)), (5, (.pointer (some ⟨g5189, 0, none⟩))), (10, (.pointer (some ⟨g5193, 0, none⟩))), (11, (.pointer (some ⟨g5197, 0, none⟩))), (12, (.int .i64 x5482)), (13, (.int .i64 x5574)), (24, (.bool (decide (x5574 < p3))))] [] (fun fb => by kernel_rfl) rfl trivial ?_
            refine WL.done rfl ?_
            refine WX.next ?_
            rcases br_some hl5583 with ⟨h5584, hl5583⟩ | ⟨h5584, hl5583⟩
            · refine WC.condT2 (fun fb => by kernel_rfl) h5584 ?_
              refine WC.skip ?_
              refine WX.next ?_
              refine WC.seq ?_
              refine WC.block ?_
              refine WC.regionD ([(1, ⟨g5197, 2, none⟩, (.slice A5571 l5573.length c5572)), (2, ⟨g5189, 0, none⟩, (.int .i64 p0.Width)), (2, ⟨g5189, 1, none⟩, (.int .i64 p0.Height)), (2, ⟨g5189, 2, none⟩, (.slice A_p0_Cells p0.Cells.length c_p0_Cells))], [0, 1, 2, 3, 4, 5, 6, 7, 8, 12], [[], [0], [], [], [], [3, 4], [], [], [6, 7], [2, 3, 4, 5, 6, 7, 8], [2, 3, 4, 5, 6, 7, 8, 9], [0, 1, 2, 3, 4, 5, 6, 7, 8, 9, 10], [0, 1, 2, 3, 4, 5, 6, 7, 8, 9, 10, 11], [0, 1, 2, 3, 4, 5, 6, 7, 8, 9, 10, 11, 12]]) [[0, 1, 2, 3, 4, 5, 6, 7, 8, 9, 10, 11, 12, 13]] (by kernel_rfl) (by kernel_rfl) (NoPanic.block (NoPanic.seq (NoPanic.seq (NoPanic.block (NoPanic.block (NoPanic.seq (NoPanic.seq (NoPanic.block (NoPanic.seq (NoPanic.body)))))))))) ?_
              have hS5603 := hS5582.drew
              revert hS5603
              generalize World.drew w5581 = w5602
              intro hS5603
              refine ⟨⟨hS5603.cell 2 rfl 2 rfl, hS5603.cell 0 rfl 0 rfl, hS5603.cell 0 rfl 1 rfl, hS5603.cell 0 rfl 2 rfl, trivial⟩, forallC ?_ (forallN)⟩
              refine segF 9 [.v (.slice A5571 l5573.length c5572), .v (.int .i64 p0.Width), .v (.int .i64 p0.Height), .v (.slice A_p0_Cells p0.Cells.length c_p0_Cells)] [1, 2, 3, 4, 5, 10, 11, 12, 13, 28, 29, 32, 35] [(1, (.int .i64 p1)), (2, (.int .i64 p2)), (3, (.int .i64 p3)), (4, (.int .i64 p4)), (5, (.pointer (some ⟨g5189, 0, none⟩))), (10, (.pointer (some ⟨g5193, 0, none⟩))), (11, (.pointer (some ⟨g5197, 0, none⟩))), (12, (.int .i64 x5482)), (13, (.int .i64 x5574)), (28, (.slice A5571 l5573.length c5572)), (29, (.agg #[(.int .i64 p0.Width), (.int .i64 p0.Height), (.slice A_p0_Cells p0.Cells.length c_p0_Cells)])), (32, (.int .i64 (w64 (p1 + x5574)))), (35, (.int .i64 (w64 (p2 + x5482))))] [] [0, 1, 2, 3] [(1, ⟨g5197, 2, none⟩, (.slice A5571 l5573.length c5572)), (2, ⟨g5189, 0, none⟩, (.int .i64 p0.Width)), (2, ⟨g5189, 1, none⟩, (.int .i64 p0.Height)), (2, ⟨g5189, 2, none⟩, (.slice A_p0_Cells p0.Cells.length c_p0_Cells))] (fun fb => by kernel_rfl) rfl trivial rfl ?_
              obtain ⟨t5604, ht5605, hl5583⟩ := bind_some hl5583
              refine WL.call (some 36) 49 #[(.agg #[(.int .i64 p0.Width), (.int .i64 p0.Height), (.slice A_p0_Cells p0.Cells.length c_p0_Cells)]), (.int .i64 (w64 (p1 + x5574))), (.int .i64 (w64 (p2 + x5482)))] (fun fb => by kernel_rfl) (ref01_Cell_calls p0 (w64 (p1 + x5574)) (w64 (p2 + x5482)) A_p0_Cells c_p0_Cells t5604 _ (hS5603.rd 0) ht5605) (fun v w5606 hR5607 => ?_)
              obtain ⟨rfl, hk_⟩ := hR5607
              have hS5608 := hS5603.keepN hk_
              refine ⟨⟨hS5608.cell 2 rfl 2 rfl, trivial⟩, ?_⟩
              refine WL.new hS5608 37 [] (fun g => (.slice (some ⟨g, 0, none⟩) 1 1)) (.cells #[(.int .i64 t5604)] 3 (0, 0)) [] (fun fb g => by kernel_rfl) trivial (fun g5609 w5610 hS5611 => ?_)
              refine ⟨⟨hS5611.cell 3 rfl 2 rfl, trivial⟩, ?_⟩
              have hS5613 : St NoS w w5610 [rowR encInt A_p0_Cells c_p0_Cells p0.Cells] [rowO 3 encInt (some ⟨g5609, 0, none⟩) 1 [t5604], blk g5189 (.cells #[(.int .i64 p0.Width), (.int .i64 p0.Height), (.slice A_p0_Cells p0.Cells.length c_p0_Cells)] 35 (0, 0)), blk g5193 (.cells #[(.int .i64 0), (.int .i64 0), (.slice none 0 0)] 35 (0, 0)), blk g5197 (.cells #[(.int .i64 p3), (.int .i64 p4), (.slice A5571 l5573.length c5572)] 35 (0, 0)), rowO 3 encInt A5571 c5572 l5573] := hS5611.map1 0 _ (fun h => rowO.ofBlk h rfl (Nat.le_of_ble_eq_true (by kernel_rfl))) (fun _ h => by obtain ⟨_, h1, h2⟩ := h; injection h1 with h1; subst h1; exact h2) [1, 2, 3, 4] (by decide) (by decide)
              obtain ⟨h5614, hl5583⟩ := as_some hl5583
              refine WL.append hS5613 4 (d := 38) (tS := 33) (z := (.int .i64 0)) (bytes := 8) (c2 := 1) rfl (fun fb => by kernel_rfl) (rowO.rd (hS5613.own 0).1) (by kernel_rfl) (by kernel_rfl) rfl (by decide) h5614 (by decide) [0, 1, 2, 3] (by decide) (by decide) (fun A5615 c5616 w5617 hS5618 => ?_)
              refine ⟨trivial, ?_⟩
              refine seg 13 [] [1, 2, 3, 4, 5, 10, 11, 12, 13, 38, 39] [(1, (.int .i64 p1)), (2, (.int .i64 p2)), (3, (.int .i64 p3)), (4, (.int .i64 p4)), (5, (.pointer (some ⟨g5189, 0, none⟩))), (10, (.pointer (some ⟨g5193, 0, none⟩))), (11, (.pointer (some ⟨g5197, 0, none⟩))), (12, (.int .i64 x5482)), (13, (.int .i64 x5574)), (38, (.slice A5615 (l5573 ++ [t5604]).length c5616)), (39, (.pointer (some ⟨g5197, 2, none⟩)))] [] (fun fb => by kernel_rfl) rfl trivial ?_
              refine WL.store hS5618 4 rfl [(2, (.slice A5615 (l5573 ++ [t5604]).length c5616))] #[(.int .i64 p3), (.int .i64 p4), (.slice A5615 (l5573 ++ [t5604]).length c5616)] (fun fb => by kernel_rfl) (by kernel_rfl) rfl [0, 1, 2, 3] (by decide) (by decide) (fun w5619 hS5620 => ?_)
              refine ⟨trivial, ?_⟩
              refine WL.done rfl ?_
              refine WX.blockN (WX.next ?_)
              refine WC.region ?_
              refine seg 3 [] [1, 2, 3, 4, 5, 10, 11, 12, 13] [(1, (.int .i64 p1)), (2, (.int .i64 p2)), (3, (.int .i64 p3)), (4, (.int .i64 p4)), (5, (.pointer (some ⟨g5189, 0, none⟩))), (10, (.pointer (some ⟨g5193, 0, none⟩))), (11, (.pointer (some ⟨g5197, 0, none⟩))), (12, (.int .i64 x5482)), (13, (.int .i64 (w64 (x5574 + 1))))] [] (fun fb => by kernel_rfl) rfl trivial ?_
              refine WL.done rfl ?_
              exact WX.again k5580 (Nat.lt_succ_self _) ((l5573 ++ [t5604], w64 (x5574 + 1)), A5615, c5616) [1, 2, 3, 4, 5, 10, 11, 12, 13] rfl ⟨(hS5620.subR [0]).sub [3, 4, 0, 1] (by decide), hl5583⟩
            refine WC.condF2 (fun fb => by kernel_rfl) h5584 ?_
            refine WC.exit ?_
            injection hl5583 with hl5583
            exact WX.thenX (WX.thenX (WX.blockHere (WX.to Kx5578 (l5573, A5571, c5572) [1, 2, 3, 4, 5, 10, 11, 12] rfl ⟨(hS5582.subR [0]).sub [0, 1, 2, 3] (by decide), hl5583.symm⟩)))
        rintro ⟨y5624, A5575, c5576⟩ w5621 ⟨hS5622, hq5623⟩
        subst hq5623
        refine WX.blockN (WX.next ?_)
        refine WC.region ?_
        refine seg 3 [] [1, 2, 3, 4, 5, 10, 11, 12] [(1, (.int .i64 p1)), (2, (.int .i64 p2)), (3, (.int .i64 p3)), (4, (.int .i64 p4)), (5, (.pointer (some ⟨g5189, 0, none⟩))), (10, (.pointer (some ⟨g5193, 0, none⟩))), (11, (.pointer (some ⟨g5197, 0, none⟩))), (12, (.int .i64 (w64 (x5482 + 1))))] [] (fun fb => by kernel_rfl) rfl trivial ?_
        refine WL.done rfl ?_
        exact WX.again k5488 (Nat.lt_succ_self _) ((x5578, w64 (x5482 + 1)), A5575, c5576) [1, 2, 3, 4, 5, 10, 11, 12] rfl ⟨(hS5622.subR [0]).sub [0, 1, 2, 3] (by decide), hl5491⟩
      refine WC.condF2 (fun fb => by kernel_rfl) h5492 ?_
      refine WC.exit ?_
      injection hl5491 with hl5491
      exact WX.thenX (WX.thenX (WX.blockHere (WX.to Kx5486 (l5481, A5479, c5480) [10, 11] rfl ⟨(hS5490.subR [0]).sub [1, 2, 3] (by decide), hl5491.symm⟩)))
  rintro ⟨y5628, A5483, c5484⟩ w5625 ⟨hS5626, hq5627⟩
  subst hq5627
  refine WX.next ?_
  refine WC.seq ?_
  refine WC.region ?_
  refine seg 1 [.v (.int .i64 p3), .v (.int .i64 p4), .v (.slice A5483 x5486.length c5484)] [10, 40] [(10, (.pointer (some ⟨g5193, 0, none⟩))), (40, (.agg #[(.int .i64 p3), (.int .i64 p4), (.slice A5483 x5486.length c5484)]))] [.cell ⟨g5197, 0, none⟩ (.int .i64 p3), .cell ⟨g5197, 1, none⟩ (.int .i64 p4), .cell ⟨g5197, 2, none⟩ (.slice A5483 x5486.length c5484)] (fun fb => by kernel_rfl) rfl ⟨hS5626.cell 1 rfl 0 rfl, hS5626.cell 1 rfl 1 rfl, hS5626.cell 1 rfl 2 rfl, trivial⟩ ?_
  refine WL.store hS5626 0 rfl [(0, (.int .i64 p3)), (1, (.int .i64 p4)), (2, (.slice A5483 x5486.length c5484))] #[(.int .i64 p3), (.int .i64 p4), (.slice A5483 x5486.length c5484)] (fun fb => by kernel_rfl) (by kernel_rfl) rfl [1, 2] (by decide) (by decide) (fun w5629 hS5630 => ?_)
  refine ⟨trivial, ?_⟩
  refine WL.done rfl ?_
  refine WX.next ?_
  refine WC.ret ?_
  injection hf with hf
  subst hf
  exact WX.ret_ [.v (.int .i64 p3), .v (.int .i64 p4), .v (.slice A5483 x5486.length c5484)] (.agg #[(.int .i64 p3), (.int .i64 p4), (.slice A5483 x5486.length c5484)]) [.cell ⟨g5193, 0, none⟩ (.int .i64 p3), .cell ⟨g5193, 1, none⟩ (.int .i64 p4), .cell ⟨g5193, 2, none⟩ (.slice A5483 x5486.length c5484)] (fun fb => by kernel_rfl) ⟨hS5630.cell 0 rfl 0 rfl, hS5630.cell 0 rfl 1 rfl, hS5630.cell 0 rfl 2 rfl, trivial⟩ ⟨_, rfl, A5483, c5484, rfl, (hS5630.sub [2] (by decide)).noR⟩
end Gp
