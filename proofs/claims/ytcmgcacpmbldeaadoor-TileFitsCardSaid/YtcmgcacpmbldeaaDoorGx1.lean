/- Walks: each function of the program computes its plain function. -/
import Derived.Test.YtcmgcacpmbldeaaDoorGx0
set_option linter.unusedVariables false
set_option linter.unusedSimpArgs false
namespace Gp
open Go Gw Go.Proofs
theorem ref01_Of_calls (k : Nat) (p0 : List Tile) (p1 : Pattern) (A_p0 : Option Addr) (c_p0 : Nat) (A_p1_Cells : Option Addr) (c_p1_Cells : Nat) (r : Bool) (w : World) (hR0 : RO NoS w (rowR enc_Tile A_p0 c_p0 p0)) (hR1 : RO NoS w (rowR encInt A_p1_Cells c_p1_Cells p1.Cells)) (hf : ref01_Of k p0 p1 = some r) :
    CallsR Tryd.prog 46 #[(.slice A_p0 p0.length c_p0), (.agg #[(.int .i64 p1.Width), (.int .i64 p1.Height), (.slice A_p1_Cells p1.Cells.length c_p1_Cells)])] w (fun v w' => v = (.bool r) ∧ Keeps NoS w w') := by
  have hS : St NoS w w [rowR enc_Tile A_p0 c_p0 p0, rowR encInt A_p1_Cells c_p1_Cells p1.Cells] [] := St.init (ro_cons hR0 (ro_cons hR1 (ro_nil _ _)))
  refine enter 94 Tryd.func46 rfl Tryd.ntmps46 rfl ?_
  unfold ref01_Of at hf
  refine WC.seq ?_
  refine WC.region ?_
  refine WL.new hS 3 [] (fun g => (.pointer (some ⟨g, 0, none⟩))) (.cells #[(.int .i64 p1.Width), (.int .i64 p1.Height), (.slice A_p1_Cells p1.Cells.length c_p1_Cells)] 35 (0, 0)) [] (fun fb g => by kernel_rfl) trivial (fun g2395 w2396 hS2397 => ?_)
  refine ⟨trivial, ?_⟩
  refine seg 2 [] [0, 3] [(0, (.slice A_p0 p0.length c_p0)), (3, (.pointer (some ⟨g2395, 0, none⟩)))] [] (fun fb => by kernel_rfl) rfl trivial ?_
  refine WL.done rfl ?_
  refine WX.next ?_
  refine WC.seq ?_
  refine WC.seq ?_
  refine WC.region ?_
  refine seg 1 [.v (.int .i64 p1.Width), .v (.int .i64 p1.Height), .v (.slice A_p1_Cells p1.Cells.length c_p1_Cells)] [0, 3, 9] [(0, (.slice A_p0 p0.length c_p0)), (3, (.pointer (some ⟨g2395, 0, none⟩))), (9, (.agg #[(.int .i64 p1.Width), (.int .i64 p1.Height), (.slice A_p1_Cells p1.Cells.length c_p1_Cells)]))] [.cell ⟨g2395, 0, none⟩ (.int .i64 p1.Width), .cell ⟨g2395, 1, none⟩ (.int .i64 p1.Height), .cell ⟨g2395, 2, none⟩ (.slice A_p1_Cells p1.Cells.length c_p1_Cells)] (fun fb => by kernel_rfl) rfl ⟨hS2397.cell 0 rfl 0 rfl, hS2397.cell 0 rfl 1 rfl, hS2397.cell 0 rfl 2 rfl, trivial⟩ ?_
  obtain ⟨t2413, ht2414, hf⟩ := bind_some hf
  refine WL.call (some 10) 33 #[(.agg #[(.int .i64 p1.Width), (.int .i64 p1.Height), (.slice A_p1_Cells p1.Cells.length c_p1_Cells)])] (fun fb => by kernel_rfl) (ref01_Form_calls p1 A_p1_Cells c_p1_Cells t2413 _ (hS2397.rd 1) ht2414) (fun v w2415 hR2416 => ?_)
  obtain ⟨rfl, hk_⟩ := hR2416
  have hS2417 := hS2397.keepN hk_
  refine ⟨trivial, ?_⟩
  refine seg 3 [] [0, 3, 11] [(0, (.slice A_p0 p0.length c_p0)), (3, (.pointer (some ⟨g2395, 0, none⟩))), (11, (.bool (!t2413)))] [] (fun fb => by kernel_rfl) rfl trivial ?_
  refine WL.done rfl ?_
  refine WX.next ?_
  rcases br_some hf with ⟨h2418, hf⟩ | ⟨h2418, hf⟩
  · refine WC.condT2 (fun fb => by kernel_rfl) h2418 ?_
    refine WC.seq ?_
    refine WC.region ?_
    refine seg 1 [] [4] [(4, (.bool false))] [] (fun fb => by kernel_rfl) rfl trivial ?_
    refine WL.done rfl ?_
    refine WX.next ?_
    refine WC.ret ?_
    injection hf with hf
    subst hf
    exact WX.thenR (WX.ret_ [] (.bool false) [] (fun fb => by kernel_rfl) trivial ⟨_, rfl, rfl, hS2417.keep⟩)
  refine WC.condF2 (fun fb => by kernel_rfl) h2418 ?_
  refine WC.skip ?_
  refine WX.next ?_
  refine WC.seq ?_
  refine WC.seq ?_
  refine WC.region ?_
  refine seg 1 [] [0, 3, 5] [(0, (.slice A_p0 p0.length c_p0)), (3, (.pointer (some ⟨g2395, 0, none⟩))), (5, (.int .i64 0))] [] (fun fb => by kernel_rfl) rfl trivial ?_
  refine WL.done rfl ?_
  refine WX.next ?_
  obtain ⟨x2431, hx2432, hf⟩ := bind_some hf
  refine WC.cutN (T := Unit) (fun t => [(0, (.slice A_p0 p0.length c_p0)), (3, (.pointer (some ⟨g2395, 0, none⟩)))]) (fun t w1 => St NoS w w1 [rowR enc_Tile A_p0 c_p0 p0, rowR encInt A_p1_Cells c_p1_Cells p1.Cells] [blk g2395 (.cells #[(.int .i64 p1.Width), (.int .i64 p1.Height), (.slice A_p1_Cells p1.Cells.length c_p1_Cells)] 35 (0, 0))] ∧ x2431 = .inr t) (fun Kx2431 => ?_) ?_
  ·
    refine WC.block ?_
    refine WC.loop (T := Int) (fun t => [(0, (.slice A_p0 p0.length c_p0)), (3, (.pointer (some ⟨g2395, 0, none⟩))), (5, (.int .i64 t))]) (fun n t w1 => St NoS w w1 [rowR enc_Tile A_p0 c_p0 p0, rowR encInt A_p1_Cells c_p1_Cells p1.Cells] [blk g2395 (.cells #[(.int .i64 p1.Width), (.int .i64 p1.Height), (.slice A_p1_Cells p1.Cells.length c_p1_Cells)] 35 (0, 0))] ∧ ref01_Of.l0 n t p0 p1 = some x2431) k 0 [0, 3, 5] rfl ⟨(hS2417.subR [0, 1]).sub [0] (by decide), hx2432⟩ ?_
    rintro k2433 x2430 w2434 ⟨hS2435, hl2436⟩
    cases k2433 with
    | zero => rw [ref01_Of.l0] at hl2436; cases hl2436
    | succ k2433 =>
      rw [ref01_Of.l0] at hl2436
      refine WC.seq ?_
      refine WC.seq ?_
      refine WC.region ?_
      refine seg 5 [.v (.slice A_p1_Cells p1.Cells.length c_p1_Cells)] [0, 3, 5, 16] [(0, (.slice A_p0 p0.length c_p0)), (3, (.pointer (some ⟨g2395, 0, none⟩))), (5, (.int .i64 x2430)), (16, (.bool (decide (x2430 < (p1.Cells.length : Int)))))] [.cell ⟨g2395, 2, none⟩ (.slice A_p1_Cells p1.Cells.length c_p1_Cells)] (fun fb => by kernel_rfl) rfl ⟨hS2435.cell 0 rfl 2 rfl, trivial⟩ ?_
      refine WL.done rfl ?_
      refine WX.next ?_
      rcases br_some hl2436 with ⟨h2437, hl2436⟩ | ⟨h2437, hl2436⟩
      · refine WC.condT2 (fun fb => by kernel_rfl) h2437 ?_
        refine WC.skip ?_
        refine WX.next ?_
        refine WC.seq ?_
        refine WC.block ?_
        refine WC.seq ?_
        refine WC.region ?_
        refine seg 3 [.v (.slice A_p1_Cells p1.Cells.length c_p1_Cells)] [0, 3, 5, 20, 21] [(0, (.slice A_p0 p0.length c_p0)), (3, (.pointer (some ⟨g2395, 0, none⟩))), (5, (.int .i64 x2430)), (20, (.slice A_p1_Cells p1.Cells.length c_p1_Cells)), (21, (.int .i64 x2430))] [.cell ⟨g2395, 2, none⟩ (.slice A_p1_Cells p1.Cells.length c_p1_Cells)] (fun fb => by kernel_rfl) rfl ⟨hS2435.cell 0 rfl 2 rfl, trivial⟩ ?_
        obtain ⟨h2438, hl2436⟩ := as_some hl2436
        refine seg 7 [.v (.int .i64 (rdD p1.Cells x2430 0))] [0, 3, 5, 25] [(0, (.slice A_p0 p0.length c_p0)), (3, (.pointer (some ⟨g2395, 0, none⟩))), (5, (.int .i64 x2430)), (25, (.bool (decide ((rdD p1.Cells x2430 0) < 0))))] [.idx A_p1_Cells x2430 p1.Cells.length, .cell ((adr A_p1_Cells).add ((x2430).toNat * 1)) (.int .i64 (rdD p1.Cells x2430 0))] (fun fb => by kernel_rfl) rfl ⟨rowR.adr (hS2435.rd 1).1 h2438.1 h2438.2, rowR.cell (hS2435.rd 1).1 0 h2438.1 h2438.2 0 rfl, trivial⟩ ?_
        refine WL.cutV (T := Bool) 16 (fun t => [(34, (.bool t)), (0, (.slice A_p0 p0.length c_p0)), (3, (.pointer (some ⟨g2395, 0, none⟩))), (5, (.int .i64 x2430))]) (fun t => t = ((decide ((rdD p1.Cells x2430 0) < 0)) || (decide ((rdD p1.Cells x2430 0) ≥ (p0.length : Int))))) (fun K => ?_) ?_
        ·
          rcases Bool.eq_false_or_eq_true (decide ((rdD p1.Cells x2430 0) < 0)) with h2439 | h2439
          ·
            refine WL.setB 25 h2439 rfl ?_
            refine seg 16 [] [0, 3, 5, 34] [(0, (.slice A_p0 p0.length c_p0)), (3, (.pointer (some ⟨g2395, 0, none⟩))), (5, (.int .i64 x2430)), (34, (.bool true))] [] (fun fb => by kernel_rfl) rfl trivial ?_
            exact WL.toV K true [34, 0, 3, 5] rfl (by first | (rw [h2439]; done) | (rw [h2439]; rfl))
          refine WL.setB 25 h2439 rfl ?_
          refine seg 16 [.v (.slice A_p1_Cells p1.Cells.length c_p1_Cells), .v (.int .i64 (rdD p1.Cells x2430 0))] [0, 3, 5, 34] [(0, (.slice A_p0 p0.length c_p0)), (3, (.pointer (some ⟨g2395, 0, none⟩))), (5, (.int .i64 x2430)), (34, (.bool (decide ((rdD p1.Cells x2430 0) ≥ (p0.length : Int)))))] [.cell ⟨g2395, 2, none⟩ (.slice A_p1_Cells p1.Cells.length c_p1_Cells), .idx A_p1_Cells x2430 p1.Cells.length, .cell ((adr A_p1_Cells).add ((x2430).toNat * 1)) (.int .i64 (rdD p1.Cells x2430 0))] (fun fb => by kernel_rfl) rfl ⟨hS2435.cell 0 rfl 2 rfl, rowR.adr (hS2435.rd 1).1 h2438.1 h2438.2, rowR.cell (hS2435.rd 1).1 0 h2438.1 h2438.2 0 rfl, trivial⟩ ?_
          exact WL.toV K (decide ((rdD p1.Cells x2430 0) ≥ (p0.length : Int))) [34, 0, 3, 5] rfl (by first | (rw [h2439]; done) | (rw [h2439]; rfl))
        rintro b2440 rfl
        refine WL.done rfl ?_
        refine WX.next ?_
        rcases br_some hl2436 with ⟨h2441, hl2436⟩ | ⟨h2441, hl2436⟩
        · refine WC.condT2 (fun fb => by kernel_rfl) h2441 ?_
          refine WC.seq ?_
          refine WC.region ?_
          refine seg 1 [] [4] [(4, (.bool false))] [] (fun fb => by kernel_rfl) rfl trivial ?_
          refine WL.done rfl ?_
          refine WX.next ?_
          refine WC.ret ?_
          injection hl2436 with hl2436
          subst hl2436
          injection hf with hf
          subst hf
          exact WX.blockR (WX.thenR (WX.thenR (WX.blockR (WX.thenR (WX.ret_ [] (.bool false) [] (fun fb => by kernel_rfl) trivial ⟨_, rfl, rfl, hS2435.keep⟩)))))
        refine WC.condF2 (fun fb => by kernel_rfl) h2441 ?_
        refine WC.skip ?_
        refine WX.blockN (WX.next ?_)
        refine WC.region ?_
        refine seg 3 [] [0, 3, 5] [(0, (.slice A_p0 p0.length c_p0)), (3, (.pointer (some ⟨g2395, 0, none⟩))), (5, (.int .i64 (w64 (x2430 + 1))))] [] (fun fb => by kernel_rfl) rfl trivial ?_
        refine WL.done rfl ?_
        exact WX.again k2433 (Nat.lt_succ_self _) (w64 (x2430 + 1)) [0, 3, 5] rfl ⟨(hS2435.subR [0, 1]).sub [0] (by decide), hl2436⟩
      refine WC.condF2 (fun fb => by kernel_rfl) h2437 ?_
      refine WC.exit ?_
      injection hl2436 with hl2436
      exact WX.thenX (WX.thenX (WX.blockHere (WX.to Kx2431 () [0, 3] rfl ⟨(hS2435.subR [0, 1]).sub [0] (by decide), hl2436.symm⟩)))
  rintro y2445 w2442 ⟨hS2443, hq2444⟩
  subst hq2444
  have hf := sum_inr hf
  refine WX.next ?_
  refine WC.seq ?_
  refine WC.seq ?_
  refine WC.region ?_
  refine seg 1 [] [0, 3, 6] [(0, (.slice A_p0 p0.length c_p0)), (3, (.pointer (some ⟨g2395, 0, none⟩))), (6, (.int .i64 0))] [] (fun fb => by kernel_rfl) rfl trivial ?_
  refine WL.done rfl ?_
  refine WX.next ?_
  obtain ⟨x3796, hx3797, hf⟩ := bind_some hf
  refine WC.cutN (T := Unit) (fun t => []) (fun t w1 => St NoS w w1 [rowR enc_Tile A_p0 c_p0 p0, rowR encInt A_p1_Cells c_p1_Cells p1.Cells] [] ∧ x3796 = .inr t) (fun Kx3796 => ?_) ?_
  ·
    refine WC.block ?_
    refine WC.loop (T := Int) (fun t => [(0, (.slice A_p0 p0.length c_p0)), (3, (.pointer (some ⟨g2395, 0, none⟩))), (6, (.int .i64 t))]) (fun n t w1 => St NoS w w1 [rowR enc_Tile A_p0 c_p0 p0, rowR encInt A_p1_Cells c_p1_Cells p1.Cells] [blk g2395 (.cells #[(.int .i64 p1.Width), (.int .i64 p1.Height), (.slice A_p1_Cells p1.Cells.length c_p1_Cells)] 35 (0, 0))] ∧ ref01_Of.l1 n t p0 p1 = some x3796) k 0 [0, 3, 6] rfl ⟨(hS2443.subR [0, 1]).sub [0] (by decide), hx3797⟩ ?_
    rintro k3798 x3795 w3799 ⟨hS3800, hl3801⟩
    cases k3798 with
    | zero => rw [ref01_Of.l1] at hl3801; cases hl3801
    | succ k3798 =>
      rw [ref01_Of.l1] at hl3801
      refine WC.seq ?_
      refine WC.seq ?_
      refine WC.region ?_
      refine seg 4 [.v (.int .i64 p1.Height)] [0, 3, 6, 38] [(0, (.slice A_p0 p0.length c_p0)), (3, (.pointer (some ⟨g2395, 0, none⟩))), (6, (.int .i64 x3795)), (38, (.bool (decide (x3795 < p1.Height))))] [.cell ⟨g2395, 1, none⟩ (.int .i64 p1.Height)] (fun fb => by kernel_rfl) rfl ⟨hS3800.cell 0 rfl 1 rfl, trivial⟩ ?_
      refine WL.done rfl ?_
      refine WX.next ?_
      rcases br_some hl3801 with ⟨h3802, hl3801⟩ | ⟨h3802, hl3801⟩
      · refine WC.condT2 (fun fb => by kernel_rfl) h3802 ?_
        refine WC.skip ?_
        refine WX.next ?_
        refine WC.seq ?_
        refine WC.block ?_
        refine WC.seq ?_
        refine WC.region ?_
        refine seg 1 [] [0, 3, 6, 7] [(0, (.slice A_p0 p0.length c_p0)), (3, (.pointer (some ⟨g2395, 0, none⟩))), (6, (.int .i64 x3795)), (7, (.int .i64 0))] [] (fun fb => by kernel_rfl) rfl trivial ?_
        refine WL.done rfl ?_
        refine WX.next ?_
        obtain ⟨x4243, hx4244, hl3801⟩ := bind_some hl3801
        refine WC.cutN (T := Unit) (fun t => [(0, (.slice A_p0 p0.length c_p0)), (3, (.pointer (some ⟨g2395, 0, none⟩))), (6, (.int .i64 x3795))]) (fun t w1 => St NoS w w1 [rowR enc_Tile A_p0 c_p0 p0, rowR encInt A_p1_Cells c_p1_Cells p1.Cells] [blk g2395 (.cells #[(.int .i64 p1.Width), (.int .i64 p1.Height), (.slice A_p1_Cells p1.Cells.length c_p1_Cells)] 35 (0, 0))] ∧ x4243 = .inr t) (fun Kx4243 => ?_) ?_
        ·
          refine WC.block ?_
          refine WC.loop (T := Int) (fun t => [(0, (.slice A_p0 p0.length c_p0)), (3, (.pointer (some ⟨g2395, 0, none⟩))), (6, (.int .i64 x3795)), (7, (.int .i64 t))]) (fun n t w1 => St NoS w w1 [rowR enc_Tile A_p0 c_p0 p0, rowR encInt A_p1_Cells c_p1_Cells p1.Cells] [blk g2395 (.cells #[(.int .i64 p1.Width), (.int .i64 p1.Height), (.slice A_p1_Cells p1.Cells.length c_p1_Cells)] 35 (0, 0))] ∧ ref01_Of.l2 n t p0 p1 x3795 = some x4243) k3798 0 [0, 3, 6, 7] rfl ⟨(hS3800.subR [0, 1]).sub [0] (by decide), hx4244⟩ ?_
          rintro k4245 x4242 w4246 ⟨hS4247, hl4248⟩
          cases k4245 with
          | zero => rw [ref01_Of.l2] at hl4248; cases hl4248
          | succ k4245 =>
            rw [ref01_Of.l2] at hl4248
            refine WC.seq ?_
            refine WC.seq ?_
            refine WC.region ?_
            refine seg 4 [.v (.int .i64 p1.Width)] [0, 3, 6, 7, 44] [(0, (.slice A_p0 p0.length c_p0)), (3, (.pointer (some ⟨g2395, 0, none⟩))), (6, (.int .i64 x3795)), (7, (.int .i64 x4242)), (44, (.bool (decide (x4242 < p1.Width))))] [.cell ⟨g2395, 0, none⟩ (.int .i64 p1.Width)] (fun fb => by kernel_rfl) rfl ⟨hS4247.cell 0 rfl 0 rfl, trivial⟩ ?_
            refine WL.done rfl ?_
            refine WX.next ?_
            rcases br_some hl4248 with ⟨h4249, hl4248⟩ | ⟨h4249, hl4248⟩
            · refine WC.condT2 (fun fb => by kernel_rfl) h4249 ?_
              refine WC.skip ?_
              refine WX.next ?_
              refine WC.seq ?_
              refine WC.block ?_
              refine WC.seq ?_
              refine WC.region ?_
              refine seg 4 [.v (.int .i64 p1.Width), .v (.int .i64 p1.Height), .v (.slice A_p1_Cells p1.Cells.length c_p1_Cells)] [0, 3, 6, 7, 47, 48, 49, 50] [(0, (.slice A_p0 p0.length c_p0)), (3, (.pointer (some ⟨g2395, 0, none⟩))), (6, (.int .i64 x3795)), (7, (.int .i64 x4242)), (47, (.slice A_p0 p0.length c_p0)), (48, (.agg #[(.int .i64 p1.Width), (.int .i64 p1.Height), (.slice A_p1_Cells p1.Cells.length c_p1_Cells)])), (49, (.int .i64 x4242)), (50, (.int .i64 x3795))] [.cell ⟨g2395, 0, none⟩ (.int .i64 p1.Width), .cell ⟨g2395, 1, none⟩ (.int .i64 p1.Height), .cell ⟨g2395, 2, none⟩ (.slice A_p1_Cells p1.Cells.length c_p1_Cells)] (fun fb => by kernel_rfl) rfl ⟨hS4247.cell 0 rfl 0 rfl, hS4247.cell 0 rfl 1 rfl, hS4247.cell 0 rfl 2 rfl, trivial⟩ ?_
              obtain ⟨t4250, ht4251, hl4248⟩ := bind_some hl4248
              refine WL.call (some 51) 49 #[(.agg #[(.int .i64 p1.Width), (.int .i64 p1.Height), (.slice A_p1_Cells p1.Cells.length c_p1_Cells)]), (.int .i64 x4242), (.int .i64 x3795)] (fun fb => by kernel_rfl) (ref01_Cell_calls p1 x4242 x3795 A_p1_Cells c_p1_Cells t4250 _ (hS4247.rd 1) ht4251) (fun v w4252 hR4253 => ?_)
              obtain ⟨rfl, hk_⟩ := hR4253
              have hS4254 := hS4247.keepN hk_
              refine ⟨trivial, ?_⟩
              obtain ⟨h4255, hl4248⟩ := as_some hl4248
              refine seg 7 [.v (.int .i64 ((rdD p0 t4250 z_Tile).N)), .v (.int .i64 ((rdD p0 t4250 z_Tile).E)), .v (.int .i64 ((rdD p0 t4250 z_Tile).S)), .v (.int .i64 ((rdD p0 t4250 z_Tile).W))] [0, 3, 6, 7, 53] [(0, (.slice A_p0 p0.length c_p0)), (3, (.pointer (some ⟨g2395, 0, none⟩))), (6, (.int .i64 x3795)), (7, (.int .i64 x4242)), (53, (.agg #[(.int .i64 ((rdD p0 t4250 z_Tile).N)), (.int .i64 ((rdD p0 t4250 z_Tile).E)), (.int .i64 ((rdD p0 t4250 z_Tile).S)), (.int .i64 ((rdD p0 t4250 z_Tile).W))]))] [.idx A_p0 t4250 p0.length, .cell ((adr A_p0).add ((t4250).toNat * 4)) (.int .i64 ((rdD p0 t4250 z_Tile).N)), .cell (((adr A_p0).add ((t4250).toNat * 4)).add 1) (.int .i64 ((rdD p0 t4250 z_Tile).E)), .cell (((adr A_p0).add ((t4250).toNat * 4)).add 2) (.int .i64 ((rdD p0 t4250 z_Tile).S)), .cell (((adr A_p0).add ((t4250).toNat * 4)).add 3) (.int .i64 ((rdD p0 t4250 z_Tile).W))] (fun fb => by kernel_rfl) rfl ⟨rowR.adr (hS4254.rd 0).1 h4255.1 h4255.2, rowR.cell (hS4254.rd 0).1 z_Tile h4255.1 h4255.2 0 rfl, rowR.cell (hS4254.rd 0).1 z_Tile h4255.1 h4255.2 1 rfl, rowR.cell (hS4254.rd 0).1 z_Tile h4255.1 h4255.2 2 rfl, rowR.cell (hS4254.rd 0).1 z_Tile h4255.1 h4255.2 3 rfl, trivial⟩ ?_
              refine WL.new hS4254 8 [] (fun g => (.pointer (some ⟨g, 0, none⟩))) (.cells #[(.int .i64 0), (.int .i64 0), (.int .i64 0), (.int .i64 0)] 62 (0, 0)) [] (fun fb g => by kernel_rfl) trivial (fun g4256 w4257 hS4258 => ?_)
              refine ⟨trivial, ?_⟩
              refine WL.store hS4258 0 rfl [(0, (.int .i64 ((rdD p0 t4250 z_Tile).N))), (1, (.int .i64 ((rdD p0 t4250 z_Tile).E))), (2, (.int .i64 ((rdD p0 t4250 z_Tile).S))), (3, (.int .i64 ((rdD p0 t4250 z_Tile).W)))] #[(.int .i64 ((rdD p0 t4250 z_Tile).N)), (.int .i64 ((rdD p0 t4250 z_Tile).E)), (.int .i64 ((rdD p0 t4250 z_Tile).S)), (.int .i64 ((rdD p0 t4250 z_Tile).W))] (fun fb => by kernel_rfl) (by kernel_rfl) rfl [1] (by decide) (by decide) (fun w4260 hS4261 => ?_)
              refine ⟨trivial, ?_⟩
              refine WL.done rfl ?_
              refine WX.next ?_
              refine WC.seq ?_
              obtain ⟨x4362, hx4363, hl4248⟩ := bind_some hl4248
              refine WC.cutN (T := Bool) (fun t => [(0, (.slice A_p0 p0.length c_p0)), (3, (.pointer (some ⟨g2395, 0, none⟩))), (6, (.int .i64 x3795)), (7, (.int .i64 x4242)), (93, (.bool t))]) (fun t w1 => St NoS w w1 [rowR enc_Tile A_p0 c_p0 p0, rowR encInt A_p1_Cells c_p1_Cells p1.Cells] [blk g2395 (.cells #[(.int .i64 p1.Width), (.int .i64 p1.Height), (.slice A_p1_Cells p1.Cells.length c_p1_Cells)] 35 (0, 0))] ∧ x4362 = t) (fun Kx4362 => ?_) ?_
              ·
                rcases br_some hx4363 with ⟨h4364, hx4363⟩ | ⟨h4364, hx4363⟩
                ·
                  rcases br_some hx4363 with ⟨h4371, hx4363⟩ | ⟨h4371, hx4363⟩
                  ·
                    refine WC.regionD ([(3, ⟨g2395, 0, none⟩, (.int .i64 p1.Width)), (7, ⟨g4256, 1, none⟩, (.int .i64 ((rdD p0 t4250 z_Tile).E))), (9, ⟨g2395, 0, none⟩, (.int .i64 p1.Width)), (9, ⟨g2395, 1, none⟩, (.int .i64 p1.Height)), (9, ⟨g2395, 2, none⟩, (.slice A_p1_Cells p1.Cells.length c_p1_Cells)), (23, ⟨g2395, 1, none⟩, (.int .i64 p1.Height)), (27, ⟨g4256, 0, none⟩, (.int .i64 ((rdD p0 t4250 z_Tile).N))), (29, ⟨g2395, 0, none⟩, (.int .i64 p1.Width)), (29, ⟨g2395, 1, none⟩, (.int .i64 p1.Height)), (29, ⟨g2395, 2, none⟩, (.slice A_p1_Cells p1.Cells.length c_p1_Cells))], [0, 1, 2, 3, 4, 5, 6, 7, 8, 9, 10, 11, 12, 14, 15, 17, 18, 19, 20, 21, 22, 23, 24, 25, 26, 27, 28, 29, 30, 31, 32, 34, 35, 37, 38, 39], [[], [0], [], [2], [0, 1, 2, 3], [0, 1, 2, 3, 4], [0, 1, 2, 3, 4, 5], [0, 1, 2, 3, 4, 5, 6], [0, 1, 2, 3, 4, 5], [0, 1, 2, 3, 4, 5], [0, 1, 2, 3, 4, 5], [0, 1, 2, 3, 4, 5, 10], [0, 1, 2, 3, 4, 5], [0, 1, 2, 3, 4, 5, 9, 10, 11, 12], [0, 1, 2, 3, 4, 5, 8, 9, 10, 11, 12, 13], [0, 1, 2, 3, 4, 5, 8, 9, 10, 11, 12, 13, 14], [0, 1, 2, 3, 4, 5, 8, 9, 10, 11, 12, 13, 14, 15], [0, 1, 2, 3, 4, 5, 6, 7, 8, 9, 10, 11, 12, 13, 14, 15, 16], [0, 1, 2, 3, 4, 5, 6, 7, 8, 9, 10, 11, 12, 13, 14, 15, 16, 17], [0, 1, 2, 3, 4, 5, 6, 7, 8, 9, 10, 11, 12, 13, 14, 15, 16, 17, 18], [0, 1, 2, 3, 4, 5, 6, 7, 8, 9, 10, 11, 12, 13, 14, 15, 16, 17, 18, 19], [0, 1, 2, 3, 4, 5, 6, 7, 8, 9, 10, 11, 12, 13, 14, 15, 16, 17, 18, 19, 20], [0, 1, 2, 3, 4, 5, 6, 7, 8, 9, 10, 11, 12, 13, 14, 15, 16, 17, 18, 19], [0, 1, 2, 3, 4, 5, 6, 7, 8, 9, 10, 11, 12, 13, 14, 15, 16, 17, 18, 19, 22], [0, 1, 2, 3, 4, 5, 6, 7, 8, 9, 10, 11, 12, 13, 14, 15, 16, 17, 18, 19, 20, 21, 22, 23], [0, 1, 2, 3, 4, 5, 6, 7, 8, 9, 10, 11, 12, 13, 14, 15, 16, 17, 18, 19, 20, 21, 22, 23, 24], [0, 1, 2, 3, 4, 5, 6, 7, 8, 9, 10, 11, 12, 13, 14, 15, 16, 17, 18, 19, 20, 21, 22, 23, 24, 25], [0, 1, 2, 3, 4, 5, 6, 7, 8, 9, 10, 11, 12, 13, 14, 15, 16, 17, 18, 19, 20, 21, 22, 23, 24, 25, 26], [0, 1, 2, 3, 4, 5, 6, 7, 8, 9, 10, 11, 12, 13, 14, 15, 16, 17, 18, 19, 20, 21, 22, 23, 24, 25], [0, 1, 2, 3, 4, 5, 6, 7, 8, 9, 10, 11, 12, 13, 14, 15, 16, 17, 18, 19, 20, 21, 22, 23, 24, 25], [0, 1, 2, 3, 4, 5, 6, 7, 8, 9, 10, 11, 12, 13, 14, 15, 16, 17, 18, 19, 20, 21, 22, 23, 24, 25], [0, 1, 2, 3, 4, 5, 6, 7, 8, 9, 10, 11, 12, 13, 14, 15, 16, 17, 18, 19, 20, 21, 22, 23, 24, 25], [0, 1, 2, 3, 4, 5, 6, 7, 8, 9, 10, 11, 12, 13, 14, 15, 16, 17, 18, 19, 20, 21, 22, 23, 24, 25, 31], [0, 1, 2, 3, 4, 5, 6, 7, 8, 9, 10, 11, 12, 13, 14, 15, 16, 17, 18, 19, 20, 21, 22, 23, 24, 25, 29, 30, 31, 32], [0, 1, 2, 3, 4, 5, 6, 7, 8, 9, 10, 11, 12, 13, 14, 15, 16, 17, 18, 19, 20, 21, 22, 23, 24, 25, 28, 29, 30, 31, 32, 33], [0, 1, 2, 3, 4, 5, 6, 7, 8, 9, 10, 11, 12, 13, 14, 15, 16, 17, 18, 19, 20, 21, 22, 23, 24, 25, 28, 29, 30, 31, 32, 33, 34], [0, 1, 2, 3, 4, 5, 6, 7, 8, 9, 10, 11, 12, 13, 14, 15, 16, 17, 18, 19, 20, 21, 22, 23, 24, 25, 28, 29, 30, 31, 32, 33, 34, 35], [0, 1, 2, 3, 4, 5, 6, 7, 8, 9, 10, 11, 12, 13, 14, 15, 16, 17, 18, 19, 20, 21, 22, 23, 24, 25, 26, 27, 28, 29, 30, 31, 32, 33, 34, 35, 36], [0, 1, 2, 3, 4, 5, 6, 7, 8, 9, 10, 11, 12, 13, 14, 15, 16, 17, 18, 19, 20, 21, 22, 23, 24, 25, 26, 27, 28, 29, 30, 31, 32, 33, 34, 35, 36, 37], [0, 1, 2, 3, 4, 5, 6, 7, 8, 9, 10, 11, 12, 13, 14, 15, 16, 17, 18, 19, 20, 21, 22, 23, 24, 25, 26, 27, 28, 29, 30, 31, 32, 33, 34, 35, 36, 37, 38]]) [[0, 1, 2, 3, 4, 5, 6, 7, 8, 9, 10, 11, 12, 13, 14, 15, 16, 17, 18, 19, 20, 21, 22, 23, 24, 25, 26, 27, 28, 29, 30, 31, 32, 33, 34, 35, 36, 37, 38, 39]] (by kernel_rfl) (by kernel_rfl) (NoPanic.seq (NoPanic.block (NoPanic.seq (NoPanic.seq (NoPanic.block (NoPanic.block (NoPanic.seq (NoPanic.seq (NoPanic.block (NoPanic.seq (NoPanic.body))))))))))) ?_
                    have hS4400 := hS4261.drew
                    revert hS4400
                    generalize World.drew w4260 = w4399
                    intro hS4400
                    refine ⟨⟨hS4400.cell 1 rfl 0 rfl, hS4400.cell 0 rfl 1 rfl, hS4400.cell 1 rfl 0 rfl, hS4400.cell 1 rfl 1 rfl, hS4400.cell 1 rfl 2 rfl, hS4400.cell 1 rfl 1 rfl, hS4400.cell 0 rfl 0 rfl, hS4400.cell 1 rfl 0 rfl, hS4400.cell 1 rfl 1 rfl, hS4400.cell 1 rfl 2 rfl, trivial⟩, forallC ?_ (forallN)⟩
                    refine segF 6 [.v (.int .i64 p1.Width)] [0, 3, 6, 7, 8, 59] [(0, (.slice A_p0 p0.length c_p0)), (3, (.pointer (some ⟨g2395, 0, none⟩))), (6, (.int .i64 x3795)), (7, (.int .i64 x4242)), (8, (.pointer (some ⟨g4256, 0, none⟩))), (59, (.bool (decide (w64 (x4242 + 1) < p1.Width))))] [] [0] [(3, ⟨g2395, 0, none⟩, (.int .i64 p1.Width))] (fun fb => by kernel_rfl) rfl trivial rfl ?_
                    refine WL.setB 59 h4364 rfl ?_
                    refine segF 13 [.v (.int .i64 ((rdD p0 t4250 z_Tile).E)), .v (.int .i64 p1.Width), .v (.int .i64 p1.Height), .v (.slice A_p1_Cells p1.Cells.length c_p1_Cells)] [0, 3, 6, 7, 8, 59, 61, 62, 63, 65, 66] [(0, (.slice A_p0 p0.length c_p0)), (3, (.pointer (some ⟨g2395, 0, none⟩))), (6, (.int .i64 x3795)), (7, (.int .i64 x4242)), (8, (.pointer (some ⟨g4256, 0, none⟩))), (59, (.bool true)), (61, (.int .i64 ((rdD p0 t4250 z_Tile).E))), (62, (.slice A_p0 p0.length c_p0)), (63, (.agg #[(.int .i64 p1.Width), (.int .i64 p1.Height), (.slice A_p1_Cells p1.Cells.length c_p1_Cells)])), (65, (.int .i64 (w64 (x4242 + 1)))), (66, (.int .i64 x3795))] [] [1, 2, 3, 4] [(7, ⟨g4256, 1, none⟩, (.int .i64 ((rdD p0 t4250 z_Tile).E))), (9, ⟨g2395, 0, none⟩, (.int .i64 p1.Width)), (9, ⟨g2395, 1, none⟩, (.int .i64 p1.Height)), (9, ⟨g2395, 2, none⟩, (.slice A_p1_Cells p1.Cells.length c_p1_Cells))] (fun fb => by kernel_rfl) rfl trivial rfl ?_
                    obtain ⟨t4401, ht4402, hx4363⟩ := bind_some hx4363
                    refine WL.call (some 67) 49 #[(.agg #[(.int .i64 p1.Width), (.int .i64 p1.Height), (.slice A_p1_Cells p1.Cells.length c_p1_Cells)]), (.int .i64 (w64 (x4242 + 1))), (.int .i64 x3795)] (fun fb => by kernel_rfl) (ref01_Cell_calls p1 (w64 (x4242 + 1)) x3795 A_p1_Cells c_p1_Cells t4401 _ (hS4400.rd 1) ht4402) (fun v w4403 hR4404 => ?_)
                    obtain ⟨rfl, hk_⟩ := hR4404
                    have hS4405 := hS4400.keepN hk_
                    refine ⟨⟨hS4405.cell 0 rfl 1 rfl, hS4405.cell 1 rfl 1 rfl, hS4405.cell 0 rfl 0 rfl, hS4405.cell 1 rfl 0 rfl, hS4405.cell 1 rfl 1 rfl, hS4405.cell 1 rfl 2 rfl, trivial⟩, ?_⟩
                    obtain ⟨h4406, hx4363⟩ := as_some hx4363
                    refine seg 20 [.v (.int .i64 ((rdD p0 t4401 z_Tile).W))] [0, 3, 6, 7, 8, 73] [(0, (.slice A_p0 p0.length c_p0)), (3, (.pointer (some ⟨g2395, 0, none⟩))), (6, (.int .i64 x3795)), (7, (.int .i64 x4242)), (8, (.pointer (some ⟨g4256, 0, none⟩))), (73, (.bool (((rdD p0 t4250 z_Tile).E) != ((rdD p0 t4401 z_Tile).W))))] [.idx A_p0 t4401 p0.length, .cell (((adr A_p0).add ((t4401).toNat * 4)).add 3) (.int .i64 ((rdD p0 t4401 z_Tile).W))] (fun fb => by kernel_rfl) rfl ⟨rowR.adr (hS4405.rd 0).1 h4406.1 h4406.2, rowR.cell (hS4405.rd 0).1 z_Tile h4406.1 h4406.2 3 rfl, trivial⟩ ?_
                    obtain ⟨x4414, hx4415, hx4363⟩ := bind_some hx4363
                    refine WL.cutW (T := Bool) 40 (fun t => [(0, (.slice A_p0 p0.length c_p0)), (3, (.pointer (some ⟨g2395, 0, none⟩))), (6, (.int .i64 x3795)), (7, (.int .i64 x4242)), (93, (.bool t))]) (fun t w1 => (St NoS w w1 [rowR enc_Tile A_p0 c_p0 p0, rowR encInt A_p1_Cells c_p1_Cells p1.Cells] [blk g2395 (.cells #[(.int .i64 p1.Width), (.int .i64 p1.Height), (.slice A_p1_Cells p1.Cells.length c_p1_Cells)] 35 (0, 0))] ∧ x4414 = t) ∧ CellsOK [] w1) (fun K => ?_) ?_
                    ·
                      rcases br_some hx4415 with ⟨h4416, hx4415⟩ | ⟨h4416, hx4415⟩
                      ·
                        refine WL.setB 73 h4416 rfl ?_
                        refine seg 40 [] [0, 3, 6, 7, 93] [(0, (.slice A_p0 p0.length c_p0)), (3, (.pointer (some ⟨g2395, 0, none⟩))), (6, (.int .i64 x3795)), (7, (.int .i64 x4242)), (93, (.bool true))] [] (fun fb => by kernel_rfl) rfl trivial ?_
                        injection hx4415 with hx4415
                        exact WL.to K true [0, 3, 6, 7, 93] rfl ⟨⟨(hS4405.subR [0, 1]).sub [1] (by decide), hx4415.symm⟩, trivial⟩
                      refine WL.setB 73 h4416 rfl ?_
                      refine segF 26 [.v (.int .i64 p1.Height)] [0, 3, 6, 7, 8, 73, 79] [(0, (.slice A_p0 p0.length c_p0)), (3, (.pointer (some ⟨g2395, 0, none⟩))), (6, (.int .i64 x3795)), (7, (.int .i64 x4242)), (8, (.pointer (some ⟨g4256, 0, none⟩))), (73, (.bool false)), (79, (.bool (decide (w64 (x3795 + 1) < p1.Height))))] [] [5] [(23, ⟨g2395, 1, none⟩, (.int .i64 p1.Height))] (fun fb => by kernel_rfl) rfl trivial rfl ?_
                      refine WL.setB 79 h4371 rfl ?_
                      refine segF 33 [.v (.int .i64 ((rdD p0 t4250 z_Tile).N)), .v (.int .i64 p1.Width), .v (.int .i64 p1.Height), .v (.slice A_p1_Cells p1.Cells.length c_p1_Cells)] [0, 3, 6, 7, 73, 79, 81, 82, 83, 84, 86] [(0, (.slice A_p0 p0.length c_p0)), (3, (.pointer (some ⟨g2395, 0, none⟩))), (6, (.int .i64 x3795)), (7, (.int .i64 x4242)), (73, (.bool false)), (79, (.bool true)), (81, (.int .i64 ((rdD p0 t4250 z_Tile).N))), (82, (.slice A_p0 p0.length c_p0)), (83, (.agg #[(.int .i64 p1.Width), (.int .i64 p1.Height), (.slice A_p1_Cells p1.Cells.length c_p1_Cells)])), (84, (.int .i64 x4242)), (86, (.int .i64 (w64 (x3795 + 1))))] [] [6, 7, 8, 9] [(27, ⟨g4256, 0, none⟩, (.int .i64 ((rdD p0 t4250 z_Tile).N))), (29, ⟨g2395, 0, none⟩, (.int .i64 p1.Width)), (29, ⟨g2395, 1, none⟩, (.int .i64 p1.Height)), (29, ⟨g2395, 2, none⟩, (.slice A_p1_Cells p1.Cells.length c_p1_Cells))] (fun fb => by kernel_rfl) rfl trivial rfl ?_
                      obtain ⟨t4417, ht4418, hx4415⟩ := bind_some hx4415
                      refine WL.call (some 87) 49 #[(.agg #[(.int .i64 p1.Width), (.int .i64 p1.Height), (.slice A_p1_Cells p1.Cells.length c_p1_Cells)]), (.int .i64 x4242), (.int .i64 (w64 (x3795 + 1)))] (fun fb => by kernel_rfl) (ref01_Cell_calls p1 x4242 (w64 (x3795 + 1)) A_p1_Cells c_p1_Cells t4417 _ (hS4405.rd 1) ht4418) (fun v w4419 hR4420 => ?_)
                      obtain ⟨rfl, hk_⟩ := hR4420
                      have hS4421 := hS4405.keepN hk_
                      refine ⟨⟨hS4421.cell 0 rfl 0 rfl, trivial⟩, ?_⟩
                      obtain ⟨h4422, hx4415⟩ := as_some hx4415
                      refine seg 40 [.v (.int .i64 ((rdD p0 t4417 z_Tile).S))] [0, 3, 6, 7, 93] [(0, (.slice A_p0 p0.length c_p0)), (3, (.pointer (some ⟨g2395, 0, none⟩))), (6, (.int .i64 x3795)), (7, (.int .i64 x4242)), (93, (.bool (((rdD p0 t4250 z_Tile).N) != ((rdD p0 t4417 z_Tile).S))))] [.idx A_p0 t4417 p0.length, .cell (((adr A_p0).add ((t4417).toNat * 4)).add 2) (.int .i64 ((rdD p0 t4417 z_Tile).S))] (fun fb => by kernel_rfl) rfl ⟨rowR.adr (hS4421.rd 0).1 h4422.1 h4422.2, rowR.cell (hS4421.rd 0).1 z_Tile h4422.1 h4422.2 2 rfl, trivial⟩ ?_
                      injection hx4415 with hx4415
                      exact WL.to K (((rdD p0 t4250 z_Tile).N) != ((rdD p0 t4417 z_Tile).S)) [0, 3, 6, 7, 93] rfl ⟨⟨(hS4421.subR [0, 1]).sub [1] (by decide), hx4415.symm⟩, trivial⟩
                    rintro y4423 w4425 ⟨⟨hS4426, hq4424⟩, hF4427⟩
                    subst hq4424
                    refine WL.done rfl ?_
                    injection hx4363 with hx4363
                    exact WX.to Kx4362 x4414 [0, 3, 6, 7, 93] rfl ⟨(hS4426.subR [0, 1]).sub [0] (by decide), hx4363.symm⟩
                  refine WC.regionD ([(3, ⟨g2395, 0, none⟩, (.int .i64 p1.Width)), (7, ⟨g4256, 1, none⟩, (.int .i64 ((rdD p0 t4250 z_Tile).E))), (9, ⟨g2395, 0, none⟩, (.int .i64 p1.Width)), (9, ⟨g2395, 1, none⟩, (.int .i64 p1.Height)), (9, ⟨g2395, 2, none⟩, (.slice A_p1_Cells p1.Cells.length c_p1_Cells)), (23, ⟨g2395, 1, none⟩, (.int .i64 p1.Height)), (27, ⟨g4256, 0, none⟩, (.int .i64 ((rdD p0 t4250 z_Tile).N))), (29, ⟨g2395, 0, none⟩, (.int .i64 p1.Width)), (29, ⟨g2395, 1, none⟩, (.int .i64 p1.Height)), (29, ⟨g2395, 2, none⟩, (.slice A_p1_Cells p1.Cells.length c_p1_Cells))], [0, 1, 2, 3, 4, 5, 6, 7, 8, 9, 10, 11, 12, 14, 15, 17, 18, 19, 20, 21, 22, 23, 24, 25, 26, 27, 28, 29, 30, 31, 32, 34, 35, 37, 38, 39], [[], [0], [], [2], [0, 1, 2, 3], [0, 1, 2, 3, 4], [0, 1, 2, 3, 4, 5], [0, 1, 2, 3, 4, 5, 6], [0, 1, 2, 3, 4, 5], [0, 1, 2, 3, 4, 5], [0, 1, 2, 3, 4, 5], [0, 1, 2, 3, 4, 5, 10], [0, 1, 2, 3, 4, 5], [0, 1, 2, 3, 4, 5, 9, 10, 11, 12], [0, 1, 2, 3, 4, 5, 8, 9, 10, 11, 12, 13], [0, 1, 2, 3, 4, 5, 8, 9, 10, 11, 12, 13, 14], [0, 1, 2, 3, 4, 5, 8, 9, 10, 11, 12, 13, 14, 15], [0, 1, 2, 3, 4, 5, 6, 7, 8, 9, 10, 11, 12, 13, 14, 15, 16], [0, 1, 2, 3, 4, 5, 6, 7, 8, 9, 10, 11, 12, 13, 14, 15, 16, 17], [0, 1, 2, 3, 4, 5, 6, 7, 8, 9, 10, 11, 12, 13, 14, 15, 16, 17, 18], [0, 1, 2, 3, 4, 5, 6, 7, 8, 9, 10, 11, 12, 13, 14, 15, 16, 17, 18, 19], [0, 1, 2, 3, 4, 5, 6, 7, 8, 9, 10, 11, 12, 13, 14, 15, 16, 17, 18, 19, 20], [0, 1, 2, 3, 4, 5, 6, 7, 8, 9, 10, 11, 12, 13, 14, 15, 16, 17, 18, 19], [0, 1, 2, 3, 4, 5, 6, 7, 8, 9, 10, 11, 12, 13, 14, 15, 16, 17, 18, 19, 22], [0, 1, 2, 3, 4, 5, 6, 7, 8, 9, 10, 11, 12, 13, 14, 15, 16, 17, 18, 19, 20, 21, 22, 23], [0, 1, 2, 3, 4, 5, 6, 7, 8, 9, 10, 11, 12, 13, 14, 15, 16, 17, 18, 19, 20, 21, 22, 23, 24], [0, 1, 2, 3, 4, 5, 6, 7, 8, 9, 10, 11, 12, 13, 14, 15, 16, 17, 18, 19, 20, 21, 22, 23, 24, 25], [0, 1, 2, 3, 4, 5, 6, 7, 8, 9, 10, 11, 12, 13, 14, 15, 16, 17, 18, 19, 20, 21, 22, 23, 24, 25, 26], [0, 1, 2, 3, 4, 5, 6, 7, 8, 9, 10, 11, 12, 13, 14, 15, 16, 17, 18, 19, 20, 21, 22, 23, 24, 25], [0, 1, 2, 3, 4, 5, 6, 7, 8, 9, 10, 11, 12, 13, 14, 15, 16, 17, 18, 19, 20, 21, 22, 23, 24, 25], [0, 1, 2, 3, 4, 5, 6, 7, 8, 9, 10, 11, 12, 13, 14, 15, 16, 17, 18, 19, 20, 21, 22, 23, 24, 25], [0, 1, 2, 3, 4, 5, 6, 7, 8, 9, 10, 11, 12, 13, 14, 15, 16, 17, 18, 19, 20, 21, 22, 23, 24, 25], [0, 1, 2, 3, 4, 5, 6, 7, 8, 9, 10, 11, 12, 13, 14, 15, 16, 17, 18, 19, 20, 21, 22, 23, 24, 25, 31], [0, 1, 2, 3, 4, 5, 6, 7, 8, 9, 10, 11, 12, 13, 14, 15, 16, 17, 18, 19, 20, 21, 22, 23, 24, 25, 29, 30, 31, 32], [0, 1, 2, 3, 4, 5, 6, 7, 8, 9, 10, 11, 12, 13, 14, 15, 16, 17, 18, 19, 20, 21, 22, 23, 24, 25, 28, 29, 30, 31, 32, 33], [0, 1, 2, 3, 4, 5, 6, 7, 8, 9, 10, 11, 12, 13, 14, 15, 16, 17, 18, 19, 20, 21, 22, 23, 24, 25, 28, 29, 30, 31, 32, 33, 34], [0, 1, 2, 3, 4, 5, 6, 7, 8, 9, 10, 11, 12, 13, 14, 15, 16, 17, 18, 19, 20, 21, 22, 23, 24, 25, 28, 29, 30, 31, 32, 33, 34, 35], [0, 1, 2, 3, 4, 5, 6, 7, 8, 9, 10, 11, 12, 13, 14, 15, 16, 17, 18, 19, 20, 21, 22, 23, 24, 25, 26, 27, 28, 29, 30, 31, 32, 33, 34, 35, 36], [0, 1, 2, 3, 4, 5, 6, 7, 8, 9, 10, 11, 12, 13, 14, 15, 16, 17, 18, 19, 20, 21, 22, 23, 24, 25, 26, 27, 28, 29, 30, 31, 32, 33, 34, 35, 36, 37], [0, 1, 2, 3, 4, 5, 6, 7, 8, 9, 10, 11, 12, 13, 14, 15, 16, 17, 18, 19, 20, 21, 22, 23, 24, 25, 26, 27, 28, 29, 30, 31, 32, 33, 34, 35, 36, 37, 38]]) [[0, 1, 2, 3, 4, 5, 6, 7, 8, 9, 10, 11, 12, 13, 14, 15, 16, 17, 18, 19, 20, 21, 22, 23, 24, 25, 26, 27, 28, 29, 30, 31, 32, 33, 34, 35, 36, 37, 38, 39]] (by kernel_rfl) (by kernel_rfl) (NoPanic.seq (NoPanic.block (NoPanic.seq (NoPanic.seq (NoPanic.block (NoPanic.block (NoPanic.seq (NoPanic.seq (NoPanic.block (NoPanic.seq (NoPanic.body))))))))))) ?_
                  have hS4437 := hS4261.drew
                  revert hS4437
                  generalize World.drew w4260 = w4436
                  intro hS4437
                  refine ⟨⟨hS4437.cell 1 rfl 0 rfl, hS4437.cell 0 rfl 1 rfl, hS4437.cell 1 rfl 0 rfl, hS4437.cell 1 rfl 1 rfl, hS4437.cell 1 rfl 2 rfl, hS4437.cell 1 rfl 1 rfl, hS4437.cell 0 rfl 0 rfl, hS4437.cell 1 rfl 0 rfl, hS4437.cell 1 rfl 1 rfl, hS4437.cell 1 rfl 2 rfl, trivial⟩, forallC ?_ (forallN)⟩
                  refine segF 6 [.v (.int .i64 p1.Width)] [0, 3, 6, 7, 8, 59] [(0, (.slice A_p0 p0.length c_p0)), (3, (.pointer (some ⟨g2395, 0, none⟩))), (6, (.int .i64 x3795)), (7, (.int .i64 x4242)), (8, (.pointer (some ⟨g4256, 0, none⟩))), (59, (.bool (decide (w64 (x4242 + 1) < p1.Width))))] [] [0] [(3, ⟨g2395, 0, none⟩, (.int .i64 p1.Width))] (fun fb => by kernel_rfl) rfl trivial rfl ?_
                  refine WL.setB 59 h4364 rfl ?_
                  refine segF 13 [.v (.int .i64 ((rdD p0 t4250 z_Tile).E)), .v (.int .i64 p1.Width), .v (.int .i64 p1.Height), .v (.slice A_p1_Cells p1.Cells.length c_p1_Cells)] [0, 3, 6, 7, 8, 59, 61, 62, 63, 65, 66] [(0, (.slice A_p0 p0.length c_p0)), (3, (.pointer (some ⟨g2395, 0, none⟩))), (6, (.int .i64 x3795)), (7, (.int .i64 x4242)), (8, (.pointer (some ⟨g4256, 0, none⟩))), (59, (.bool true)), (61, (.int .i64 ((rdD p0 t4250 z_Tile).E))), (62, (.slice A_p0 p0.length c_p0)), (63, (.agg #[(.int .i64 p1.Width), (.int .i64 p1.Height), (.slice A_p1_Cells p1.Cells.length c_p1_Cells)])), (65, (.int .i64 (w64 (x4242 + 1)))), (66, (.int .i64 x3795))] [] [1, 2, 3, 4] [(7, ⟨g4256, 1, none⟩, (.int .i64 ((rdD p0 t4250 z_Tile).E))), (9, ⟨g2395, 0, none⟩, (.int .i64 p1.Width)), (9, ⟨g2395, 1, none⟩, (.int .i64 p1.Height)), (9, ⟨g2395, 2, none⟩, (.slice A_p1_Cells p1.Cells.length c_p1_Cells))] (fun fb => by kernel_rfl) rfl trivial rfl ?_
                  obtain ⟨t4438, ht4439, hx4363⟩ := bind_some hx4363
                  refine WL.call (some 67) 49 #[(.agg #[(.int .i64 p1.Width), (.int .i64 p1.Height), (.slice A_p1_Cells p1.Cells.length c_p1_Cells)]), (.int .i64 (w64 (x4242 + 1))), (.int .i64 x3795)] (fun fb => by kernel_rfl) (ref01_Cell_calls p1 (w64 (x4242 + 1)) x3795 A_p1_Cells c_p1_Cells t4438 _ (hS4437.rd 1) ht4439) (fun v w4440 hR4441 => ?_)
                  obtain ⟨rfl, hk_⟩ := hR4441
                  have hS4442 := hS4437.keepN hk_
                  refine ⟨⟨hS4442.cell 0 rfl 1 rfl, hS4442.cell 1 rfl 1 rfl, hS4442.cell 0 rfl 0 rfl, hS4442.cell 1 rfl 0 rfl, hS4442.cell 1 rfl 1 rfl, hS4442.cell 1 rfl 2 rfl, trivial⟩, ?_⟩
                  obtain ⟨h4443, hx4363⟩ := as_some hx4363
                  refine seg 20 [.v (.int .i64 ((rdD p0 t4438 z_Tile).W))] [0, 3, 6, 7, 8, 73] [(0, (.slice A_p0 p0.length c_p0)), (3, (.pointer (some ⟨g2395, 0, none⟩))), (6, (.int .i64 x3795)), (7, (.int .i64 x4242)), (8, (.pointer (some ⟨g4256, 0, none⟩))), (73, (.bool (((rdD p0 t4250 z_Tile).E) != ((rdD p0 t4438 z_Tile).W))))] [.idx A_p0 t4438 p0.length, .cell (((adr A_p0).add ((t4438).toNat * 4)).add 3) (.int .i64 ((rdD p0 t4438 z_Tile).W))] (fun fb => by kernel_rfl) rfl ⟨rowR.adr (hS4442.rd 0).1 h4443.1 h4443.2, rowR.cell (hS4442.rd 0).1 z_Tile h4443.1 h4443.2 3 rfl, trivial⟩ ?_
                  refine WL.cutV (T := Bool) 40 (fun t => [(93, (.bool t)), (0, (.slice A_p0 p0.length c_p0)), (3, (.pointer (some ⟨g2395, 0, none⟩))), (6, (.int .i64 x3795)), (7, (.int .i64 x4242))]) (fun t => t = (((rdD p0 t4250 z_Tile).E) != ((rdD p0 t4438 z_Tile).W))) (fun K => ?_) ?_
                  ·
                    rcases Bool.eq_false_or_eq_true (((rdD p0 t4250 z_Tile).E) != ((rdD p0 t4438 z_Tile).W)) with h4444 | h4444
                    ·
                      refine WL.setB 73 h4444 rfl ?_
                      refine seg 40 [] [0, 3, 6, 7, 93] [(0, (.slice A_p0 p0.length c_p0)), (3, (.pointer (some ⟨g2395, 0, none⟩))), (6, (.int .i64 x3795)), (7, (.int .i64 x4242)), (93, (.bool true))] [] (fun fb => by kernel_rfl) rfl trivial ?_
                      exact WL.toV K true [93, 0, 3, 6, 7] rfl (by first | (rw [h4444]; done) | (rw [h4444]; rfl))
                    refine WL.setB 73 h4444 rfl ?_
                    refine segF 26 [.v (.int .i64 p1.Height)] [0, 3, 6, 7, 8, 73, 79] [(0, (.slice A_p0 p0.length c_p0)), (3, (.pointer (some ⟨g2395, 0, none⟩))), (6, (.int .i64 x3795)), (7, (.int .i64 x4242)), (8, (.pointer (some ⟨g4256, 0, none⟩))), (73, (.bool false)), (79, (.bool (decide (w64 (x3795 + 1) < p1.Height))))] [] [5] [(23, ⟨g2395, 1, none⟩, (.int .i64 p1.Height))] (fun fb => by kernel_rfl) rfl trivial rfl ?_
                    refine WL.setB 79 h4371 rfl ?_
                    refine seg 40 [] [0, 3, 6, 7, 93] [(0, (.slice A_p0 p0.length c_p0)), (3, (.pointer (some ⟨g2395, 0, none⟩))), (6, (.int .i64 x3795)), (7, (.int .i64 x4242)), (93, (.bool false))] [] (fun fb => by kernel_rfl) rfl trivial ?_
                    exact WL.toV K false [93, 0, 3, 6, 7] rfl (by first | (rw [h4444]; done) | (rw [h4444]; rfl))
                  rintro b4445 rfl
                  refine WL.done rfl ?_
                  injection hx4363 with hx4363
                  exact WX.to Kx4362 (((rdD p0 t4250 z_Tile).E) != ((rdD p0 t4438 z_Tile).W)) [0, 3, 6, 7, 93] rfl ⟨(hS4442.subR [0, 1]).sub [1] (by decide), hx4363.symm⟩
                rcases br_some hx4363 with ⟨h4446, hx4363⟩ | ⟨h4446, hx4363⟩
                ·
                  refine WC.regionD ([(3, ⟨g2395, 0, none⟩, (.int .i64 p1.Width)), (7, ⟨g4256, 1, none⟩, (.int .i64 ((rdD p0 t4250 z_Tile).E))), (9, ⟨g2395, 0, none⟩, (.int .i64 p1.Width)), (9, ⟨g2395, 1, none⟩, (.int .i64 p1.Height)), (9, ⟨g2395, 2, none⟩, (.slice A_p1_Cells p1.Cells.length c_p1_Cells)), (23, ⟨g2395, 1, none⟩, (.int .i64 p1.Height)), (27, ⟨g4256, 0, none⟩, (.int .i64 ((rdD p0 t4250 z_Tile).N))), (29, ⟨g2395, 0, none⟩, (.int .i64 p1.Width)), (29, ⟨g2395, 1, none⟩, (.int .i64 p1.Height)), (29, ⟨g2395, 2, none⟩, (.slice A_p1_Cells p1.Cells.length c_p1_Cells))], [0, 1, 2, 3, 4, 5, 6, 7, 8, 9, 10, 11, 12, 14, 15, 17, 18, 19, 20, 21, 22, 23, 24, 25, 26, 27, 28, 29, 30, 31, 32, 34, 35, 37, 38, 39], [[], [0], [], [2], [0, 1, 2, 3], [0, 1, 2, 3, 4], [0, 1, 2, 3, 4, 5], [0, 1, 2, 3, 4, 5, 6], [0, 1, 2, 3, 4, 5], [0, 1, 2, 3, 4, 5], [0, 1, 2, 3, 4, 5], [0, 1, 2, 3, 4, 5, 10], [0, 1, 2, 3, 4, 5], [0, 1, 2, 3, 4, 5, 9, 10, 11, 12], [0, 1, 2, 3, 4, 5, 8, 9, 10, 11, 12, 13], [0, 1, 2, 3, 4, 5, 8, 9, 10, 11, 12, 13, 14], [0, 1, 2, 3, 4, 5, 8, 9, 10, 11, 12, 13, 14, 15], [0, 1, 2, 3, 4, 5, 6, 7, 8, 9, 10, 11, 12, 13, 14, 15, 16], [0, 1, 2, 3, 4, 5, 6, 7, 8, 9, 10, 11, 12, 13, 14, 15, 16, 17], [0, 1, 2, 3, 4, 5, 6, 7, 8, 9, 10, 11, 12, 13, 14, 15, 16, 17, 18], [0, 1, 2, 3, 4, 5, 6, 7, 8, 9, 10, 11, 12, 13, 14, 15, 16, 17, 18, 19], [0, 1, 2, 3, 4, 5, 6, 7, 8, 9, 10, 11, 12, 13, 14, 15, 16, 17, 18, 19, 20], [0, 1, 2, 3, 4, 5, 6, 7, 8, 9, 10, 11, 12, 13, 14, 15, 16, 17, 18, 19], [0, 1, 2, 3, 4, 5, 6, 7, 8, 9, 10, 11, 12, 13, 14, 15, 16, 17, 18, 19, 22], [0, 1, 2, 3, 4, 5, 6, 7, 8, 9, 10, 11, 12, 13, 14, 15, 16, 17, 18, 19, 20, 21, 22, 23], [0, 1, 2, 3, 4, 5, 6, 7, 8, 9, 10, 11, 12, 13, 14, 15, 16, 17, 18, 19, 20, 21, 22, 23, 24], [0, 1, 2, 3, 4, 5, 6, 7, 8, 9, 10, 11, 12, 13, 14, 15, 16, 17, 18, 19, 20, 21, 22, 23, 24, 25], [0, 1, 2, 3, 4, 5, 6, 7, 8, 9, 10, 11, 12, 13, 14, 15, 16, 17, 18, 19, 20, 21, 22, 23, 24, 25, 26], [0, 1, 2, 3, 4, 5, 6, 7, 8, 9, 10, 11, 12, 13, 14, 15, 16, 17, 18, 19, 20, 21, 22, 23, 24, 25], [0, 1, 2, 3, 4, 5, 6, 7, 8, 9, 10, 11, 12, 13, 14, 15, 16, 17, 18, 19, 20, 21, 22, 23, 24, 25], [0, 1, 2, 3, 4, 5, 6, 7, 8, 9, 10, 11, 12, 13, 14, 15, 16, 17, 18, 19, 20, 21, 22, 23, 24, 25], [0, 1, 2, 3, 4, 5, 6, 7, 8, 9, 10, 11, 12, 13, 14, 15, 16, 17, 18, 19, 20, 21, 22, 23, 24, 25], [0, 1, 2, 3, 4, 5, 6, 7, 8, 9, 10, 11, 12, 13, 14, 15, 16, 17, 18, 19, 20, 21, 22, 23, 24, 25, 31], [0, 1, 2, 3, 4, 5, 6, 7, 8, 9, 10, 11, 12, 13, 14, 15, 16, 17, 18, 19, 20, 21, 22, 23, 24, 25, 29, 30, 31, 32], [0, 1, 2, 3, 4, 5, 6, 7, 8, 9, 10, 11, 12, 13, 14, 15, 16, 17, 18, 19, 20, 21, 22, 23, 24, 25, 28, 29, 30, 31, 32, 33], [0, 1, 2, 3, 4, 5, 6, 7, 8, 9, 10, 11, 12, 13, 14, 15, 16, 17, 18, 19, 20, 21, 22, 23, 24, 25, 28, 29, 30, 31, 32, 33, 34], [0, 1, 2, 3, 4, 5, 6, 7, 8, 9, 10, 11, 12, 13, 14, 15, 16, 17, 18, 19, 20, 21, 22, 23, 24, 25, 28, 29, 30, 31, 32, 33, 34, 35], [0, 1, 2, 3, 4, 5, 6, 7, 8, 9, 10, 11, 12, 13, 14, 15, 16, 17, 18, 19, 20, 21, 22, 23, 24, 25, 26, 27, 28, 29, 30, 31, 32, 33, 34, 35, 36], [0, 1, 2, 3, 4, 5, 6, 7, 8, 9, 10, 11, 12, 13, 14, 15, 16, 17, 18, 19, 20, 21, 22, 23, 24, 25, 26, 27, 28, 29, 30, 31, 32, 33, 34, 35, 36, 37], [0, 1, 2, 3, 4, 5, 6, 7, 8, 9, 10, 11, 12, 13, 14, 15, 16, 17, 18, 19, 20, 21, 22, 23, 24, 25, 26, 27, 28, 29, 30, 31, 32, 33, 34, 35, 36, 37, 38]]) [[0, 1, 2, 3, 4, 5, 6, 7, 8, 9, 10, 11, 12, 13, 14, 15, 16, 17, 18, 19, 20, 21, 22, 23, 24, 25, 26, 27, 28, 29, 30, 31, 32, 33, 34, 35, 36, 37, 38, 39]] (by kernel_rfl) (by kernel_rfl) (NoPanic.seq (NoPanic.block (NoPanic.seq (NoPanic.seq (NoPanic.block (NoPanic.block (NoPanic.seq (NoPanic.seq (NoPanic.block (NoPanic.seq (NoPanic.body))))))))))) ?_
                  have hS4454 := hS4261.drew
                  revert hS4454
                  generalize World.drew w4260 = w4453
                  intro hS4454
                  refine ⟨⟨hS4454.cell 1 rfl 0 rfl, hS4454.cell 0 rfl 1 rfl, hS4454.cell 1 rfl 0 rfl, hS4454.cell 1 rfl 1 rfl, hS4454.cell 1 rfl 2 rfl, hS4454.cell 1 rfl 1 rfl, hS4454.cell 0 rfl 0 rfl, hS4454.cell 1 rfl 0 rfl, hS4454.cell 1 rfl 1 rfl, hS4454.cell 1 rfl 2 rfl, trivial⟩, forallC ?_ (forallN)⟩
                  refine segF 6 [.v (.int .i64 p1.Width)] [0, 3, 6, 7, 8, 59] [(0, (.slice A_p0 p0.length c_p0)), (3, (.pointer (some ⟨g2395, 0, none⟩))), (6, (.int .i64 x3795)), (7, (.int .i64 x4242)), (8, (.pointer (some ⟨g4256, 0, none⟩))), (59, (.bool (decide (w64 (x4242 + 1) < p1.Width))))] [] [0] [(3, ⟨g2395, 0, none⟩, (.int .i64 p1.Width))] (fun fb => by kernel_rfl) rfl trivial rfl ?_
                  refine WL.setB 59 h4364 rfl ?_
                  refine segF 26 [.v (.int .i64 p1.Height)] [0, 3, 6, 7, 8, 73, 79] [(0, (.slice A_p0 p0.length c_p0)), (3, (.pointer (some ⟨g2395, 0, none⟩))), (6, (.int .i64 x3795)), (7, (.int .i64 x4242)), (8, (.pointer (some ⟨g4256, 0, none⟩))), (73, (.bool false)), (79, (.bool (decide (w64 (x3795 + 1) < p1.Height))))] [] [5] [(23, ⟨g2395, 1, none⟩, (.int .i64 p1.Height))] (fun fb => by kernel_rfl) rfl trivial rfl ?_
                  refine WL.setB 79 h4446 rfl ?_
                  refine segF 33 [.v (.int .i64 ((rdD p0 t4250 z_Tile).N)), .v (.int .i64 p1.Width), .v (.int .i64 p1.Height), .v (.slice A_p1_Cells p1.Cells.length c_p1_Cells)] [0, 3, 6, 7, 73, 79, 81, 82, 83, 84, 86] [(0, (.slice A_p0 p0.length c_p0)), (3, (.pointer (some ⟨g2395, 0, none⟩))), (6, (.int .i64 x3795)), (7, (.int .i64 x4242)), (73, (.bool false)), (79, (.bool true)), (81, (.int .i64 ((rdD p0 t4250 z_Tile).N))), (82, (.slice A_p0 p0.length c_p0)), (83, (.agg #[(.int .i64 p1.Width), (.int .i64 p1.Height), (.slice A_p1_Cells p1.Cells.length c_p1_Cells)])), (84, (.int .i64 x4242)), (86, (.int .i64 (w64 (x3795 + 1))))] [] [6, 7, 8, 9] [(27, ⟨g4256, 0, none⟩, (.int .i64 ((rdD p0 t4250 z_Tile).N))), (29, ⟨g2395, 0, none⟩, (.int .i64 p1.Width)), (29, ⟨g2395, 1, none⟩, (.int .i64 p1.Height)), (29, ⟨g2395, 2, none⟩, (.slice A_p1_Cells p1.Cells.length c_p1_Cells))] (fun fb => by kernel_rfl) rfl trivial rfl ?_
                  obtain ⟨t4455, ht4456, hx4363⟩ := bind_some hx4363
                  refine WL.call (some 87) 49 #[(.agg #[(.int .i64 p1.Width), (.int .i64 p1.Height), (.slice A_p1_Cells p1.Cells.length c_p1_Cells)]), (.int .i64 x4242), (.int .i64 (w64 (x3795 + 1)))] (fun fb => by kernel_rfl) (ref01_Cell_calls p1 x4242 (w64 (x3795 + 1)) A_p1_Cells c_p1_Cells t4455 _ (hS4454.rd 1) ht4456) (fun v w4457 hR4458 => ?_)
                  obtain ⟨rfl, hk_⟩ := hR4458
                  have hS4459 := hS4454.keepN hk_
                  refine ⟨⟨hS4459.cell 0 rfl 0 rfl, trivial⟩, ?_⟩
                  obtain ⟨h4460, hx4363⟩ := as_some hx4363
                  refine seg 40 [.v (.int .i64 ((rdD p0 t4455 z_Tile).S))] [0, 3, 6, 7, 93] [(0, (.slice A_p0 p0.length c_p0)), (3, (.pointer (some ⟨g2395, 0, none⟩))), (6, (.int .i64 x3795)), (7, (.int .i64 x4242)), (93, (.bool (((rdD p0 t4250 z_Tile).N) != ((rdD p0 t4455 z_Tile).S))))] [.idx A_p0 t4455 p0.length, .cell (((adr A_p0).add ((t4455).toNat * 4)).add 2) (.int .i64 ((rdD p0 t4455 z_Tile).S))] (fun fb => by kernel_rfl) rfl ⟨rowR.adr (hS4459.rd 0).1 h4460.1 h4460.2, rowR.cell (hS4459.rd 0).1 z_Tile h4460.1 h4460.2 2 rfl, trivial⟩ ?_
                  refine WL.done rfl ?_
                  injection hx4363 with hx4363
                  exact WX.to Kx4362 (((rdD p0 t4250 z_Tile).N) != ((rdD p0 t4455 z_Tile).S)) [0, 3, 6, 7, 93] rfl ⟨(hS4459.subR [0, 1]).sub [1] (by decide), hx4363.symm⟩
                refine WC.regionD ([(3, ⟨g2395, 0, none⟩, (.int .i64 p1.Width)), (7, ⟨g4256, 1, none⟩, (.int .i64 ((rdD p0 t4250 z_Tile).E))), (9, ⟨g2395, 0, none⟩, (.int .i64 p1.Width)), (9, ⟨g2395, 1, none⟩, (.int .i64 p1.Height)), (9, ⟨g2395, 2, none⟩, (.slice A_p1_Cells p1.Cells.length c_p1_Cells)), (23, ⟨g2395, 1, none⟩, (.int .i64 p1.Height)), (27, ⟨g4256, 0, none⟩, (.int .i64 ((rdD p0 t4250 z_Tile).N))), (29, ⟨g2395, 0, none⟩, (.int .i64 p1.Width)), (29, ⟨g2395, 1, none⟩, (.int .i64 p1.Height)), (29, ⟨g2395, 2, none⟩, (.slice A_p1_Cells p1.Cells.length c_p1_Cells))], [0, 1, 2, 3, 4, 5, 6, 7, 8, 9, 10, 11, 12, 14, 15, 17, 18, 19, 20, 21, 22, 23, 24, 25, 26, 27, 28, 29, 30, 31, 32, 34, 35, 37, 38, 39], [[], [0], [], [2], [0, 1, 2, 3], [0, 1, 2, 3, 4], [0, 1, 2, 3, 4, 5], [0, 1, 2, 3, 4, 5, 6], [0, 1, 2, 3, 4, 5], [0, 1, 2, 3, 4, 5], [0, 1, 2, 3, 4, 5], [0, 1, 2, 3, 4, 5, 10], [0, 1, 2, 3, 4, 5], [0, 1, 2, 3, 4, 5, 9, 10, 11, 12], [0, 1, 2, 3, 4, 5, 8, 9, 10, 11, 12, 13], [0, 1, 2, 3, 4, 5, 8, 9, 10, 11, 12, 13, 14], [0, 1, 2, 3, 4, 5, 8, 9, 10, 11, 12, 13, 14, 15], [0, 1, 2, 3, 4, 5, 6, 7, 8, 9, 10, 11, 12, 13, 14, 15, 16], [0, 1, 2, 3, 4, 5, 6, 7, 8, 9, 10, 11, 12, 13, 14, 15, 16, 17], [0, 1, 2, 3, 4, 5, 6, 7, 8, 9, 10, 11, 12, 13, 14, 15, 16, 17, 18], [0, 1, 2, 3, 4, 5, 6, 7, 8, 9, 10, 11, 12, 13, 14, 15, 16, 17, 18, 19], [0, 1, 2, 3, 4, 5, 6, 7, 8, 9, 10, 11, 12, 13, 14, 15, 16, 17, 18, 19, 20], [0, 1, 2, 3, 4, 5, 6, 7, 8, 9, 10, 11, 12, 13, 14, 15, 16, 17, 18, 19], [0, 1, 2, 3, 4, 5, 6, 7, 8, 9, 10, 11, 12, 13, 14, 15, 16, 17, 18, 19, 22], [0, 1, 2, 3, 4, 5, 6, 7, 8, 9, 10, 11, 12, 13, 14, 15, 16, 17, 18, 19, 20, 21, 22, 23], [0, 1, 2, 3, 4, 5, 6, 7, 8, 9, 10, 11, 12, 13, 14, 15, 16, 17, 18, 19, 20, 21, 22, 23, 24], [0, 1, 2, 3, 4, 5, 6, 7, 8, 9, 10, 11, 12, 13, 14, 15, 16, 17, 18, 19, 20, 21, 22, 23, 24, 25], [0, 1, 2, 3, 4, 5, 6, 7, 8, 9, 10, 11, 12, 13, 14, 15, 16, 17, 18, 19, 20, 21, 22, 23, 24, 25, 26], [0, 1, 2, 3, 4, 5, 6, 7, 8, 9, 10, 11, 12, 13, 14, 15, 16, 17, 18, 19, 20, 21, 22, 23, 24, 25], [0, 1, 2, 3, 4, 5, 6, 7, 8, 9, 10, 11, 12, 13, 14, 15, 16, 17, 18, 19, 20, 21, 22, 23, 24, 25], [0, 1, 2, 3, 4, 5, 6, 7, 8, 9, 10, 11, 12, 13, 14, 15, 16, 17, 18, 19, 20, 21, 22, 23, 24, 25], [0, 1, 2, 3, 4, 5, 6, 7, 8, 9, 10, 11, 12, 13, 14, 15, 16, 17, 18, 19, 20, 21, 22, 23, 24, 25], [0, 1, 2, 3, 4, 5, 6, 7, 8, 9, 10, 11, 12, 13, 14, 15, 16, 17, 18, 19, 20, 21, 22, 23, 24, 25, 31], [0, 1, 2, 3, 4, 5, 6, 7, 8, 9, 10, 11, 12, 13, 14, 15, 16, 17, 18, 19, 20, 21, 22, 23, 24, 25, 29, 30, 31, 32], [0, 1, 2, 3, 4, 5, 6, 7, 8, 9, 10, 11, 12, 13, 14, 15, 16, 17, 18, 19, 20, 21, 22, 23, 24, 25, 28, 29, 30, 31, 32, 33], [0, 1, 2, 3, 4, 5, 6, 7, 8, 9, 10, 11, 12, 13, 14, 15, 16, 17, 18, 19, 20, 21, 22, 23, 24, 25, 28, 29, 30, 31, 32, 33, 34], [0, 1, 2, 3, 4, 5, 6, 7, 8, 9, 10, 11, 12, 13, 14, 15, 16, 17, 18, 19, 20, 21, 22, 23, 24, 25, 28, 29, 30, 31, 32, 33, 34, 35], [0, 1, 2, 3, 4, 5, 6, 7, 8, 9, 10, 11, 12, 13, 14, 15, 16, 17, 18, 19, 20, 21, 22, 23, 24, 25, 26, 27, 28, 29, 30, 31, 32, 33, 34, 35, 36], [0, 1, 2, 3, 4, 5, 6, 7, 8, 9, 10, 11, 12, 13, 14, 15, 16, 17, 18, 19, 20, 21, 22, 23, 24, 25, 26, 27, 28, 29, 30, 31, 32, 33, 34, 35, 36, 37], [0, 1, 2, 3, 4, 5, 6, 7, 8, 9, 10, 11, 12, 13, 14, 15, 16, 17, 18, 19, 20, 21, 22, 23, 24, 25, 26, 27, 28, 29, 30, 31, 32, 33, 34, 35, 36, 37, 38]]) [[0, 1, 2, 3, 4, 5, 6, 7, 8, 9, 10, 11, 12, 13, 14, 15, 16, 17, 18, 19, 20, 21, 22, 23, 24, 25, 26, 27, 28, 29, 30, 31, 32, 33, 34, 35, 36, 37, 38, 39]] (by kernel_rfl) (by kernel_rfl) (NoPanic.seq (NoPanic.block (NoPanic.seq (NoPanic.seq (NoPanic.block (NoPanic.block (NoPanic.seq (NoPanic.seq (NoPanic.block (NoPanic.seq (NoPanic.body))))))))))) ?_
                have hS4462 := hS4261.drew
                revert hS4462
                generalize World.drew w4260 = w4461
                intro hS4462
                refine ⟨⟨hS4462.cell 1 rfl 0 rfl, hS4462.cell 0 rfl 1 rfl, hS4462.cell 1 rfl 0 rfl, hS4462.cell 1 rfl 1 rfl, hS4462.cell 1 rfl 2 rfl, hS4462.cell 1 rfl 1 rfl, hS4462.cell 0 rfl 0 rfl, hS4462.cell 1 rfl 0 rfl, hS4462.cell 1 rfl 1 rfl, hS4462.cell 1 rfl 2 rfl, trivial⟩, forallC ?_ (forallN)⟩
                refine segF 6 [.v (.int .i64 p1.Width)] [0, 3, 6, 7, 8, 59] [(0, (.slice A_p0 p0.length c_p0)), (3, (.pointer (some ⟨g2395, 0, none⟩))), (6, (.int .i64 x3795)), (7, (.int .i64 x4242)), (8, (.pointer (some ⟨g4256, 0, none⟩))), (59, (.bool (decide (w64 (x4242 + 1) < p1.Width))))] [] [0] [(3, ⟨g2395, 0, none⟩, (.int .i64 p1.Width))] (fun fb => by kernel_rfl) rfl trivial rfl ?_
                refine WL.setB 59 h4364 rfl ?_
                refine segF 26 [.v (.int .i64 p1.Height)] [0, 3, 6, 7, 8, 73, 79] [(0, (.slice A_p0 p0.length c_p0)), (3, (.pointer (some ⟨g2395, 0, none⟩))), (6, (.int .i64 x3795)), (7, (.int .i64 x4242)), (8, (.pointer (some ⟨g4256, 0, none⟩))), (73, (.bool false)), (79, (.bool (decide (w64 (x3795 + 1) < p1.Height))))] [] [5] [(23, ⟨g2395, 1, none⟩, (.int .i64 p1.Height))] (fun fb => by kernel_rfl) rfl trivial rfl ?_
                refine WL.setB 79 h4446 rfl ?_
                refine seg 40 [] [0, 3, 6, 7, 93] [(0, (.slice A_p0 p0.length c_p0)), (3, (.pointer (some ⟨g2395, 0, none⟩))), (6, (.int .i64 x3795)), (7, (.int .i64 x4242)), (93, (.bool false))] [] (fun fb => by kernel_rfl) rfl trivial ?_
                refine WL.done rfl ?_
                injection hx4363 with hx4363
                exact WX.to Kx4362 false [0, 3, 6, 7, 93] rfl ⟨(hS4462.subR [0, 1]).sub [1] (by decide), hx4363.symm⟩
              rintro y4466 w4463 ⟨hS4464, hq4465⟩
              subst hq4465
              refine WX.next ?_
              rcases br_some hl4248 with ⟨h4467, hl4248⟩ | ⟨h4467, hl4248⟩
              · refine WC.condT2 (fun fb => by kernel_rfl) h4467 ?_
                refine WC.seq ?_
                refine WC.region ?_
                refine seg 1 [] [4] [(4, (.bool false))] [] (fun fb => by kernel_rfl) rfl trivial ?_
                refine WL.done rfl ?_
                refine WX.next ?_
                refine WC.ret ?_
                injection hl4248 with hl4248
                subst hl4248
                injection hl3801 with hl3801
                subst hl3801
                injection hf with hf
                subst hf
                exact WX.blockR (WX.thenR (WX.thenR (WX.blockR (WX.blockR (WX.thenR (WX.thenR (WX.blockR (WX.thenR (WX.ret_ [] (.bool false) [] (fun fb => by kernel_rfl) trivial ⟨_, rfl, rfl, hS4464.keep⟩)))))))))
              refine WC.condF2 (fun fb => by kernel_rfl) h4467 ?_
              refine WC.skip ?_
              refine WX.blockN (WX.next ?_)
              refine WC.region ?_
              refine seg 3 [] [0, 3, 6, 7] [(0, (.slice A_p0 p0.length c_p0)), (3, (.pointer (some ⟨g2395, 0, none⟩))), (6, (.int .i64 x3795)), (7, (.int .i64 (w64 (x4242 + 1))))] [] (fun fb => by kernel_rfl) rfl trivial ?_
              refine WL.done rfl ?_
              exact WX.again k4245 (Nat.lt_succ_self _) (w64 (x4242 + 1)) [0, 3, 6, 7] rfl ⟨(hS4464.subR [0, 1]).sub [0] (by decide), hl4248⟩
            refine WC.condF2 (fun fb => by kernel_rfl) h4249 ?_
            refine WC.exit ?_
            injection hl4248 with hl4248
            exact WX.thenX (WX.thenX (WX.blockHere (WX.to Kx4243 () [0, 3, 6] rfl ⟨(hS4247.subR [0, 1]).sub [0] (by decide), hl4248.symm⟩)))
        rintro y4471 w4468 ⟨hS4469, hq4470⟩
        subst hq4470
        have hl3801 := sum_inr hl3801
        refine WX.blockN (WX.next ?_)
        refine WC.region ?_
        refine seg 3 [] [0, 3, 6] [(0, (.slice A_p0 p0.length c_p0)), (3, (.pointer (some ⟨g2395, 0, none⟩))), (6, (.int .i64 (w64 (x3795 + 1))))] [] (fun fb => by kernel_rfl) rfl trivial ?_
        refine WL.done rfl ?_
        exact WX.again k3798 (Nat.lt_succ_self _) (w64 (x3795 + 1)) [0, 3, 6] rfl ⟨(hS4469.subR [0, 1]).sub [0] (by decide), hl3801⟩
      refine WC.condF2 (fun fb => by kernel_rfl) h3802 ?_
      refine WC.exit ?_
      injection hl3801 with hl3801
      exact WX.thenX (WX.thenX (WX.blockHere (WX.to Kx3796 () [] rfl ⟨(hS3800.subR [0, 1]).sub [] (by decide), hl3801.symm⟩)))
  rintro y4476 w4473 ⟨hS4474, hq4475⟩
  subst hq4475
  have hf := sum_inr hf
  refine WX.next ?_
  refine WC.seq ?_
  refine WC.region ?_
  refine seg 1 [] [4] [(4, (.bool true))] [] (fun fb => by kernel_rfl) rfl trivial ?_
  refine WL.done rfl ?_
  refine WX.next ?_
  refine WC.ret ?_
  injection hf with hf
  subst hf
  exact WX.ret_ [] (.bool true) [] (fun fb => by kernel_rfl) trivial ⟨_, rfl, rfl, hS4474.keep⟩
theorem ref01_Fits_calls (k : Nat) (p0 : List Tile) (p1 : Pattern) (A_p0 : Option Addr) (c_p0 : Nat) (A_p1_Cells : Option Addr) (c_p1_Cells : Nat) (r : Bool) (w : World) (hR0 : RO NoS w (rowR enc_Tile A_p0 c_p0 p0)) (hR1 : RO NoS w (rowR encInt A_p1_Cells c_p1_Cells p1.Cells)) (hf : ref01_Fits k p0 p1 = some r) :
    CallsR Tryd.prog 15 #[(.slice A_p0 p0.length c_p0), (.agg #[(.int .i64 p1.Width), (.int .i64 p1.Height), (.slice A_p1_Cells p1.Cells.length c_p1_Cells)])] w (fun v w' => v = (.bool r) ∧ Keeps NoS w w') := by
  have hS : St NoS w w [rowR enc_Tile A_p0 c_p0 p0, rowR encInt A_p1_Cells c_p1_Cells p1.Cells] [] := St.init (ro_cons hR0 (ro_cons hR1 (ro_nil _ _)))
  refine enter 12 Tryd.func15 rfl Tryd.ntmps15 rfl ?_
  unfold ref01_Fits at hf
  refine WC.seq ?_
  refine WC.region ?_
  refine WL.new hS 3 [] (fun g => (.pointer (some ⟨g, 0, none⟩))) (.cells #[(.int .i64 p1.Width), (.int .i64 p1.Height), (.slice A_p1_Cells p1.Cells.length c_p1_Cells)] 35 (0, 0)) [] (fun fb g => by kernel_rfl) trivial (fun g1789 w1790 hS1791 => ?_)
  refine ⟨trivial, ?_⟩
  refine seg 2 [] [0, 3] [(0, (.slice A_p0 p0.length c_p0)), (3, (.pointer (some ⟨g1789, 0, none⟩)))] [] (fun fb => by kernel_rfl) rfl trivial ?_
  refine WL.done rfl ?_
  refine WX.next ?_
  refine WC.seq ?_
  refine WC.region ?_
  refine seg 1 [] [0, 3, 5] [(0, (.slice A_p0 p0.length c_p0)), (3, (.pointer (some ⟨g1789, 0, none⟩))), (5, (.slice A_p0 p0.length c_p0))] [] (fun fb => by kernel_rfl) rfl trivial ?_
  obtain ⟨t2390, ht2391, hf⟩ := bind_some hf
  refine WL.call (some 6) 17 #[(.slice A_p0 p0.length c_p0)] (fun fb => by kernel_rfl) (ref01_Valid_calls _ p0 A_p0 c_p0 t2390 _ (hS1791.rd 0) ht2391) (fun v w2392 hR2393 => ?_)
  obtain ⟨rfl, hk_⟩ := hR2393
  have hS2394 := hS1791.keepN hk_
  refine ⟨trivial, ?_⟩
  refine seg 3 [] [0, 3, 7] [(0, (.slice A_p0 p0.length c_p0)), (3, (.pointer (some ⟨g1789, 0, none⟩))), (7, (.bool t2390))] [] (fun fb => by kernel_rfl) rfl trivial ?_
  obtain ⟨x4484, hx4485, hf⟩ := bind_some hf
  refine WL.cutW (T := Bool) 7 (fun t => [(11, (.bool t))]) (fun t w1 => (St NoS w w1 [rowR enc_Tile A_p0 c_p0 p0, rowR encInt A_p1_Cells c_p1_Cells p1.Cells] [] ∧ x4484 = t) ∧ CellsOK [] w1) (fun K => ?_) ?_
  ·
    rcases br_some hx4485 with ⟨h4486, hx4485⟩ | ⟨h4486, hx4485⟩
    ·
      refine WL.setB 7 h4486 rfl ?_
      refine seg 5 [.v (.int .i64 p1.Width), .v (.int .i64 p1.Height), .v (.slice A_p1_Cells p1.Cells.length c_p1_Cells)] [7, 8, 9] [(7, (.bool true)), (8, (.slice A_p0 p0.length c_p0)), (9, (.agg #[(.int .i64 p1.Width), (.int .i64 p1.Height), (.slice A_p1_Cells p1.Cells.length c_p1_Cells)]))] [.cell ⟨g1789, 0, none⟩ (.int .i64 p1.Width), .cell ⟨g1789, 1, none⟩ (.int .i64 p1.Height), .cell ⟨g1789, 2, none⟩ (.slice A_p1_Cells p1.Cells.length c_p1_Cells)] (fun fb => by kernel_rfl) rfl ⟨hS2394.cell 0 rfl 0 rfl, hS2394.cell 0 rfl 1 rfl, hS2394.cell 0 rfl 2 rfl, trivial⟩ ?_
      obtain ⟨t4487, ht4488, hx4485⟩ := bind_some hx4485
      refine WL.call (some 10) 46 #[(.slice A_p0 p0.length c_p0), (.agg #[(.int .i64 p1.Width), (.int .i64 p1.Height), (.slice A_p1_Cells p1.Cells.length c_p1_Cells)])] (fun fb => by kernel_rfl) (ref01_Of_calls _ p0 p1 A_p0 c_p0 A_p1_Cells c_p1_Cells t4487 _ (hS2394.rd 0) (hS2394.rd 1) ht4488) (fun v w4489 hR4490 => ?_)
      obtain ⟨rfl, hk_⟩ := hR4490
      have hS4491 := hS2394.keepN hk_
      refine ⟨trivial, ?_⟩
      refine seg 7 [] [11] [(11, (.bool t4487))] [] (fun fb => by kernel_rfl) rfl trivial ?_
      injection hx4485 with hx4485
      exact WL.to K t4487 [11] rfl ⟨⟨(hS4491.subR [0, 1]).sub [] (by decide), hx4485.symm⟩, trivial⟩
    refine WL.setB 7 h4486 rfl ?_
    refine seg 7 [] [11] [(11, (.bool false))] [] (fun fb => by kernel_rfl) rfl trivial ?_
    injection hx4485 with hx4485
    exact WL.to K false [11] rfl ⟨⟨(hS2394.subR [0, 1]).sub [] (by decide), hx4485.symm⟩, trivial⟩
  rintro y4492 w4494 ⟨⟨hS4495, hq4493⟩, hF4496⟩
  subst hq4493
  refine seg 8 [] [4] [(4, (.bool x4484))] [] (fun fb => by kernel_rfl) rfl trivial ?_
  refine WL.done rfl ?_
  refine WX.next ?_
  refine WC.ret ?_
  injection hf with hf
  subst hf
  exact WX.ret_ [] (.bool x4484) [] (fun fb => by kernel_rfl) trivial ⟨_, rfl, rfl, hS4495.keep⟩
theorem ref01_Torus_calls (k : Nat) (p0 : List Tile) (p1 : Pattern) (A_p0 : Option Addr) (c_p0 : Nat) (A_p1_Cells : Option Addr) (c_p1_Cells : Nat) (r : Bool) (w : World) (hR0 : RO NoS w (rowR enc_Tile A_p0 c_p0 p0)) (hR1 : RO NoS w (rowR encInt A_p1_Cells c_p1_Cells p1.Cells)) (hf : ref01_Torus k p0 p1 = some r) :
    CallsR Tryd.prog 18 #[(.slice A_p0 p0.length c_p0), (.agg #[(.int .i64 p1.Width), (.int .i64 p1.Height), (.slice A_p1_Cells p1.Cells.length c_p1_Cells)])] w (fun v w' => v = (.bool r) ∧ Keeps NoS w w') := by
  have hS : St NoS w w [rowR enc_Tile A_p0 c_p0 p0, rowR encInt A_p1_Cells c_p1_Cells p1.Cells] [] := St.init (ro_cons hR0 (ro_cons hR1 (ro_nil _ _)))
  refine enter 59 Tryd.func18 rfl Tryd.ntmps18 rfl ?_
  unfold ref01_Torus at hf
  refine WC.seq ?_
  refine WC.region ?_
  refine WL.new hS 3 [] (fun g => (.pointer (some ⟨g, 0, none⟩))) (.cells #[(.int .i64 p1.Width), (.int .i64 p1.Height), (.slice A_p1_Cells p1.Cells.length c_p1_Cells)] 35 (0, 0)) [] (fun fb g => by kernel_rfl) trivial (fun g4512 w4513 hS4514 => ?_)
  refine ⟨trivial, ?_⟩
  refine seg 2 [] [0, 3] [(0, (.slice A_p0 p0.length c_p0)), (3, (.pointer (some ⟨g4512, 0, none⟩)))] [] (fun fb => by kernel_rfl) rfl trivial ?_
  refine WL.done rfl ?_
  refine WX.next ?_
  refine WC.seq ?_
  refine WC.seq ?_
  refine WC.region ?_
  refine seg 2 [.v (.int .i64 p1.Width), .v (.int .i64 p1.Height), .v (.slice A_p1_Cells p1.Cells.length c_p1_Cells)] [0, 3, 7, 8] [(0, (.slice A_p0 p0.length c_p0)), (3, (.pointer (some ⟨g4512, 0, none⟩))), (7, (.slice A_p0 p0.length c_p0)), (8, (.agg #[(.int .i64 p1.Width), (.int .i64 p1.Height), (.slice A_p1_Cells p1.Cells.length c_p1_Cells)]))] [.cell ⟨g4512, 0, none⟩ (.int .i64 p1.Width), .cell ⟨g4512, 1, none⟩ (.int .i64 p1.Height), .cell ⟨g4512, 2, none⟩ (.slice A_p1_Cells p1.Cells.length c_p1_Cells)] (fun fb => by kernel_rfl) rfl ⟨hS4514.cell 0 rfl 0 rfl, hS4514.cell 0 rfl 1 rfl, hS4514.cell 0 rfl 2 rfl, trivial⟩ ?_
  obtain ⟨t4516, ht4517, hf⟩ := bind_some hf
  refine WL.call (some 9) 46 #[(.slice A_p0 p0.length c_p0), (.agg #[(.int .i64 p1.Width), (.int .i64 p1.Height), (.slice A_p1_Cells p1.Cells.length c_p1_Cells)])] (fun fb => by kernel_rfl) (ref01_Of_calls _ p0 p1 A_p0 c_p0 A_p1_Cells c_p1_Cells t4516 _ (hS4514.rd 0) (hS4514.rd 1) ht4517) (fun v w4518 hR4519 => ?_)
  obtain ⟨rfl, hk_⟩ := hR4519
  have hS4520 := hS4514.keepN hk_
  refine ⟨trivial, ?_⟩
  refine seg 4 [] [0, 3, 10] [(0, (.slice A_p0 p0.length c_p0)), (3, (.pointer (some ⟨g4512, 0, none⟩))), (10, (.bool (!t4516)))] [] (fun fb => by kernel_rfl) rfl trivial ?_
  refine WL.done rfl ?_
  refine WX.next ?_
  rcases br_some hf with ⟨h4521, hf⟩ | ⟨h4521, hf⟩
  · refine WC.condT2 (fun fb => by kernel_rfl) h4521 ?_
    refine WC.seq ?_
    refine WC.region ?_
    refine seg 1 [] [4] [(4, (.bool false))] [] (fun fb => by kernel_rfl) rfl trivial ?_
    refine WL.done rfl ?_
    refine WX.next ?_
    refine WC.ret ?_
    injection hf with hf
    subst hf
    exact WX.thenR (WX.ret_ [] (.bool false) [] (fun fb => by kernel_rfl) trivial ⟨_, rfl, rfl, hS4520.keep⟩)
  refine WC.condF2 (fun fb => by kernel_rfl) h4521 ?_
  refine WC.skip ?_
  refine WX.next ?_
  refine WC.seq ?_
  refine WC.seq ?_
  refine WC.region ?_
  refine seg 1 [] [0, 3, 5] [(0, (.slice A_p0 p0.length c_p0)), (3, (.pointer (some ⟨g4512, 0, none⟩))), (5, (.int .i64 0))] [] (fun fb => by kernel_rfl) rfl trivial ?_
  refine WL.done rfl ?_
  refine WX.next ?_
  obtain ⟨x4718, hx4719, hf⟩ := bind_some hf
  refine WC.cutN (T := Unit) (fun t => [(0, (.slice A_p0 p0.length c_p0)), (3, (.pointer (some ⟨g4512, 0, none⟩)))]) (fun t w1 => St NoS w w1 [rowR enc_Tile A_p0 c_p0 p0, rowR encInt A_p1_Cells c_p1_Cells p1.Cells] [blk g4512 (.cells #[(.int .i64 p1.Width), (.int .i64 p1.Height), (.slice A_p1_Cells p1.Cells.length c_p1_Cells)] 35 (0, 0))] ∧ x4718 = .inr t) (fun Kx4718 => ?_) ?_
  ·
    refine WC.block ?_
    refine WC.loop (T := Int) (fun t => [(0, (.slice A_p0 p0.length c_p0)), (3, (.pointer (some ⟨g4512, 0, none⟩))), (5, (.int .i64 t))]) (fun n t w1 => St NoS w w1 [rowR enc_Tile A_p0 c_p0 p0, rowR encInt A_p1_Cells c_p1_Cells p1.Cells] [blk g4512 (.cells #[(.int .i64 p1.Width), (.int .i64 p1.Height), (.slice A_p1_Cells p1.Cells.length c_p1_Cells)] 35 (0, 0))] ∧ ref01_Torus.l0 n t p0 p1 = some x4718) k 0 [0, 3, 5] rfl ⟨(hS4520.subR [0, 1]).sub [0] (by decide), hx4719⟩ ?_
    rintro k4720 x4717 w4721 ⟨hS4722, hl4723⟩
    cases k4720 with
    | zero => rw [ref01_Torus.l0] at hl4723; cases hl4723
    | succ k4720 =>
      rw [ref01_Torus.l0] at hl4723
      refine WC.seq ?_
      refine WC.seq ?_
      refine WC.region ?_
      refine seg 4 [.v (.int .i64 p1.Height)] [0, 3, 5, 14] [(0, (.slice A_p0 p0.length c_p0)), (3, (.pointer (some ⟨g4512, 0, none⟩))), (5, (.int .i64 x4717)), (14, (.bool (decide (x4717 < p1.Height))))] [.cell ⟨g4512, 1, none⟩ (.int .i64 p1.Height)] (fun fb => by kernel_rfl) rfl ⟨hS4722.cell 0 rfl 1 rfl, trivial⟩ ?_
      refine WL.done rfl ?_
      refine WX.next ?_
      rcases br_some hl4723 with ⟨h4724, hl4723⟩ | ⟨h4724, hl4723⟩
      · refine WC.condT2 (fun fb => by kernel_rfl) h4724 ?_
        refine WC.skip ?_
        refine WX.next ?_
        refine WC.seq ?_
        refine WC.block ?_
        refine WC.seq ?_
        obtain ⟨x4776, hx4777, hl4723⟩ := bind_some hl4723
        refine WC.cutN (T := Bool) (fun t => [(0, (.slice A_p0 p0.length c_p0)), (3, (.pointer (some ⟨g4512, 0, none⟩))), (5, (.int .i64 x4717)), (34, (.bool t))]) (fun t w1 => St NoS w w1 [rowR enc_Tile A_p0 c_p0 p0, rowR encInt A_p1_Cells c_p1_Cells p1.Cells] [blk g4512 (.cells #[(.int .i64 p1.Width), (.int .i64 p1.Height), (.slice A_p1_Cells p1.Cells.length c_p1_Cells)] 35 (0, 0))] ∧ x4776 = t) (fun Kx4776 => ?_) ?_
        ·
          refine WC.regionD ([(1, ⟨g4512, 0, none⟩, (.int .i64 p1.Width)), (1, ⟨g4512, 1, none⟩, (.int .i64 p1.Height)), (1, ⟨g4512, 2, none⟩, (.slice A_p1_Cells p1.Cells.length c_p1_Cells)), (3, ⟨g4512, 0, none⟩, (.int .i64 p1.Width)), (11, ⟨g4512, 0, none⟩, (.int .i64 p1.Width)), (11, ⟨g4512, 1, none⟩, (.int .i64 p1.Height)), (11, ⟨g4512, 2, none⟩, (.slice A_p1_Cells p1.Cells.length c_p1_Cells))], [0, 1, 2, 3, 4, 5, 7, 8, 10, 11, 12, 14, 15, 17], [[], [], [], [2], [2, 3], [], [1, 2, 3, 4, 5], [0, 1, 2, 3, 4, 5, 6], [0, 1, 2, 3, 4, 5, 6, 7], [0, 1, 2, 3, 4, 5, 6, 7, 8], [], [], [], [1, 2, 3, 4, 5, 6, 11, 12], [1, 2, 3, 4, 5, 6, 10, 11, 12, 13], [1, 2, 3, 4, 5, 6, 10, 11, 12, 13, 14], [1, 2, 3, 4, 5, 6, 10, 11, 12, 13, 14, 15], [0, 1, 2, 3, 4, 5, 6, 7, 8, 9, 10, 11, 12, 13, 14, 15, 16]]) [[0, 1, 2, 3, 4, 5, 10, 11, 12, 6, 7, 8, 9, 13, 14, 15, 16, 17], [0, 1, 2, 3, 4, 5, 10, 11, 12, 6, 7, 8, 13, 14, 15, 9, 16, 17], [0, 1, 2, 3, 4, 5, 10, 11, 12, 6, 7, 8, 13, 14, 15, 16, 9, 17]] (by kernel_rfl) (by kernel_rfl) (NoPanic.seq (NoPanic.block (NoPanic.seq (NoPanic.seq (NoPanic.block (NoPanic.seq (NoPanic.body))))))) ?_
          have hS4779 := hS4722.drew
          revert hS4779
          generalize World.drew w4721 = w4778
          intro hS4779
          refine ⟨⟨hS4779.cell 0 rfl 0 rfl, hS4779.cell 0 rfl 1 rfl, hS4779.cell 0 rfl 2 rfl, hS4779.cell 0 rfl 0 rfl, hS4779.cell 0 rfl 0 rfl, hS4779.cell 0 rfl 1 rfl, hS4779.cell 0 rfl 2 rfl, trivial⟩, forallC ?_ (forallC ?_ (forallC ?_ (forallN)))⟩
          ·
            refine segF 9 [.v (.int .i64 p1.Width), .v (.int .i64 p1.Height), .v (.slice A_p1_Cells p1.Cells.length c_p1_Cells), .v (.int .i64 p1.Width), .v (.int .i64 p1.Width), .v (.int .i64 p1.Height), .v (.slice A_p1_Cells p1.Cells.length c_p1_Cells)] [0, 3, 5, 17, 18, 21, 22, 27, 28, 29] [(0, (.slice A_p0 p0.length c_p0)), (3, (.pointer (some ⟨g4512, 0, none⟩))), (5, (.int .i64 x4717)), (17, (.slice A_p0 p0.length c_p0)), (18, (.agg #[(.int .i64 p1.Width), (.int .i64 p1.Height), (.slice A_p1_Cells p1.Cells.length c_p1_Cells)])), (21, (.int .i64 (w64 (p1.Width - 1)))), (22, (.int .i64 x4717)), (27, (.slice A_p0 p0.length c_p0)), (28, (.agg #[(.int .i64 p1.Width), (.int .i64 p1.Height), (.slice A_p1_Cells p1.Cells.length c_p1_Cells)])), (29, (.int .i64 x4717))] [] [0, 1, 2, 3, 4, 5, 6] [(1, ⟨g4512, 0, none⟩, (.int .i64 p1.Width)), (1, ⟨g4512, 1, none⟩, (.int .i64 p1.Height)), (1, ⟨g4512, 2, none⟩, (.slice A_p1_Cells p1.Cells.length c_p1_Cells)), (3, ⟨g4512, 0, none⟩, (.int .i64 p1.Width)), (11, ⟨g4512, 0, none⟩, (.int .i64 p1.Width)), (11, ⟨g4512, 1, none⟩, (.int .i64 p1.Height)), (11, ⟨g4512, 2, none⟩, (.slice A_p1_Cells p1.Cells.length c_p1_Cells))] (fun fb => by kernel_rfl) rfl trivial rfl ?_
            obtain ⟨t4780, ht4781, hx4777⟩ := bind_some hx4777
            refine WL.call (some 23) 49 #[(.agg #[(.int .i64 p1.Width), (.int .i64 p1.Height), (.slice A_p1_Cells p1.Cells.length c_p1_Cells)]), (.int .i64 (w64 (p1.Width - 1))), (.int .i64 x4717)] (fun fb => by kernel_rfl) (ref01_Cell_calls p1 (w64 (p1.Width - 1)) x4717 A_p1_Cells c_p1_Cells t4780 _ (hS4779.rd 1) ht4781) (fun v w4782 hR4783 => ?_)
            obtain ⟨rfl, hk_⟩ := hR4783
            have hS4784 := hS4779.keepN hk_
            refine ⟨⟨hS4784.cell 0 rfl 0 rfl, hS4784.cell 0 rfl 1 rfl, hS4784.cell 0 rfl 2 rfl, trivial⟩, ?_⟩
            obtain ⟨h4785, hx4777⟩ := as_some hx4777
            refine seg 13 [.v (.int .i64 ((rdD p0 t4780 z_Tile).E))] [0, 3, 5, 26, 27, 28, 29] [(0, (.slice A_p0 p0.length c_p0)), (3, (.pointer (some ⟨g4512, 0, none⟩))), (5, (.int .i64 x4717)), (26, (.int .i64 ((rdD p0 t4780 z_Tile).E))), (27, (.slice A_p0 p0.length c_p0)), (28, (.agg #[(.int .i64 p1.Width), (.int .i64 p1.Height), (.slice A_p1_Cells p1.Cells.length c_p1_Cells)])), (29, (.int .i64 x4717))] [.idx A_p0 t4780 p0.length, .cell (((adr A_p0).add ((t4780).toNat * 4)).add 1) (.int .i64 ((rdD p0 t4780 z_Tile).E))] (fun fb => by kernel_rfl) rfl ⟨rowR.adr (hS4784.rd 0).1 h4785.1 h4785.2, rowR.cell (hS4784.rd 0).1 z_Tile h4785.1 h4785.2 1 rfl, trivial⟩ ?_
            obtain ⟨t4786, ht4787, hx4777⟩ := bind_some hx4777
            refine WL.call (some 30) 49 #[(.agg #[(.int .i64 p1.Width), (.int .i64 p1.Height), (.slice A_p1_Cells p1.Cells.length c_p1_Cells)]), (.int .i64 0), (.int .i64 x4717)] (fun fb => by kernel_rfl) (ref01_Cell_calls p1 0 x4717 A_p1_Cells c_p1_Cells t4786 _ (hS4784.rd 1) ht4787) (fun v w4788 hR4789 => ?_)
            obtain ⟨rfl, hk_⟩ := hR4789
            have hS4790 := hS4784.keepN hk_
            refine ⟨trivial, ?_⟩
            obtain ⟨h4791, hx4777⟩ := as_some hx4777
            refine seg 18 [.v (.int .i64 ((rdD p0 t4786 z_Tile).W))] [0, 3, 5, 34] [(0, (.slice A_p0 p0.length c_p0)), (3, (.pointer (some ⟨g4512, 0, none⟩))), (5, (.int .i64 x4717)), (34, (.bool (((rdD p0 t4780 z_Tile).E) != ((rdD p0 t4786 z_Tile).W))))] [.idx A_p0 t4786 p0.length, .cell (((adr A_p0).add ((t4786).toNat * 4)).add 3) (.int .i64 ((rdD p0 t4786 z_Tile).W))] (fun fb => by kernel_rfl) rfl ⟨rowR.adr (hS4790.rd 0).1 h4791.1 h4791.2, rowR.cell (hS4790.rd 0).1 z_Tile h4791.1 h4791.2 3 rfl, trivial⟩ ?_
            refine WL.done rfl ?_
            injection hx4777 with hx4777
            exact WX.to Kx4776 (((rdD p0 t4780 z_Tile).E) != ((rdD p0 t4786 z_Tile).W)) [0, 3, 5, 34] rfl ⟨(hS4790.subR [0, 1]).sub [0] (by decide), hx4777.symm⟩
          ·
            refine segF 9 [.v (.int .i64 p1.Width), .v (.int .i64 p1.Height), .v (.slice A_p1_Cells p1.Cells.length c_p1_Cells), .v (.int .i64 p1.Width), .v (.int .i64 p1.Width), .v (.int .i64 p1.Height), .v (.slice A_p1_Cells p1.Cells.length c_p1_Cells)] [0, 3, 5, 17, 18, 21, 22, 27, 28, 29] [(0, (.slice A_p0 p0.length c_p0)), (3, (.pointer (some ⟨g4512, 0, none⟩))), (5, (.int .i64 x4717)), (17, (.slice A_p0 p0.length c_p0)), (18, (.agg #[(.int .i64 p1.Width), (.int .i64 p1.Height), (.slice A_p1_Cells p1.Cells.length c_p1_Cells)])), (21, (.int .i64 (w64 (p1.Width - 1)))), (22, (.int .i64 x4717)), (27, (.slice A_p0 p0.length c_p0)), (28, (.agg #[(.int .i64 p1.Width), (.int .i64 p1.Height), (.slice A_p1_Cells p1.Cells.length c_p1_Cells)])), (29, (.int .i64 x4717))] [] [0, 1, 2, 3, 4, 5, 6] [(1, ⟨g4512, 0, none⟩, (.int .i64 p1.Width)), (1, ⟨g4512, 1, none⟩, (.int .i64 p1.Height)), (1, ⟨g4512, 2, none⟩, (.slice A_p1_Cells p1.Cells.length c_p1_Cells)), (3, ⟨g4512, 0, none⟩, (.int .i64 p1.Width)), (11, ⟨g4512, 0, none⟩, (.int .i64 p1.Width)), (11, ⟨g4512, 1, none⟩, (.int .i64 p1.Height)), (11, ⟨g4512, 2, none⟩, (.slice A_p1_Cells p1.Cells.length c_p1_Cells))] (fun fb => by kernel_rfl) rfl trivial rfl ?_
            obtain ⟨t4792, ht4793, hx4777⟩ := bind_some hx4777
            refine WL.call (some 23) 49 #[(.agg #[(.int .i64 p1.Width), (.int .i64 p1.Height), (.slice A_p1_Cells p1.Cells.length c_p1_Cells)]), (.int .i64 (w64 (p1.Width - 1))), (.int .i64 x4717)] (fun fb => by kernel_rfl) (ref01_Cell_calls p1 (w64 (p1.Width - 1)) x4717 A_p1_Cells c_p1_Cells t4792 _ (hS4779.rd 1) ht4793) (fun v w4794 hR4795 => ?_)
            obtain ⟨rfl, hk_⟩ := hR4795
            have hS4796 := hS4779.keepN hk_
            refine ⟨⟨hS4796.cell 0 rfl 0 rfl, hS4796.cell 0 rfl 1 rfl, hS4796.cell 0 rfl 2 rfl, trivial⟩, ?_⟩
            obtain ⟨h4797, hx4777⟩ := as_some hx4777
            refine seg 12 [] [0, 3, 5, 25, 27, 28, 29] [(0, (.slice A_p0 p0.length c_p0)), (3, (.pointer (some ⟨g4512, 0, none⟩))), (5, (.int .i64 x4717)), (25, (.pointer (some (((adr A_p0).add ((t4792).toNat * 4)).add 1)))), (27, (.slice A_p0 p0.length c_p0)), (28, (.agg #[(.int .i64 p1.Width), (.int .i64 p1.Height), (.slice A_p1_Cells p1.Cells.length c_p1_Cells)])), (29, (.int .i64 x4717))] [.idx A_p0 t4792 p0.length] (fun fb => by kernel_rfl) rfl ⟨rowR.adr (hS4796.rd 0).1 h4797.1 h4797.2, trivial⟩ ?_
            obtain ⟨t4798, ht4799, hx4777⟩ := bind_some hx4777
            refine WL.call (some 30) 49 #[(.agg #[(.int .i64 p1.Width), (.int .i64 p1.Height), (.slice A_p1_Cells p1.Cells.length c_p1_Cells)]), (.int .i64 0), (.int .i64 x4717)] (fun fb => by kernel_rfl) (ref01_Cell_calls p1 0 x4717 A_p1_Cells c_p1_Cells t4798 _ (hS4796.rd 1) ht4799) (fun v w4800 hR4801 => ?_)
            obtain ⟨rfl, hk_⟩ := hR4801
            have hS4802 := hS4796.keepN hk_
            refine ⟨trivial, ?_⟩
            obtain ⟨h4803, hx4777⟩ := as_some hx4777
            refine seg 18 [.v (.int .i64 ((rdD p0 t4792 z_Tile).E)), .v (.int .i64 ((rdD p0 t4798 z_Tile).W))] [0, 3, 5, 34] [(0, (.slice A_p0 p0.length c_p0)), (3, (.pointer (some ⟨g4512, 0, none⟩))), (5, (.int .i64 x4717)), (34, (.bool (((rdD p0 t4792 z_Tile).E) != ((rdD p0 t4798 z_Tile).W))))] [.idx A_p0 t4798 p0.length, .cell (((adr A_p0).add ((t4792).toNat * 4)).add 1) (.int .i64 ((rdD p0 t4792 z_Tile).E)), .cell (((adr A_p0).add ((t4798).toNat * 4)).add 3) (.int .i64 ((rdD p0 t4798 z_Tile).W))] (fun fb => by kernel_rfl) rfl ⟨rowR.adr (hS4802.rd 0).1 h4803.1 h4803.2, rowR.cell (hS4802.rd 0).1 z_Tile h4797.1 h4797.2 1 rfl, rowR.cell (hS4802.rd 0).1 z_Tile h4803.1 h4803.2 3 rfl, trivial⟩ ?_
            refine WL.done rfl ?_
            injection hx4777 with hx4777
            exact WX.to Kx4776 (((rdD p0 t4792 z_Tile).E) != ((rdD p0 t4798 z_Tile).W)) [0, 3, 5, 34] rfl ⟨(hS4802.subR [0, 1]).sub [0] (by decide), hx4777.symm⟩
          refine segF 9 [.v (.int .i64 p1.Width), .v (.int .i64 p1.Height), .v (.slice A_p1_Cells p1.Cells.length c_p1_Cells), .v (.int .i64 p1.Width), .v (.int .i64 p1.Width), .v (.int .i64 p1.Height), .v (.slice A_p1_Cells p1.Cells.length c_p1_Cells)] [0, 3, 5, 17, 18, 21, 22, 27, 28, 29] [(0, (.slice A_p0 p0.length c_p0)), (3, (.pointer (some ⟨g4512, 0, none⟩))), (5, (.int .i64 x4717)), (17, (.slice A_p0 p0.length c_p0)), (18, (.agg #[(.int .i64 p1.Width), (.int .i64 p1.Height), (.slice A_p1_Cells p1.Cells.length c_p1_Cells)])), (21, (.int .i64 (w64 (p1.Width - 1)))), (22, (.int .i64 x4717)), (27, (.slice A_p0 p0.length c_p0)), (28, (.agg #[(.int .i64 p1.Width), (.int .i64 p1.Height), (.slice A_p1_Cells p1.Cells.length c_p1_Cells)])), (29, (.int .i64 x4717))] [] [0, 1, 2, 3, 4, 5, 6] [(1, ⟨g4512, 0, none⟩, (.int .i64 p1.Width)), (1, ⟨g4512, 1, none⟩, (.int .i64 p1.Height)), (1, ⟨g4512, 2, none⟩, (.slice A_p1_Cells p1.Cells.length c_p1_Cells)), (3, ⟨g4512, 0, none⟩, (.int .i64 p1.Width)), (11, ⟨g4512, 0, none⟩, (.int .i64 p1.Width)), (11, ⟨g4512, 1, none⟩, (.int .i64 p1.Height)), (11, ⟨g4512, 2, none⟩, (.slice A_p1_Cells p1.Cells.length c_p1_Cells))] (fun fb => by kernel_rfl) rfl trivial rfl ?_
          obtain ⟨t4804, ht4805, hx4777⟩ := bind_some hx4777
          refine WL.call (some 23) 49 #[(.agg #[(.int .i64 p1.Width), (.int .i64 p1.Height), (.slice A_p1_Cells p1.Cells.length c_p1_Cells)]), (.int .i64 (w64 (p1.Width - 1))), (.int .i64 x4717)] (fun fb => by kernel_rfl) (ref01_Cell_calls p1 (w64 (p1.Width - 1)) x4717 A_p1_Cells c_p1_Cells t4804 _ (hS4779.rd 1) ht4805) (fun v w4806 hR4807 => ?_)
          obtain ⟨rfl, hk_⟩ := hR4807
          have hS4808 := hS4779.keepN hk_
          refine ⟨⟨hS4808.cell 0 rfl 0 rfl, hS4808.cell 0 rfl 1 rfl, hS4808.cell 0 rfl 2 rfl, trivial⟩, ?_⟩
          obtain ⟨h4809, hx4777⟩ := as_some hx4777
          refine seg 12 [] [0, 3, 5, 25, 27, 28, 29] [(0, (.slice A_p0 p0.length c_p0)), (3, (.pointer (some ⟨g4512, 0, none⟩))), (5, (.int .i64 x4717)), (25, (.pointer (some (((adr A_p0).add ((t4804).toNat * 4)).add 1)))), (27, (.slice A_p0 p0.length c_p0)), (28, (.agg #[(.int .i64 p1.Width), (.int .i64 p1.Height), (.slice A_p1_Cells p1.Cells.length c_p1_Cells)])), (29, (.int .i64 x4717))] [.idx A_p0 t4804 p0.length] (fun fb => by kernel_rfl) rfl ⟨rowR.adr (hS4808.rd 0).1 h4809.1 h4809.2, trivial⟩ ?_
          obtain ⟨t4810, ht4811, hx4777⟩ := bind_some hx4777
          refine WL.call (some 30) 49 #[(.agg #[(.int .i64 p1.Width), (.int .i64 p1.Height), (.slice A_p1_Cells p1.Cells.length c_p1_Cells)]), (.int .i64 0), (.int .i64 x4717)] (fun fb => by kernel_rfl) (ref01_Cell_calls p1 0 x4717 A_p1_Cells c_p1_Cells t4810 _ (hS4808.rd 1) ht4811) (fun v w4812 hR4813 => ?_)
          obtain ⟨rfl, hk_⟩ := hR4813
          have hS4814 := hS4808.keepN hk_
          refine ⟨trivial, ?_⟩
          obtain ⟨h4815, hx4777⟩ := as_some hx4777
          refine seg 18 [.v (.int .i64 ((rdD p0 t4810 z_Tile).W)), .v (.int .i64 ((rdD p0 t4804 z_Tile).E))] [0, 3, 5, 34] [(0, (.slice A_p0 p0.length c_p0)), (3, (.pointer (some ⟨g4512, 0, none⟩))), (5, (.int .i64 x4717)), (34, (.bool (((rdD p0 t4804 z_Tile).E) != ((rdD p0 t4810 z_Tile).W))))] [.idx A_p0 t4810 p0.length, .cell (((adr A_p0).add ((t4810).toNat * 4)).add 3) (.int .i64 ((rdD p0 t4810 z_Tile).W)), .cell (((adr A_p0).add ((t4804).toNat * 4)).add 1) (.int .i64 ((rdD p0 t4804 z_Tile).E))] (fun fb => by kernel_rfl) rfl ⟨rowR.adr (hS4814.rd 0).1 h4815.1 h4815.2, rowR.cell (hS4814.rd 0).1 z_Tile h4815.1 h4815.2 3 rfl, rowR.cell (hS4814.rd 0).1 z_Tile h4809.1 h4809.2 1 rfl, trivial⟩ ?_
          refine WL.done rfl ?_
          injection hx4777 with hx4777
          exact WX.to Kx4776 (((rdD p0 t4804 z_Tile).E) != ((rdD p0 t4810 z_Tile).W)) [0, 3, 5, 34] rfl ⟨(hS4814.subR [0, 1]).sub [0] (by decide), hx4777.symm⟩
        rintro y4819 w4816 ⟨hS4817, hq4818⟩
        subst hq4818
        refine WX.next ?_
        rcases br_some hl4723 with ⟨h4820, hl4723⟩ | ⟨h4820, hl4723⟩
        · refine WC.condT2 (fun fb => by kernel_rfl) h4820 ?_
          refine WC.seq ?_
          refine WC.region ?_
          refine seg 1 [] [4] [(4, (.bool false))] [] (fun fb => by kernel_rfl) rfl trivial ?_
          refine WL.done rfl ?_
          refine WX.next ?_
          refine WC.ret ?_
          injection hl4723 with hl4723
          subst hl4723
          injection hf with hf
          subst hf
          exact WX.blockR (WX.thenR (WX.thenR (WX.blockR (WX.thenR (WX.ret_ [] (.bool false) [] (fun fb => by kernel_rfl) trivial ⟨_, rfl, rfl, hS4817.keep⟩)))))
        refine WC.condF2 (fun fb => by kernel_rfl) h4820 ?_
        refine WC.skip ?_
        refine WX.blockN (WX.next ?_)
        refine WC.region ?_
        refine seg 3 [] [0, 3, 5] [(0, (.slice A_p0 p0.length c_p0)), (3, (.pointer (some ⟨g4512, 0, none⟩))), (5, (.int .i64 (w64 (x4717 + 1))))] [] (fun fb => by kernel_rfl) rfl trivial ?_
        refine WL.done rfl ?_
        exact WX.again k4720 (Nat.lt_succ_self _) (w64 (x4717 + 1)) [0, 3, 5] rfl ⟨(hS4817.subR [0, 1]).sub [0] (by decide), hl4723⟩
      refine WC.condF2 (fun fb => by kernel_rfl) h4724 ?_
      refine WC.exit ?_
      injection hl4723 with hl4723
      exact WX.thenX (WX.thenX (WX.blockHere (WX.to Kx4718 () [0, 3] rfl ⟨(hS4722.subR [0, 1]).sub [0] (by decide), hl4723.symm⟩)))
  rintro y4824 w4821 ⟨hS4822, hq4823⟩
  subst hq4823
  have hf := sum_inr hf
  refine WX.next ?_
  refine WC.seq ?_
  refine WC.seq ?_
  refine WC.region ?_
  refine seg 1 [] [0, 3, 6] [(0, (.slice A_p0 p0.length c_p0)), (3, (.pointer (some ⟨g4512, 0, none⟩))), (6, (.int .i64 0))] [] (fun fb => by kernel_rfl) rfl trivial ?_
  refine WL.done rfl ?_
  refine WX.next ?_
  obtain ⟨x5022, hx5023, hf⟩ := bind_some hf
  refine WC.cutN (T := Unit) (fun t => []) (fun t w1 => St NoS w w1 [rowR enc_Tile A_p0 c_p0 p0, rowR encInt A_p1_Cells c_p1_Cells p1.Cells] [] ∧ x5022 = .inr t) (fun Kx5022 => ?_) ?_
  ·
    refine WC.block ?_
    refine WC.loop (T := Int) (fun t => [(0, (.slice A_p0 p0.length c_p0)), (3, (.pointer (some ⟨g4512, 0, none⟩))), (6, (.int .i64 t))]) (fun n t w1 => St NoS w w1 [rowR enc_Tile A_p0 c_p0 p0, rowR encInt A_p1_Cells c_p1_Cells p1.Cells] [blk g4512 (.cells #[(.int .i64 p1.Width), (.int .i64 p1.Height), (.slice A_p1_Cells p1.Cells.length c_p1_Cells)] 35 (0, 0))] ∧ ref01_Torus.l1 n t p0 p1 = some x5022) k 0 [0, 3, 6] rfl ⟨(hS4822.subR [0, 1]).sub [0] (by decide), hx5023⟩ ?_
    rintro k5024 x5021 w5025 ⟨hS5026, hl5027⟩
    cases k5024 with
    | zero => rw [ref01_Torus.l1] at hl5027; cases hl5027
    | succ k5024 =>
      rw [ref01_Torus.l1] at hl5027
      refine WC.seq ?_
      refine WC.seq ?_
      refine WC.region ?_
      refine seg 4 [.v (.int .i64 p1.Width)] [0, 3, 6, 38] [(0, (.slice A_p0 p0.length c_p0)), (3, (.pointer (some ⟨g4512, 0, none⟩))), (6, (.int .i64 x5021)), (38, (.bool (decide (x5021 < p1.Width))))] [.cell ⟨g4512, 0, none⟩ (.int .i64 p1.Width)] (fun fb => by kernel_rfl) rfl ⟨hS5026.cell 0 rfl 0 rfl, trivial⟩ ?_
      refine WL.done rfl ?_
      refine WX.next ?_
      rcases br_some hl5027 with ⟨h5028, hl5027⟩ | ⟨h5028, hl5027⟩
      · refine WC.condT2 (fun fb => by kernel_rfl) h5028 ?_
        refine WC.skip ?_
        refine WX.next ?_
        refine WC.seq ?_
        refine WC.block ?_
        refine WC.seq ?_
        obtain ⟨x5080, hx5081, hl5027⟩ := bind_some hl5027
        refine WC.cutN (T := Bool) (fun t => [(0, (.slice A_p0 p0.length c_p0)), (3, (.pointer (some ⟨g4512, 0, none⟩))), (6, (.int .i64 x5021)), (58, (.bool t))]) (fun t w1 => St NoS w w1 [rowR enc_Tile A_p0 c_p0 p0, rowR encInt A_p1_Cells c_p1_Cells p1.Cells] [blk g4512 (.cells #[(.int .i64 p1.Width), (.int .i64 p1.Height), (.slice A_p1_Cells p1.Cells.length c_p1_Cells)] 35 (0, 0))] ∧ x5080 = t) (fun Kx5080 => ?_) ?_
        ·
          refine WC.regionD ([(1, ⟨g4512, 0, none⟩, (.int .i64 p1.Width)), (1, ⟨g4512, 1, none⟩, (.int .i64 p1.Height)), (1, ⟨g4512, 2, none⟩, (.slice A_p1_Cells p1.Cells.length c_p1_Cells)), (4, ⟨g4512, 1, none⟩, (.int .i64 p1.Height)), (11, ⟨g4512, 0, none⟩, (.int .i64 p1.Width)), (11, ⟨g4512, 1, none⟩, (.int .i64 p1.Height)), (11, ⟨g4512, 2, none⟩, (.slice A_p1_Cells p1.Cells.length c_p1_Cells))], [0, 1, 2, 3, 4, 5, 7, 8, 10, 11, 12, 14, 15, 17], [[], [], [], [], [3], [3, 4], [1, 2, 3, 4, 5], [0, 1, 2, 3, 4, 5, 6], [0, 1, 2, 3, 4, 5, 6, 7], [0, 1, 2, 3, 4, 5, 6, 7, 8], [], [], [], [1, 2, 3, 4, 5, 6, 11, 12], [1, 2, 3, 4, 5, 6, 10, 11, 12, 13], [1, 2, 3, 4, 5, 6, 10, 11, 12, 13, 14], [1, 2, 3, 4, 5, 6, 10, 11, 12, 13, 14, 15], [0, 1, 2, 3, 4, 5, 6, 7, 8, 9, 10, 11, 12, 13, 14, 15, 16]]) [[0, 1, 2, 3, 4, 5, 10, 11, 12, 6, 7, 8, 9, 13, 14, 15, 16, 17], [0, 1, 2, 3, 4, 5, 10, 11, 12, 6, 7, 8, 13, 14, 15, 9, 16, 17], [0, 1, 2, 3, 4, 5, 10, 11, 12, 6, 7, 8, 13, 14, 15, 16, 9, 17]] (by kernel_rfl) (by kernel_rfl) (NoPanic.seq (NoPanic.block (NoPanic.seq (NoPanic.seq (NoPanic.block (NoPanic.seq (NoPanic.body))))))) ?_
          have hS5083 := hS5026.drew
          revert hS5083
          generalize World.drew w5025 = w5082
          intro hS5083
          refine ⟨⟨hS5083.cell 0 rfl 0 rfl, hS5083.cell 0 rfl 1 rfl, hS5083.cell 0 rfl 2 rfl, hS5083.cell 0 rfl 1 rfl, hS5083.cell 0 rfl 0 rfl, hS5083.cell 0 rfl 1 rfl, hS5083.cell 0 rfl 2 rfl, trivial⟩, forallC ?_ (forallC ?_ (forallC ?_ (forallN)))⟩
          ·
            refine segF 9 [.v (.int .i64 p1.Width), .v (.int .i64 p1.Height), .v (.slice A_p1_Cells p1.Cells.length c_p1_Cells), .v (.int .i64 p1.Height), .v (.int .i64 p1.Width), .v (.int .i64 p1.Height), .v (.slice A_p1_Cells p1.Cells.length c_p1_Cells)] [0, 3, 6, 41, 42, 43, 46, 51, 52, 53] [(0, (.slice A_p0 p0.length c_p0)), (3, (.pointer (some ⟨g4512, 0, none⟩))), (6, (.int .i64 x5021)), (41, (.slice A_p0 p0.length c_p0)), (42, (.agg #[(.int .i64 p1.Width), (.int .i64 p1.Height), (.slice A_p1_Cells p1.Cells.length c_p1_Cells)])), (43, (.int .i64 x5021)), (46, (.int .i64 (w64 (p1.Height - 1)))), (51, (.slice A_p0 p0.length c_p0)), (52, (.agg #[(.int .i64 p1.Width), (.int .i64 p1.Height), (.slice A_p1_Cells p1.Cells.length c_p1_Cells)])), (53, (.int .i64 x5021))] [] [0, 1, 2, 3, 4, 5, 6] [(1, ⟨g4512, 0, none⟩, (.int .i64 p1.Width)), (1, ⟨g4512, 1, none⟩, (.int .i64 p1.Height)), (1, ⟨g4512, 2, none⟩, (.slice A_p1_Cells p1.Cells.length c_p1_Cells)), (4, ⟨g4512, 1, none⟩, (.int .i64 p1.Height)), (11, ⟨g4512, 0, none⟩, (.int .i64 p1.Width)), (11, ⟨g4512, 1, none⟩, (.int .i64 p1.Height)), (11, ⟨g4512, 2, none⟩, (.slice A_p1_Cells p1.Cells.length c_p1_Cells))] (fun fb => by kernel_rfl) rfl trivial rfl ?_
            obtain ⟨t5084, ht5085, hx5081⟩ := bind_some hx5081
            refine WL.call (some 47) 49 #[(.agg #[(.int .i64 p1.Width), (.int .i64 p1.Height), (.slice A_p1_Cells p1.Cells.length c_p1_Cells)]), (.int .i64 x5021), (.int .i64 (w64 (p1.Height - 1)))] (fun fb => by kernel_rfl) (ref01_Cell_calls p1 x5021 (w64 (p1.Height - 1)) A_p1_Cells c_p1_Cells t5084 _ (hS5083.rd 1) ht5085) (fun v w5086 hR5087 => ?_)
            obtain ⟨rfl, hk_⟩ := hR5087
            have hS5088 := hS5083.keepN hk_
            refine ⟨⟨hS5088.cell 0 rfl 0 rfl, hS5088.cell 0 rfl 1 rfl, hS5088.cell 0 rfl 2 rfl, trivial⟩, ?_⟩
            obtain ⟨h5089, hx5081⟩ := as_some hx5081
            refine seg 13 [.v (.int .i64 ((rdD p0 t5084 z_Tile).N))] [0, 3, 6, 50, 51, 52, 53] [(0, (.slice A_p0 p0.length c_p0)), (3, (.pointer (some ⟨g4512, 0, none⟩))), (6, (.int .i64 x5021)), (50, (.int .i64 ((rdD p0 t5084 z_Tile).N))), (51, (.slice A_p0 p0.length c_p0)), (52, (.agg #[(.int .i64 p1.Width), (.int .i64 p1.Height), (.slice A_p1_Cells p1.Cells.length c_p1_Cells)])), (53, (.int .i64 x5021))] [.idx A_p0 t5084 p0.length, .cell ((adr A_p0).add ((t5084).toNat * 4)) (.int .i64 ((rdD p0 t5084 z_Tile).N))] (fun fb => by kernel_rfl) rfl ⟨rowR.adr (hS5088.rd 0).1 h5089.1 h5089.2, rowR.cell (hS5088.rd 0).1 z_Tile h5089.1 h5089.2 0 rfl, trivial⟩ ?_
            obtain ⟨t5090, ht5091, hx5081⟩ := bind_some hx5081
            refine WL.call (some 54) 49 #[(.agg #[(.int .i64 p1.Width), (.int .i64 p1.Height), (.slice A_p1_Cells p1.Cells.length c_p1_Cells)]), (.int .i64 x5021), (.int .i64 0)] (fun fb => by kernel_rfl) (ref01_Cell_calls p1 x5021 0 A_p1_Cells c_p1_Cells t5090 _ (hS5088.rd 1) ht5091) (fun v w5092 hR5093 => ?_)
            obtain ⟨rfl, hk_⟩ := hR5093
            have hS5094 := hS5088.keepN hk_
            refine ⟨trivial, ?_⟩
            obtain ⟨h5095, hx5081⟩ := as_some hx5081
            refine seg 18 [.v (.int .i64 ((rdD p0 t5090 z_Tile).S))] [0, 3, 6, 58] [(0, (.slice A_p0 p0.length c_p0)), (3, (.pointer (some ⟨g4512, 0, none⟩))), (6, (.int .i64 x5021)), (58, (.bool (((rdD p0 t5084 z_Tile).N) != ((rdD p0 t5090 z_Tile).S))))] [.idx A_p0 t5090 p0.length, .cell (((adr A_p0).add ((t5090).toNat * 4)).add 2) (.int .i64 ((rdD p0 t5090 z_Tile).S))] (fun fb => by kernel_rfl) rfl ⟨rowR.adr (hS5094.rd 0).1 h5095.1 h5095.2, rowR.cell (hS5094.rd 0).1 z_Tile h5095.1 h5095.2 2 rfl, trivial⟩ ?_
            refine WL.done rfl ?_
            injection hx5081 with hx5081
            exact WX.to Kx5080 (((rdD p0 t5084 z_Tile).N) != ((rdD p0 t5090 z_Tile).S)) [0, 3, 6, 58] rfl ⟨(hS5094.subR [0, 1]).sub [0] (by decide), hx5081.symm⟩
          ·
            refine segF 9 [.v (.int .i64 p1.Width), .v (.int .i64 p1.Height), .v (.slice A_p1_Cells p1.Cells.length c_p1_Cells), .v (.int .i64 p1.Height), .v (.int .i64 p1.Width), .v (.int .i64 p1.Height), .v (.slice A_p1_Cells p1.Cells.length c_p1_Cells)] [0, 3, 6, 41, 42, 43, 46, 51, 52, 53] [(0, (.slice A_p0 p0.length c_p0)), (3, (.pointer (some ⟨g4512, 0, none⟩))), (6, (.int .i64 x5021)), (41, (.slice A_p0 p0.length c_p0)), (42, (.agg #[(.int .i64 p1.Width), (.int .i64 p1.Height), (.slice A_p1_Cells p1.Cells.length c_p1_Cells)])), (43, (.int .i64 x5021)), (46, (.int .i64 (w64 (p1.Height - 1)))), (51, (.slice A_p0 p0.length c_p0)), (52, (.agg #[(.int .i64 p1.Width), (.int .i64 p1.Height), (.slice A_p1_Cells p1.Cells.length c_p1_Cells)])), (53, (.int .i64 x5021))] [] [0, 1, 2, 3, 4, 5, 6] [(1, ⟨g4512, 0, none⟩, (.int .i64 p1.Width)), (1, ⟨g4512, 1, none⟩, (.int .i64 p1.Height)), (1, ⟨g4512, 2, none⟩, (.slice A_p1_Cells p1.Cells.length c_p1_Cells)), (4, ⟨g4512, 1, none⟩, (.int .i64 p1.Height)), (11, ⟨g4512, 0, none⟩, (.int .i64 p1.Width)), (11, ⟨g4512, 1, none⟩, (.int .i64 p1.Height)), (11, ⟨g4512, 2, none⟩, (.slice A_p1_Cells p1.Cells.length c_p1_Cells))] (fun fb => by kernel_rfl) rfl trivial rfl ?_
            obtain ⟨t5096, ht5097, hx5081⟩ := bind_some hx5081
            refine WL.call (some 47) 49 #[(.agg #[(.int .i64 p1.Width), (.int .i64 p1.Height), (.slice A_p1_Cells p1.Cells.length c_p1_Cells)]), (.int .i64 x5021), (.int .i64 (w64 (p1.Height - 1)))] (fun fb => by kernel_rfl) (ref01_Cell_calls p1 x5021 (w64 (p1.Height - 1)) A_p1_Cells c_p1_Cells t5096 _ (hS5083.rd 1) ht5097) (fun v w5098 hR5099 => ?_)
            obtain ⟨rfl, hk_⟩ := hR5099
            have hS5100 := hS5083.keepN hk_
            refine ⟨⟨hS5100.cell 0 rfl 0 rfl, hS5100.cell 0 rfl 1 rfl, hS5100.cell 0 rfl 2 rfl, trivial⟩, ?_⟩
            obtain ⟨h5101, hx5081⟩ := as_some hx5081
            refine seg 12 [] [0, 3, 6, 49, 51, 52, 53] [(0, (.slice A_p0 p0.length c_p0)), (3, (.pointer (some ⟨g4512, 0, none⟩))), (6, (.int .i64 x5021)), (49, (.pointer (some ((adr A_p0).add ((t5096).toNat * 4))))), (51, (.slice A_p0 p0.length c_p0)), (52, (.agg #[(.int .i64 p1.Width), (.int .i64 p1.Height), (.slice A_p1_Cells p1.Cells.length c_p1_Cells)])), (53, (.int .i64 x5021))] [.idx A_p0 t5096 p0.length] (fun fb => by kernel_rfl) rfl ⟨rowR.adr (hS5100.rd 0).1 h5101.1 h5101.2, trivial⟩ ?_
            obtain ⟨t5102, ht5103, hx5081⟩ := bind_some hx5081
            refine WL.call (some 54) 49 #[(.agg #[(.int .i64 p1.Width), (.int .i64 p1.Height), (.slice A_p1_Cells p1.Cells.length c_p1_Cells)]), (.int .i64 x5021), (.int .i64 0)] (fun fb => by kernel_rfl) (ref01_Cell_calls p1 x5021 0 A_p1_Cells c_p1_Cells t5102 _ (hS5100.rd 1) ht5103) (fun v w5104 hR5105 => ?_)
            obtain ⟨rfl, hk_⟩ := hR5105
            have hS5106 := hS5100.keepN hk_
            refine ⟨trivial, ?_⟩
            obtain ⟨h5107, hx5081⟩ := as_some hx5081
            refine seg 18 [.v (.int .i64 ((rdD p0 t5096 z_Tile).N)), .v (.int .i64 ((rdD p0 t5102 z_Tile).S))] [0, 3, 6, 58] [(0, (.slice A_p0 p0.length c_p0)), (3, (.pointer (some ⟨g4512, 0, none⟩))), (6, (.int .i64 x5021)), (58, (.bool (((rdD p0 t5096 z_Tile).N) != ((rdD p0 t5102 z_Tile).S))))] [.idx A_p0 t5102 p0.length, .cell ((adr A_p0).add ((t5096).toNat * 4)) (.int .i64 ((rdD p0 t5096 z_Tile).N)), .cell (((adr A_p0).add ((t5102).toNat * 4)).add 2) (.int .i64 ((rdD p0 t5102 z_Tile).S))] (fun fb => by kernel_rfl) rfl ⟨rowR.adr (hS5106.rd 0).1 h5107.1 h5107.2, rowR.cell (hS5106.rd 0).1 z_Tile h5101.1 h5101.2 0 rfl, rowR.cell (hS5106.rd 0).1 z_Tile h5107.1 h5107.2 2 rfl, trivial⟩ ?_
            refine WL.done rfl ?_
            injection hx5081 with hx5081
            exact WX.to Kx5080 (((rdD p0 t5096 z_Tile).N) != ((rdD p0 t5102 z_Tile).S)) [0, 3, 6, 58] rfl ⟨(hS5106.subR [0, 1]).sub [0] (by decide), hx5081.symm⟩
          refine segF 9 [.v (.int .i64 p1.Width), .v (.int .i64 p1.Height), .v (.slice A_p1_Cells p1.Cells.length c_p1_Cells), .v (.int .i64 p1.Height), .v (.int .i64 p1.Width), .v (.int .i64 p1.Height), .v (.slice A_p1_Cells p1.Cells.length c_p1_Cells)] [0, 3, 6, 41, 42, 43, 46, 51, 52, 53] [(0, (.slice A_p0 p0.length c_p0)), (3, (.pointer (some ⟨g4512, 0, none⟩))), (6, (.int .i64 x5021)), (41, (.slice A_p0 p0.length c_p0)), (42, (.agg #[(.int .i64 p1.Width), (.int .i64 p1.Height), (.slice A_p1_Cells p1.Cells.length c_p1_Cells)])), (43, (.int .i64 x5021)), (46, (.int .i64 (w64 (p1.Height - 1)))), (51, (.slice A_p0 p0.length c_p0)), (52, (.agg #[(.int .i64 p1.Width), (.int .i64 p1.Height), (.slice A_p1_Cells p1.Cells.length c_p1_Cells)])), (53, (.int .i64 x5021))] [] [0, 1, 2, 3, 4, 5, 6] [(1, ⟨g4512, 0, none⟩, (.int .i64 p1.Width)), (1, ⟨g4512, 1, none⟩, (.int .i64 p1.Height)), (1, ⟨g4512, 2, none⟩, (.slice A_p1_Cells p1.Cells.length c_p1_Cells)), (4, ⟨g4512, 1, none⟩, (.int .i64 p1.Height)), (11, ⟨g4512, 0, none⟩, (.int .i64 p1.Width)), (11, ⟨g4512, 1, none⟩, (.int .i64 p1.Height)), (11, ⟨g4512, 2, none⟩, (.slice A_p1_Cells p1.Cells.length c_p1_Cells))] (fun fb => by kernel_rfl) rfl trivial rfl ?_
          obtain ⟨t5108, ht5109, hx5081⟩ := bind_some hx5081
          refine WL.call (some 47) 49 #[(.agg #[(.int .i64 p1.Width), (.int .i64 p1.Height), (.slice A_p1_Cells p1.Cells.length c_p1_Cells)]), (.int .i64 x5021), (.int .i64 (w64 (p1.Height - 1)))] (fun fb => by kernel_rfl) (ref01_Cell_calls p1 x5021 (w64 (p1.Height - 1)) A_p1_Cells c_p1_Cells t5108 _ (hS5083.rd 1) ht5109) (fun v w5110 hR5111 => ?_)
          obtain ⟨rfl, hk_⟩ := hR5111
          have hS5112 := hS5083.keepN hk_
          refine ⟨⟨hS5112.cell 0 rfl 0 rfl, hS5112.cell 0 rfl 1 rfl, hS5112.cell 0 rfl 2 rfl, trivial⟩, ?_⟩
          obtain ⟨h5113, hx5081⟩ := as_some hx5081
          refine seg 12 [] [0, 3, 6, 49, 51, 52, 53] [(0, (.slice A_p0 p0.length c_p0)), (3, (.pointer (some ⟨g4512, 0, none⟩))), (6, (.int .i64 x5021)), (49, (.pointer (some ((adr A_p0).add ((t5108).toNat * 4))))), (51, (.slice A_p0 p0.length c_p0)), (52, (.agg #[(.int .i64 p1.Width), (.int .i64 p1.Height), (.slice A_p1_Cells p1.Cells.length c_p1_Cells)])), (53, (.int .i64 x5021))] [.idx A_p0 t5108 p0.length] (fun fb => by kernel_rfl) rfl ⟨rowR.adr (hS5112.rd 0).1 h5113.1 h5113.2, trivial⟩ ?_
          obtain ⟨t5114, ht5115, hx5081⟩ := bind_some hx5081
          refine WL.call (some 54) 49 #[(.agg #[(.int .i64 p1.Width), (.int .i64 p1.Height), (.slice A_p1_Cells p1.Cells.length c_p1_Cells)]), (.int .i64 x5021), (.int .i64 0)] (fun fb => by kernel_rfl) (ref01_Cell_calls p1 x5021 0 A_p1_Cells c_p1_Cells t5114 _ (hS5112.rd 1) ht5115) (fun v w5116 hR5117 => ?_)
          obtain ⟨rfl, hk_⟩ := hR5117
          have hS5118 := hS5112.keepN hk_
          refine ⟨trivial, ?_⟩
          obtain ⟨h5119, hx5081⟩ := as_some hx5081
          refine seg 18 [.v (.int .i64 ((rdD p0 t5114 z_Tile).S)), .v (.int .i64 ((rdD p0 t5108 z_Tile).N))] [0, 3, 6, 58] [(0, (.slice A_p0 p0.length c_p0)), (3, (.pointer (some ⟨g4512, 0, none⟩))), (6, (.int .i64 x5021)), (58, (.bool (((rdD p0 t5108 z_Tile).N) != ((rdD p0 t5114 z_Tile).S))))] [.idx A_p0 t5114 p0.length, .cell (((adr A_p0).add ((t5114).toNat * 4)).add 2) (.int .i64 ((rdD p0 t5114 z_Tile).S)), .cell ((adr A_p0).add ((t5108).toNat * 4)) (.int .i64 ((rdD p0 t5108 z_Tile).N))] (fun fb => by kernel_rfl) rfl ⟨rowR.adr (hS5118.rd 0).1 h5119.1 h5119.2, rowR.cell (hS5118.rd 0).1 z_Tile h5119.1 h5119.2 2 rfl, rowR.cell (hS5118.rd 0).1 z_Tile h5113.1 h5113.2 0 rfl, trivial⟩ ?_
          refine WL.done rfl ?_
          injection hx5081 with hx5081
          exact WX.to Kx5080 (((rdD p0 t5108 z_Tile).N) != ((rdD p0 t5114 z_Tile).S)) [0, 3, 6, 58] rfl ⟨(hS5118.subR [0, 1]).sub [0] (by decide), hx5081.symm⟩
        rintro y5123 w5120 ⟨hS5121, hq5122⟩
        subst hq5122
        refine WX.next ?_
        rcases br_some hl5027 with ⟨h5124, hl5027⟩ | ⟨h5124, hl5027⟩
        · refine WC.condT2 (fun fb => by kernel_rfl) h5124 ?_
          refine WC.seq ?_
          refine WC.region ?_
          refine seg 1 [] [4] [(4, (.bool false))] [] (fun fb => by kernel_rfl) rfl trivial ?_
          refine WL.done rfl ?_
          refine WX.next ?_
          refine WC.ret ?_
          injection hl5027 with hl5027
          subst hl5027
          injection hf with hf
          subst hf
          exact WX.blockR (WX.thenR (WX.thenR (WX.blockR (WX.thenR (WX.ret_ [] (.bool false) [] (fun fb => by kernel_rfl) trivial ⟨_, rfl, rfl, hS5121.keep⟩)))))
        refine WC.condF2 (fun fb => by kernel_rfl) h5124 ?_
        refine WC.skip ?_
        refine WX.blockN (WX.next ?_)
        refine WC.region ?_
        refine seg 3 [] [0, 3, 6] [(0, (.slice A_p0 p0.length c_p0)), (3, (.pointer (some ⟨g4512, 0, none⟩))), (6, (.int .i64 (w64 (x5021 + 1))))] [] (fun fb => by kernel_rfl) rfl trivial ?_
        refine WL.done rfl ?_
        exact WX.again k5024 (Nat.lt_succ_self _) (w64 (x5021 + 1)) [0, 3, 6] rfl ⟨(hS5121.subR [0, 1]).sub [0] (by decide), hl5027⟩
      refine WC.condF2 (fun fb => by kernel_rfl) h5028 ?_
      refine WC.exit ?_
      injection hl5027 with hl5027
      exact WX.thenX (WX.thenX (WX.blockHere (WX.to Kx5022 () [] rfl ⟨(hS5026.subR [0, 1]).sub [] (by decide), hl5027.symm⟩)))
  rintro y5128 w5125 ⟨hS5126, hq5127⟩
  subst hq5127
  have hf := sum_inr hf
  refine WX.next ?_
  refine WC.seq ?_
  refine WC.region ?_
  refine seg 1 [] [4] [(4, (.bool true))] [] (fun fb => by kernel_rfl) rfl trivial ?_
  refine WL.done rfl ?_
  refine WX.next ?_
  refine WC.ret ?_
  injection hf with hf
  subst hf
  exact WX.ret_ [] (.bool true) [] (fun fb => by kernel_rfl) trivial ⟨_, rfl, rfl, hS5126.keep⟩
theorem law01_TileFits_calls (k : Nat) (p0 : List Tile) (p1 : Pattern) (A_p0 : Option Addr) (c_p0 : Nat) (A_p1_Cells : Option Addr) (c_p1_Cells : Nat) (mG : Int) (r : Bool) (w : World) (hR0 : RO NoS w (rowR enc_Tile A_p0 c_p0 p0)) (hR1 : RO NoS w (rowR encInt A_p1_Cells c_p1_Cells p1.Cells)) (hR2 : RO NoS w (cel ⟨2, 0, none⟩ (.int .i64 mG))) (hf : law01_TileFits k p0 p1 = some r) :
    CallsR Tryd.prog 4 #[(.slice A_p0 p0.length c_p0), (.agg #[(.int .i64 p1.Width), (.int .i64 p1.Height), (.slice A_p1_Cells p1.Cells.length c_p1_Cells)])] w (fun v w' => v = (.bool r) ∧ Keeps NoS w w') := by
  have hS : St NoS w w [rowR enc_Tile A_p0 c_p0 p0, rowR encInt A_p1_Cells c_p1_Cells p1.Cells, cel ⟨2, 0, none⟩ (.int .i64 mG)] [] := St.init (ro_cons hR0 (ro_cons hR1 (ro_cons hR2 (ro_nil _ _))))
  refine enter 37 Tryd.func4 rfl Tryd.ntmps4 rfl ?_
  unfold law01_TileFits at hf
  refine WC.seq ?_
  refine WC.region ?_
  refine WL.new hS 3 [] (fun g => (.pointer (some ⟨g, 0, none⟩))) (.cells #[(.int .i64 p1.Width), (.int .i64 p1.Height), (.slice A_p1_Cells p1.Cells.length c_p1_Cells)] 35 (0, 0)) [] (fun fb g => by kernel_rfl) trivial (fun g1 w2 hS3 => ?_)
  refine ⟨trivial, ?_⟩
  refine seg 2 [] [0, 3] [(0, (.slice A_p0 p0.length c_p0)), (3, (.pointer (some ⟨g1, 0, none⟩)))] [] (fun fb => by kernel_rfl) rfl trivial ?_
  refine WL.done rfl ?_
  refine WX.next ?_
  refine WC.seq ?_
  refine WC.seq ?_
  refine WC.region ?_
  refine seg 1 [] [0, 3, 5] [(0, (.slice A_p0 p0.length c_p0)), (3, (.pointer (some ⟨g1, 0, none⟩))), (5, (.slice A_p0 p0.length c_p0))] [] (fun fb => by kernel_rfl) rfl trivial ?_
  obtain ⟨t5, ht6, hf⟩ := bind_some hf
  refine WL.call (some 6) 13 #[(.slice A_p0 p0.length c_p0)] (fun fb => by kernel_rfl) (law01_wide_calls p0 A_p0 c_p0 t5 _ (hS3.rd 0) ht6) (fun v w7 hR8 => ?_)
  obtain ⟨rfl, hk_⟩ := hR8
  have hS9 := hS3.keepN hk_
  refine ⟨trivial, ?_⟩
  refine seg 3 [] [0, 3, 7] [(0, (.slice A_p0 p0.length c_p0)), (3, (.pointer (some ⟨g1, 0, none⟩))), (7, (.bool t5))] [] (fun fb => by kernel_rfl) rfl trivial ?_
  refine WL.cutV (T := Bool) 8 (fun t => [(12, (.bool t)), (0, (.slice A_p0 p0.length c_p0)), (3, (.pointer (some ⟨g1, 0, none⟩)))]) (fun t => t = (t5 || (decide ((p1.Cells.length : Int) > 50000)))) (fun K => ?_) ?_
  ·
    rcases Bool.eq_false_or_eq_true t5 with h10 | h10
    ·
      refine WL.setB 7 h10 rfl ?_
      refine seg 8 [] [0, 3, 12] [(0, (.slice A_p0 p0.length c_p0)), (3, (.pointer (some ⟨g1, 0, none⟩))), (12, (.bool true))] [] (fun fb => by kernel_rfl) rfl trivial ?_
      exact WL.toV K true [12, 0, 3] rfl (by first | (rw [h10]; done) | (rw [h10]; rfl))
    refine WL.setB 7 h10 rfl ?_
    refine seg 8 [.v (.slice A_p1_Cells p1.Cells.length c_p1_Cells)] [0, 3, 12] [(0, (.slice A_p0 p0.length c_p0)), (3, (.pointer (some ⟨g1, 0, none⟩))), (12, (.bool (decide ((p1.Cells.length : Int) > 50000))))] [.cell ⟨g1, 2, none⟩ (.slice A_p1_Cells p1.Cells.length c_p1_Cells)] (fun fb => by kernel_rfl) rfl ⟨hS9.cell 0 rfl 2 rfl, trivial⟩ ?_
    exact WL.toV K (decide ((p1.Cells.length : Int) > 50000)) [12, 0, 3] rfl (by first | (rw [h10]; done) | (rw [h10]; rfl))
  rintro b11 rfl
  refine WL.done rfl ?_
  refine WX.next ?_
  rcases br_some hf with ⟨h12, hf⟩ | ⟨h12, hf⟩
  · refine WC.condT2 (fun fb => by kernel_rfl) h12 ?_
    refine WC.seq ?_
    refine WC.region ?_
    obtain ⟨t1779, ht1780, hf⟩ := bind_some hf
    refine WL.call (some 13) 8 #[] (fun fb => by kernel_rfl) (law01_awake_calls _ mG t1779 _ (hS9.rd 2) ht1780) (fun v w1781 hR1782 => ?_)
    obtain ⟨rfl, hk_⟩ := hR1782
    have hS1783 := hS9.keepN hk_
    refine ⟨trivial, ?_⟩
    refine seg 2 [] [4] [(4, (.bool t1779))] [] (fun fb => by kernel_rfl) rfl trivial ?_
    refine WL.done rfl ?_
    refine WX.next ?_
    refine WC.ret ?_
    injection hf with hf
    subst hf
    exact WX.thenR (WX.ret_ [] (.bool t1779) [] (fun fb => by kernel_rfl) trivial ⟨_, rfl, rfl, hS1783.keep⟩)
  refine WC.condF2 (fun fb => by kernel_rfl) h12 ?_
  refine WC.skip ?_
  refine WX.next ?_
  refine WC.seq ?_
  refine WC.regionD ([(1, ⟨g1, 0, none⟩, (.int .i64 p1.Width)), (1, ⟨g1, 1, none⟩, (.int .i64 p1.Height)), (1, ⟨g1, 2, none⟩, (.slice A_p1_Cells p1.Cells.length c_p1_Cells)), (4, ⟨g1, 0, none⟩, (.int .i64 p1.Width)), (4, ⟨g1, 1, none⟩, (.int .i64 p1.Height)), (4, ⟨g1, 2, none⟩, (.slice A_p1_Cells p1.Cells.length c_p1_Cells)), (9, ⟨g1, 0, none⟩, (.int .i64 p1.Width)), (9, ⟨g1, 1, none⟩, (.int .i64 p1.Height)), (9, ⟨g1, 2, none⟩, (.slice A_p1_Cells p1.Cells.length c_p1_Cells)), (15, ⟨g1, 0, none⟩, (.int .i64 p1.Width)), (15, ⟨g1, 1, none⟩, (.int .i64 p1.Height)), (15, ⟨g1, 2, none⟩, (.slice A_p1_Cells p1.Cells.length c_p1_Cells))], [0, 1, 3, 4, 6, 7, 8, 9, 11, 13, 14, 15, 17, 18, 19, 20, 22, 23], [[], [], [0, 1], [], [], [0, 1, 2, 3, 4], [0, 1, 2, 3, 4, 5], [0, 1, 2, 3, 4, 5, 6], [0, 1, 2, 3, 4, 5, 6, 7], [0, 1, 2, 3, 4, 5, 6, 7], [0, 1, 2, 3, 4, 5, 6, 7, 8, 9], [0, 1, 2, 3, 4, 5, 6, 7], [0, 1, 2, 3, 4, 5, 6, 7, 8, 9, 10, 11], [0, 1, 2, 3, 4, 5, 6, 7, 8, 9, 10, 11, 12], [0, 1, 2, 3, 4, 5, 6, 7, 8, 9, 10, 11, 12, 13], [0, 1, 2, 3, 4, 5, 6, 7, 8, 9, 10, 11, 12, 13], [0, 1, 2, 3, 4, 5, 6, 7, 8, 9, 10, 11, 12, 13, 14, 15], [0, 1, 2, 3, 4, 5, 6, 7, 8, 9, 10, 11, 12, 13, 14, 15, 16], [0, 1, 2, 3, 4, 5, 6, 7, 8, 9, 10, 11, 12, 13, 14, 15, 16, 17], [0, 1, 2, 3, 4, 5, 6, 7, 8, 9, 10, 11, 12, 13, 14, 15, 16, 17, 18], [0, 1, 2, 3, 4, 5, 6, 7, 8, 9, 10, 11, 12, 13, 14, 15, 16, 17, 18, 19], [0, 1, 2, 3, 4, 5, 6, 7, 8, 9, 10, 11, 12, 13, 14, 15, 16, 17, 18, 19, 20], [0, 1, 2, 3, 4, 5, 6, 7, 8, 9, 10, 11, 12, 13, 14, 15, 16, 17, 18, 19, 20, 21], [0, 1, 2, 3, 4, 5, 6, 7, 8, 9, 10, 11, 12, 13, 14, 15, 16, 17, 18, 19, 20, 21, 22]]) [[0, 1, 3, 4, 2, 5, 6, 7, 8, 9, 11, 10, 12, 13, 14, 15, 16, 17, 18, 19, 20, 21, 22, 23]] (by kernel_rfl) (by kernel_rfl) (NoPanic.seq (NoPanic.body)) ?_
  have hS5207 := hS9.drew
  revert hS5207
  generalize World.drew w7 = w5206
  intro hS5207
  refine ⟨⟨hS5207.cell 0 rfl 0 rfl, hS5207.cell 0 rfl 1 rfl, hS5207.cell 0 rfl 2 rfl, hS5207.cell 0 rfl 0 rfl, hS5207.cell 0 rfl 1 rfl, hS5207.cell 0 rfl 2 rfl, hS5207.cell 0 rfl 0 rfl, hS5207.cell 0 rfl 1 rfl, hS5207.cell 0 rfl 2 rfl, hS5207.cell 0 rfl 0 rfl, hS5207.cell 0 rfl 1 rfl, hS5207.cell 0 rfl 2 rfl, trivial⟩, forallC ?_ (forallN)⟩
  refine segF 4 [.v (.int .i64 p1.Width), .v (.int .i64 p1.Height), .v (.slice A_p1_Cells p1.Cells.length c_p1_Cells), .v (.int .i64 p1.Width), .v (.int .i64 p1.Height), .v (.slice A_p1_Cells p1.Cells.length c_p1_Cells)] [0, 3, 14, 15, 17, 18] [(0, (.slice A_p0 p0.length c_p0)), (3, (.pointer (some ⟨g1, 0, none⟩))), (14, (.slice A_p0 p0.length c_p0)), (15, (.agg #[(.int .i64 p1.Width), (.int .i64 p1.Height), (.slice A_p1_Cells p1.Cells.length c_p1_Cells)])), (17, (.slice A_p0 p0.length c_p0)), (18, (.agg #[(.int .i64 p1.Width), (.int .i64 p1.Height), (.slice A_p1_Cells p1.Cells.length c_p1_Cells)]))] [] [0, 1, 2, 3, 4, 5] [(1, ⟨g1, 0, none⟩, (.int .i64 p1.Width)), (1, ⟨g1, 1, none⟩, (.int .i64 p1.Height)), (1, ⟨g1, 2, none⟩, (.slice A_p1_Cells p1.Cells.length c_p1_Cells)), (4, ⟨g1, 0, none⟩, (.int .i64 p1.Width)), (4, ⟨g1, 1, none⟩, (.int .i64 p1.Height)), (4, ⟨g1, 2, none⟩, (.slice A_p1_Cells p1.Cells.length c_p1_Cells))] (fun fb => by kernel_rfl) rfl trivial rfl ?_
  obtain ⟨t5208, ht5209, hf⟩ := bind_some hf
  refine WL.call (some 16) 14 #[(.slice A_p0 p0.length c_p0), (.agg #[(.int .i64 p1.Width), (.int .i64 p1.Height), (.slice A_p1_Cells p1.Cells.length c_p1_Cells)])] (fun fb => by kernel_rfl) (tile_Fits_calls _ p0 p1 A_p0 c_p0 A_p1_Cells c_p1_Cells t5208 _ (hS5207.rd 0) (hS5207.rd 1) ht5209) (fun v w5210 hR5211 => ?_)
  obtain ⟨rfl, hk_⟩ := hR5211
  have hS5212 := hS5207.keepN hk_
  refine ⟨⟨hS5212.cell 0 rfl 0 rfl, hS5212.cell 0 rfl 1 rfl, hS5212.cell 0 rfl 2 rfl, hS5212.cell 0 rfl 0 rfl, hS5212.cell 0 rfl 1 rfl, hS5212.cell 0 rfl 2 rfl, hS5212.cell 0 rfl 0 rfl, hS5212.cell 0 rfl 1 rfl, hS5212.cell 0 rfl 2 rfl, trivial⟩, ?_⟩
  obtain ⟨t5213, ht5214, hf⟩ := bind_some hf
  refine WL.call (some 19) 15 #[(.slice A_p0 p0.length c_p0), (.agg #[(.int .i64 p1.Width), (.int .i64 p1.Height), (.slice A_p1_Cells p1.Cells.length c_p1_Cells)])] (fun fb => by kernel_rfl) (ref01_Fits_calls _ p0 p1 A_p0 c_p0 A_p1_Cells c_p1_Cells t5213 _ (hS5212.rd 0) (hS5212.rd 1) ht5214) (fun v w5215 hR5216 => ?_)
  obtain ⟨rfl, hk_⟩ := hR5216
  have hS5217 := hS5212.keepN hk_
  refine ⟨⟨hS5217.cell 0 rfl 0 rfl, hS5217.cell 0 rfl 1 rfl, hS5217.cell 0 rfl 2 rfl, hS5217.cell 0 rfl 0 rfl, hS5217.cell 0 rfl 1 rfl, hS5217.cell 0 rfl 2 rfl, trivial⟩, ?_⟩
  refine seg 8 [] [0, 3, 21] [(0, (.slice A_p0 p0.length c_p0)), (3, (.pointer (some ⟨g1, 0, none⟩))), (21, (.bool (t5208 == t5213)))] [] (fun fb => by kernel_rfl) rfl trivial ?_
  obtain ⟨x5248, hx5249, hf⟩ := bind_some hf
  refine WL.cutW (T := Bool) 20 (fun t => [(33, (.bool t))]) (fun t w1 => (St NoS w w1 [rowR enc_Tile A_p0 c_p0 p0, rowR encInt A_p1_Cells c_p1_Cells p1.Cells, cel ⟨2, 0, none⟩ (.int .i64 mG)] [] ∧ x5248 = t) ∧ CellsOK [] w1) (fun K => ?_) ?_
  ·
    rcases br_some hx5249 with ⟨h5250, hx5249⟩ | ⟨h5250, hx5249⟩
    ·
      refine WL.setB 21 h5250 rfl ?_
      refine segF 11 [.v (.int .i64 p1.Width), .v (.int .i64 p1.Height), .v (.slice A_p1_Cells p1.Cells.length c_p1_Cells)] [0, 3, 21, 22, 23, 25] [(0, (.slice A_p0 p0.length c_p0)), (3, (.pointer (some ⟨g1, 0, none⟩))), (21, (.bool true)), (22, (.slice A_p0 p0.length c_p0)), (23, (.agg #[(.int .i64 p1.Width), (.int .i64 p1.Height), (.slice A_p1_Cells p1.Cells.length c_p1_Cells)])), (25, (.slice A_p0 p0.length c_p0))] [] [6, 7, 8] [(9, ⟨g1, 0, none⟩, (.int .i64 p1.Width)), (9, ⟨g1, 1, none⟩, (.int .i64 p1.Height)), (9, ⟨g1, 2, none⟩, (.slice A_p1_Cells p1.Cells.length c_p1_Cells))] (fun fb => by kernel_rfl) rfl trivial rfl ?_
      obtain ⟨t5251, ht5252, hx5249⟩ := bind_some hx5249
      refine WL.call (some 24) 16 #[(.slice A_p0 p0.length c_p0), (.agg #[(.int .i64 p1.Width), (.int .i64 p1.Height), (.slice A_p1_Cells p1.Cells.length c_p1_Cells)])] (fun fb => by kernel_rfl) (tile_Repeats_calls _ p0 p1 A_p0 c_p0 A_p1_Cells c_p1_Cells t5251 _ (hS5217.rd 0) (hS5217.rd 1) ht5252) (fun v w5253 hR5254 => ?_)
      obtain ⟨rfl, hk_⟩ := hR5254
      have hS5255 := hS5217.keepN hk_
      refine ⟨⟨hS5255.cell 0 rfl 0 rfl, hS5255.cell 0 rfl 1 rfl, hS5255.cell 0 rfl 2 rfl, trivial⟩, ?_⟩
      obtain ⟨t5256, ht5257, hx5249⟩ := bind_some hx5249
      refine WL.call (some 26) 17 #[(.slice A_p0 p0.length c_p0)] (fun fb => by kernel_rfl) (ref01_Valid_calls _ p0 A_p0 c_p0 t5256 _ (hS5255.rd 0) ht5257) (fun v w5258 hR5259 => ?_)
      obtain ⟨rfl, hk_⟩ := hR5259
      have hS5260 := hS5255.keepN hk_
      refine ⟨⟨hS5260.cell 0 rfl 0 rfl, hS5260.cell 0 rfl 1 rfl, hS5260.cell 0 rfl 2 rfl, trivial⟩, ?_⟩
      refine seg 14 [] [0, 3, 21, 24, 27] [(0, (.slice A_p0 p0.length c_p0)), (3, (.pointer (some ⟨g1, 0, none⟩))), (21, (.bool true)), (24, (.bool t5251)), (27, (.bool t5256))] [] (fun fb => by kernel_rfl) rfl trivial ?_
      obtain ⟨x5267, hx5268, hx5249⟩ := bind_some hx5249
      refine WL.cutW (T := Bool) 18 (fun t => [(21, (.bool true)), (24, (.bool t5251)), (31, (.bool t))]) (fun t w1 => (St NoS w w1 [rowR enc_Tile A_p0 c_p0 p0, rowR encInt A_p1_Cells c_p1_Cells p1.Cells, cel ⟨2, 0, none⟩ (.int .i64 mG)] [] ∧ x5267 = t) ∧ CellsOK [] w1) (fun K => ?_) ?_
      ·
        rcases br_some hx5268 with ⟨h5269, hx5268⟩ | ⟨h5269, hx5268⟩
        ·
          refine WL.setB 27 h5269 rfl ?_
          refine segF 16 [.v (.int .i64 p1.Width), .v (.int .i64 p1.Height), .v (.slice A_p1_Cells p1.Cells.length c_p1_Cells)] [21, 24, 27, 28, 29] [(21, (.bool true)), (24, (.bool t5251)), (27, (.bool true)), (28, (.slice A_p0 p0.length c_p0)), (29, (.agg #[(.int .i64 p1.Width), (.int .i64 p1.Height), (.slice A_p1_Cells p1.Cells.length c_p1_Cells)]))] [] [9, 10, 11] [(15, ⟨g1, 0, none⟩, (.int .i64 p1.Width)), (15, ⟨g1, 1, none⟩, (.int .i64 p1.Height)), (15, ⟨g1, 2, none⟩, (.slice A_p1_Cells p1.Cells.length c_p1_Cells))] (fun fb => by kernel_rfl) rfl trivial rfl ?_
          obtain ⟨t5270, ht5271, hx5268⟩ := bind_some hx5268
          refine WL.call (some 30) 18 #[(.slice A_p0 p0.length c_p0), (.agg #[(.int .i64 p1.Width), (.int .i64 p1.Height), (.slice A_p1_Cells p1.Cells.length c_p1_Cells)])] (fun fb => by kernel_rfl) (ref01_Torus_calls _ p0 p1 A_p0 c_p0 A_p1_Cells c_p1_Cells t5270 _ (hS5260.rd 0) (hS5260.rd 1) ht5271) (fun v w5272 hR5273 => ?_)
          obtain ⟨rfl, hk_⟩ := hR5273
          have hS5274 := hS5260.keepN hk_
          refine ⟨trivial, ?_⟩
          refine seg 18 [] [21, 24, 31] [(21, (.bool true)), (24, (.bool t5251)), (31, (.bool t5270))] [] (fun fb => by kernel_rfl) rfl trivial ?_
          injection hx5268 with hx5268
          exact WL.to K t5270 [21, 24, 31] rfl ⟨⟨(hS5274.subR [0, 1, 2]).sub [] (by decide), hx5268.symm⟩, trivial⟩
        refine WL.setB 27 h5269 rfl ?_
        refine seg 18 [] [21, 24, 31] [(21, (.bool true)), (24, (.bool t5251)), (31, (.bool false))] [] (fun fb => by kernel_rfl) rfl trivial ?_
        injection hx5268 with hx5268
        exact WL.to K false [21, 24, 31] rfl ⟨⟨(hS5260.subR [0, 1, 2]).sub [] (by decide), hx5268.symm⟩, trivial⟩
      rintro y5275 w5277 ⟨⟨hS5278, hq5276⟩, hF5279⟩
      subst hq5276
      refine seg 20 [] [33] [(33, (.bool (t5251 == x5267)))] [] (fun fb => by kernel_rfl) rfl trivial ?_
      injection hx5249 with hx5249
      exact WL.to K (t5251 == x5267) [33] rfl ⟨⟨(hS5278.subR [0, 1, 2]).sub [] (by decide), hx5249.symm⟩, trivial⟩
    refine WL.setB 21 h5250 rfl ?_
    refine seg 20 [] [33] [(33, (.bool false))] [] (fun fb => by kernel_rfl) rfl trivial ?_
    injection hx5249 with hx5249
    exact WL.to K false [33] rfl ⟨⟨(hS5217.subR [0, 1, 2]).sub [] (by decide), hx5249.symm⟩, trivial⟩
  rintro y5280 w5282 ⟨⟨hS5283, hq5281⟩, hF5284⟩
  subst hq5281
  refine seg 21 [] [34] [(34, (.bool x5248))] [] (fun fb => by kernel_rfl) rfl trivial ?_
  obtain ⟨x5291, hx5292, hf⟩ := bind_some hf
  refine WL.cutW (T := Bool) 23 (fun t => [(36, (.bool t))]) (fun t w1 => (St NoS w w1 [rowR enc_Tile A_p0 c_p0 p0, rowR encInt A_p1_Cells c_p1_Cells p1.Cells, cel ⟨2, 0, none⟩ (.int .i64 mG)] [] ∧ x5291 = t) ∧ CellsOK [] w1) (fun K => ?_) ?_
  ·
    rcases br_some hx5292 with ⟨h5293, hx5292⟩ | ⟨h5293, hx5292⟩
    ·
      refine WL.setB 34 h5293 rfl ?_
      obtain ⟨t5294, ht5295, hx5292⟩ := bind_some hx5292
      refine WL.call (some 35) 8 #[] (fun fb => by kernel_rfl) (law01_awake_calls _ mG t5294 _ (hS5283.rd 2) ht5295) (fun v w5296 hR5297 => ?_)
      obtain ⟨rfl, hk_⟩ := hR5297
      have hS5298 := hS5283.keepN hk_
      refine ⟨trivial, ?_⟩
      refine seg 23 [] [36] [(36, (.bool t5294))] [] (fun fb => by kernel_rfl) rfl trivial ?_
      injection hx5292 with hx5292
      exact WL.to K t5294 [36] rfl ⟨⟨(hS5298.subR [0, 1, 2]).sub [] (by decide), hx5292.symm⟩, trivial⟩
    refine WL.setB 34 h5293 rfl ?_
    refine seg 23 [] [36] [(36, (.bool false))] [] (fun fb => by kernel_rfl) rfl trivial ?_
    injection hx5292 with hx5292
    exact WL.to K false [36] rfl ⟨⟨(hS5283.subR [0, 1, 2]).sub [] (by decide), hx5292.symm⟩, trivial⟩
  rintro y5299 w5301 ⟨⟨hS5302, hq5300⟩, hF5303⟩
  subst hq5300
  refine seg 24 [] [4] [(4, (.bool x5291))] [] (fun fb => by kernel_rfl) rfl trivial ?_
  refine WL.done rfl ?_
  refine WX.next ?_
  refine WC.ret ?_
  injection hf with hf
  subst hf
  exact WX.ret_ [] (.bool x5291) [] (fun fb => by kernel_rfl) trivial ⟨_, rfl, rfl, hS5302.keep⟩
end Gp
