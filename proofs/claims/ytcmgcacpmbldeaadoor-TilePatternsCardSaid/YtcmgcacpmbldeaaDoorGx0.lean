/- Walks: each function of the program computes its plain function. -/
import Derived.Test.YtcmgcacpmbldeaaDoorGp
set_option linter.unusedVariables false
set_option linter.unusedSimpArgs false
namespace Gp
open Go Gw Go.Proofs
theorem tile_colour_1_calls (p0 : Int)  (r : Bool) (w : World)  (hf : tile_colour_1 p0 = some r) :
    CallsR Tryd.prog 65 #[(.int .i64 p0)] w (fun v w' => v = (.bool r) ∧ Keeps NoS w w') := by
  have hS : St NoS w w [] [] := St.init (ro_nil _ _)
  refine enter 9 Tryd.func65 rfl Tryd.ntmps65 rfl ?_
  unfold tile_colour_1 at hf
  refine WC.seq ?_
  refine WC.region ?_
  refine seg 1 [] [0] [(0, (.int .i64 p0))] [] (fun fb => by kernel_rfl) rfl trivial ?_
  refine WL.done rfl ?_
  refine WX.next ?_
  refine WC.seq ?_
  refine WC.region ?_
  refine seg 3 [] [0, 5] [(0, (.int .i64 p0)), (5, (.bool (decide (p0 < 0))))] [] (fun fb => by kernel_rfl) rfl trivial ?_
  refine WL.cutV (T := Bool) 6 (fun t => [(8, (.bool t))]) (fun t => t = ((decide (p0 < 0)) || (decide (p0 ≥ 1000)))) (fun K => ?_) ?_
  ·
    rcases Bool.eq_false_or_eq_true (decide (p0 < 0)) with h414 | h414
    ·
      refine WL.setB 5 h414 rfl ?_
      refine seg 6 [] [8] [(8, (.bool true))] [] (fun fb => by kernel_rfl) rfl trivial ?_
      exact WL.toV K true [8] rfl (by first | (rw [h414]; done) | (rw [h414]; rfl))
    refine WL.setB 5 h414 rfl ?_
    refine seg 6 [] [8] [(8, (.bool (decide (p0 ≥ 1000))))] [] (fun fb => by kernel_rfl) rfl trivial ?_
    exact WL.toV K (decide (p0 ≥ 1000)) [8] rfl (by first | (rw [h414]; done) | (rw [h414]; rfl))
  rintro b415 rfl
  refine seg 7 [] [2] [(2, (.bool ((decide (p0 < 0)) || (decide (p0 ≥ 1000)))))] [] (fun fb => by kernel_rfl) rfl trivial ?_
  refine WL.done rfl ?_
  refine WX.next ?_
  refine WC.ret ?_
  injection hf with hf
  subst hf
  exact WX.ret_ [] (.bool ((decide (p0 < 0)) || (decide (p0 ≥ 1000)))) [] (fun fb => by kernel_rfl) trivial ⟨_, rfl, rfl, hS.keep⟩
theorem slices_IndexFunc_int_int_with_tile_colour_1_calls (k : Nat) (p0 : List Int) (A_p0 : Option Addr) (c_p0 : Nat) (r : Int) (w : World) (hR0 : RO NoS w (rowR encInt A_p0 c_p0 p0)) (hf : slices_IndexFunc_int_int_with_tile_colour_1 k p0 = some r) :
    CallsR Tryd.prog 78 #[(.slice A_p0 p0.length c_p0), (.func (.func 65) #[] #[])] w (fun v w' => v = (.int .i64 r) ∧ Keeps NoS w w') := by
  have hS : St NoS w w [rowR encInt A_p0 c_p0 p0] [] := St.init (ro_cons hR0 (ro_nil _ _))
  refine enter 19 Tryd.func78 rfl Tryd.ntmps78 rfl ?_
  unfold slices_IndexFunc_int_int_with_tile_colour_1 at hf
  refine WC.seq ?_
  refine WC.region ?_
  refine seg 1 [] [0, 1] [(0, (.slice A_p0 p0.length c_p0)), (1, (.func (.func 65) #[] #[]))] [] (fun fb => by kernel_rfl) rfl trivial ?_
  refine WL.done rfl ?_
  refine WX.next ?_
  refine WC.seq ?_
  refine WC.seq ?_
  refine WC.region ?_
  refine seg 3 [] [0, 1, 7, 8] [(0, (.slice A_p0 p0.length c_p0)), (1, (.func (.func 65) #[] #[])), (7, (.int .i64 (p0.length : Int))), (8, (.int .i64 0))] [] (fun fb => by kernel_rfl) rfl trivial ?_
  refine WL.done rfl ?_
  refine WX.next ?_
  obtain ⟨x432, hx433, hf⟩ := bind_some hf
  refine WC.cutN (T := Unit) (fun t => []) (fun t w1 => St NoS w w1 [rowR encInt A_p0 c_p0 p0] [] ∧ x432 = .inr t) (fun Kx432 => ?_) ?_
  ·
    refine WC.block ?_
    refine WC.loop (T := Int) (fun t => [(0, (.slice A_p0 p0.length c_p0)), (1, (.func (.func 65) #[] #[])), (7, (.int .i64 (p0.length : Int))), (8, (.int .i64 t))]) (fun n t w1 => St NoS w w1 [rowR encInt A_p0 c_p0 p0] [] ∧ slices_IndexFunc_int_int_with_tile_colour_1.l0 n t p0 = some x432) k 0 [0, 1, 7, 8] rfl ⟨(hS.subR [0]).sub [] (by decide), hx433⟩ ?_
    rintro k434 x431 w435 ⟨hS436, hl437⟩
    cases k434 with
    | zero => rw [slices_IndexFunc_int_int_with_tile_colour_1.l0] at hl437; cases hl437
    | succ k434 =>
      rw [slices_IndexFunc_int_int_with_tile_colour_1.l0] at hl437
      refine WC.seq ?_
      refine WC.region ?_
      refine seg 1 [] [0, 1, 7, 8, 9] [(0, (.slice A_p0 p0.length c_p0)), (1, (.func (.func 65) #[] #[])), (7, (.int .i64 (p0.length : Int))), (8, (.int .i64 x431)), (9, (.bool (decide (x431 < (p0.length : Int)))))] [] (fun fb => by kernel_rfl) rfl trivial ?_
      refine WL.done rfl ?_
      refine WX.next ?_
      refine WC.seq ?_
      rcases br_some hl437 with ⟨h438, hl437⟩ | ⟨h438, hl437⟩
      · refine WC.condT2 (fun fb => by kernel_rfl) h438 ?_
        refine WC.skip ?_
        refine WX.next ?_
        refine WC.seq ?_
        refine WC.block ?_
        refine WC.seq ?_
        refine WC.region ?_
        refine seg 2 [] [0, 1, 5, 7, 8] [(0, (.slice A_p0 p0.length c_p0)), (1, (.func (.func 65) #[] #[])), (5, (.int .i64 x431)), (7, (.int .i64 (p0.length : Int))), (8, (.int .i64 x431))] [] (fun fb => by kernel_rfl) rfl trivial ?_
        refine WL.done rfl ?_
        refine WX.next ?_
        refine WC.seq ?_
        refine WC.region ?_
        refine seg 3 [] [0, 1, 5, 7, 8, 11, 12, 13] [(0, (.slice A_p0 p0.length c_p0)), (1, (.func (.func 65) #[] #[])), (5, (.int .i64 x431)), (7, (.int .i64 (p0.length : Int))), (8, (.int .i64 x431)), (11, (.func (.func 65) #[] #[])), (12, (.slice A_p0 p0.length c_p0)), (13, (.int .i64 x431))] [] (fun fb => by kernel_rfl) rfl trivial ?_
        obtain ⟨h439, hl437⟩ := as_some hl437
        refine seg 5 [.v (.int .i64 (rdD p0 x431 0))] [0, 1, 5, 7, 8, 11, 15] [(0, (.slice A_p0 p0.length c_p0)), (1, (.func (.func 65) #[] #[])), (5, (.int .i64 x431)), (7, (.int .i64 (p0.length : Int))), (8, (.int .i64 x431)), (11, (.func (.func 65) #[] #[])), (15, (.int .i64 (rdD p0 x431 0)))] [.idx A_p0 x431 p0.length, .cell ((adr A_p0).add ((x431).toNat * 1)) (.int .i64 (rdD p0 x431 0))] (fun fb => by kernel_rfl) rfl ⟨rowR.adr (hS436.rd 0).1 h439.1 h439.2, rowR.cell (hS436.rd 0).1 0 h439.1 h439.2 0 rfl, trivial⟩ ?_
        obtain ⟨t440, ht441, hl437⟩ := bind_some hl437
        refine WL.call (some 16) 65 #[(.int .i64 (rdD p0 x431 0))] (fun fb => by kernel_rfl) (tile_colour_1_calls (rdD p0 x431 0) t440 _ ht441) (fun v w442 hR443 => ?_)
        obtain ⟨rfl, hk_⟩ := hR443
        have hS444 := hS436.keepN hk_
        refine ⟨trivial, ?_⟩
        refine WL.done rfl ?_
        refine WX.next ?_
        rcases br_some hl437 with ⟨h445, hl437⟩ | ⟨h445, hl437⟩
        · refine WC.condT2 (fun fb => by kernel_rfl) h445 ?_
          refine WC.seq ?_
          refine WC.region ?_
          refine seg 2 [] [4] [(4, (.int .i64 x431))] [] (fun fb => by kernel_rfl) rfl trivial ?_
          refine WL.done rfl ?_
          refine WX.next ?_
          refine WC.ret ?_
          injection hl437 with hl437
          subst hl437
          injection hf with hf
          subst hf
          exact WX.blockR (WX.thenR (WX.thenR (WX.blockR (WX.thenR (WX.ret_ [] (.int .i64 x431) [] (fun fb => by kernel_rfl) trivial ⟨_, rfl, rfl, hS444.keep⟩)))))
        refine WC.condF2 (fun fb => by kernel_rfl) h445 ?_
        refine WC.skip ?_
        refine WX.blockN (WX.next ?_)
        refine WC.region ?_
        refine seg 2 [] [0, 1, 7, 8] [(0, (.slice A_p0 p0.length c_p0)), (1, (.func (.func 65) #[] #[])), (7, (.int .i64 (p0.length : Int))), (8, (.int .i64 (w64 (x431 + 1))))] [] (fun fb => by kernel_rfl) rfl trivial ?_
        refine WL.done rfl ?_
        exact WX.again k434 (Nat.lt_succ_self _) (w64 (x431 + 1)) [0, 1, 7, 8] rfl ⟨(hS444.subR [0]).sub [] (by decide), hl437⟩
      refine WC.condF2 (fun fb => by kernel_rfl) h438 ?_
      refine WC.exit ?_
      injection hl437 with hl437
      exact WX.thenX (WX.thenX (WX.blockHere (WX.to Kx432 () [] rfl ⟨(hS436.subR [0]).sub [] (by decide), hl437.symm⟩)))
  rintro y449 w446 ⟨hS447, hq448⟩
  subst hq448
  have hf := sum_inr hf
  refine WX.next ?_
  refine WC.seq ?_
  refine WC.region ?_
  refine seg 1 [] [4] [(4, (.int .i64 (-1)))] [] (fun fb => by kernel_rfl) rfl trivial ?_
  refine WL.done rfl ?_
  refine WX.next ?_
  refine WC.ret ?_
  injection hf with hf
  subst hf
  exact WX.ret_ [] (.int .i64 (-1)) [] (fun fb => by kernel_rfl) trivial ⟨_, rfl, rfl, hS447.keep⟩
theorem slices_ContainsFunc_int_int_with_tile_colour_1_calls (k : Nat) (p0 : List Int) (A_p0 : Option Addr) (c_p0 : Nat) (r : Bool) (w : World) (hR0 : RO NoS w (rowR encInt A_p0 c_p0 p0)) (hf : slices_ContainsFunc_int_int_with_tile_colour_1 k p0 = some r) :
    CallsR Tryd.prog 62 #[(.slice A_p0 p0.length c_p0), (.func (.func 65) #[] #[])] w (fun v w' => v = (.bool r) ∧ Keeps NoS w w') := by
  have hS : St NoS w w [rowR encInt A_p0 c_p0 p0] [] := St.init (ro_cons hR0 (ro_nil _ _))
  refine enter 9 Tryd.func62 rfl Tryd.ntmps62 rfl ?_
  unfold slices_ContainsFunc_int_int_with_tile_colour_1 at hf
  refine WC.seq ?_
  refine WC.region ?_
  refine seg 1 [] [0, 1] [(0, (.slice A_p0 p0.length c_p0)), (1, (.func (.func 65) #[] #[]))] [] (fun fb => by kernel_rfl) rfl trivial ?_
  refine WL.done rfl ?_
  refine WX.next ?_
  refine WC.seq ?_
  refine WC.region ?_
  refine seg 2 [] [5, 6] [(5, (.slice A_p0 p0.length c_p0)), (6, (.func (.func 65) #[] #[]))] [] (fun fb => by kernel_rfl) rfl trivial ?_
  obtain ⟨t451, ht452, hf⟩ := bind_some hf
  refine WL.call (some 7) 78 #[(.slice A_p0 p0.length c_p0), (.func (.func 65) #[] #[])] (fun fb => by kernel_rfl) (slices_IndexFunc_int_int_with_tile_colour_1_calls _ p0 A_p0 c_p0 t451 _ (hS.rd 0) ht452) (fun v w453 hR454 => ?_)
  obtain ⟨rfl, hk_⟩ := hR454
  have hS455 := hS.keepN hk_
  refine ⟨trivial, ?_⟩
  refine seg 5 [] [4] [(4, (.bool (decide (t451 ≥ 0))))] [] (fun fb => by kernel_rfl) rfl trivial ?_
  refine WL.done rfl ?_
  refine WX.next ?_
  refine WC.ret ?_
  injection hf with hf
  subst hf
  exact WX.ret_ [] (.bool (decide (t451 ≥ 0))) [] (fun fb => by kernel_rfl) trivial ⟨_, rfl, rfl, hS455.keep⟩
theorem tile_colour_calls (k : Nat) (p0 : List Int) (A_p0 : Option Addr) (c_p0 : Nat) (r : Bool) (w : World) (hR0 : RO NoS w (rowR encInt A_p0 c_p0 p0)) (hf : tile_colour k p0 = some r) :
    CallsR Tryd.prog 51 #[(.slice A_p0 p0.length c_p0)] w (fun v w' => v = (.bool r) ∧ Keeps NoS w w') := by
  have hS : St NoS w w [rowR encInt A_p0 c_p0 p0] [] := St.init (ro_cons hR0 (ro_nil _ _))
  refine enter 6 Tryd.func51 rfl Tryd.ntmps51 rfl ?_
  unfold tile_colour at hf
  refine WC.seq ?_
  refine WC.region ?_
  refine seg 1 [] [0] [(0, (.slice A_p0 p0.length c_p0))] [] (fun fb => by kernel_rfl) rfl trivial ?_
  refine WL.done rfl ?_
  refine WX.next ?_
  refine WC.seq ?_
  refine WC.region ?_
  refine seg 1 [] [3] [(3, (.slice A_p0 p0.length c_p0))] [] (fun fb => by kernel_rfl) rfl trivial ?_
  obtain ⟨t456, ht457, hf⟩ := bind_some hf
  refine WL.call (some 4) 62 #[(.slice A_p0 p0.length c_p0), (.func (.func 65) #[] #[])] (fun fb => by kernel_rfl) (slices_ContainsFunc_int_int_with_tile_colour_1_calls _ p0 A_p0 c_p0 t456 _ (hS.rd 0) ht457) (fun v w458 hR459 => ?_)
  obtain ⟨rfl, hk_⟩ := hR459
  have hS460 := hS.keepN hk_
  refine ⟨trivial, ?_⟩
  refine seg 4 [] [2] [(2, (.bool (!t456)))] [] (fun fb => by kernel_rfl) rfl trivial ?_
  refine WL.done rfl ?_
  refine WX.next ?_
  refine WC.ret ?_
  injection hf with hf
  subst hf
  exact WX.ret_ [] (.bool (!t456)) [] (fun fb => by kernel_rfl) trivial ⟨_, rfl, rfl, hS460.keep⟩
theorem tile_Valid_key62 : KeyK Tryd.prog 62 (aggI ints_Tile) := KeyK.struct (n := 4) (by kernel_rfl) ints_Tile (fun _ => rfl) (fun x y h => by cases x; cases y; simp only [ints_Tile, List.cons.injEq, and_true] at h; obtain ⟨rfl, rfl, rfl, rfl⟩ := h; rfl)
theorem tile_Valid_calls (k : Nat) (p0 : List Tile) (A_p0 : Option Addr) (c_p0 : Nat) (r : Bool) (w : World) (hR0 : RO NoS w (rowR enc_Tile A_p0 c_p0 p0)) (hf : tile_Valid k p0 = some r) :
    CallsR Tryd.prog 22 #[(.slice A_p0 p0.length c_p0)] w (fun v w' => v = (.bool r) ∧ Keeps NoS w w') := by
  have hS : St NoS w w [rowR enc_Tile A_p0 c_p0 p0] [] := St.init (ro_cons hR0 (ro_nil _ _))
  refine enter 35 Tryd.func22 rfl Tryd.ntmps22 rfl ?_
  unfold tile_Valid at hf
  refine WC.seq ?_
  refine WC.region ?_
  refine seg 1 [] [0] [(0, (.slice A_p0 p0.length c_p0))] [] (fun fb => by kernel_rfl) rfl trivial ?_
  refine WL.done rfl ?_
  refine WX.next ?_
  refine WC.seq ?_
  refine WC.seq ?_
  refine WC.region ?_
  refine seg 3 [] [0, 8] [(0, (.slice A_p0 p0.length c_p0)), (8, (.bool (decide ((p0.length : Int) > 1000))))] [] (fun fb => by kernel_rfl) rfl trivial ?_
  refine WL.done rfl ?_
  refine WX.next ?_
  rcases br_some hf with ⟨h395, hf⟩ | ⟨h395, hf⟩
  · refine WC.condT2 (fun fb => by kernel_rfl) h395 ?_
    refine WC.seq ?_
    refine WC.region ?_
    refine seg 1 [] [2] [(2, (.bool false))] [] (fun fb => by kernel_rfl) rfl trivial ?_
    refine WL.done rfl ?_
    refine WX.next ?_
    refine WC.ret ?_
    injection hf with hf
    subst hf
    exact WX.thenR (WX.ret_ [] (.bool false) [] (fun fb => by kernel_rfl) trivial ⟨_, rfl, rfl, hS.keep⟩)
  refine WC.condF2 (fun fb => by kernel_rfl) h395 ?_
  refine WC.skip ?_
  refine WX.next ?_
  refine WC.seq ?_
  refine WC.region ?_
  refine WL.new hS 9 [] (fun g => (.map (some g))) (mapObj (aggI ints_Tile) vB ([] : List (Tile × Bool))) [] (fun fb g => by kernel_rfl) trivial (fun g396 w397 hS398 => ?_)
  refine ⟨trivial, ?_⟩
  refine seg 2 [] [0, 3] [(0, (.slice A_p0 p0.length c_p0)), (3, (.map (some g396)))] [] (fun fb => by kernel_rfl) rfl trivial ?_
  refine WL.done rfl ?_
  refine WX.next ?_
  refine WC.seq ?_
  refine WC.seq ?_
  refine WC.region ?_
  refine seg 3 [] [3, 10, 11, 12] [(3, (.map (some g396))), (10, (.slice A_p0 p0.length c_p0)), (11, (.int .i64 (p0.length : Int))), (12, (.int .i64 0))] [] (fun fb => by kernel_rfl) rfl trivial ?_
  refine WL.done rfl ?_
  refine WX.next ?_
  obtain ⟨x532, hx533, hf⟩ := bind_some hf
  refine WC.cutN (T := Unit) (fun t => []) (fun t w1 => St NoS w w1 [rowR enc_Tile A_p0 c_p0 p0] [] ∧ x532 = .inr t) (fun Kx532 => ?_) ?_
  ·
    refine WC.block ?_
    refine WC.loop (T := (List (Tile × Bool)) × Int) (fun t => [(3, (.map (some g396))), (10, (.slice A_p0 p0.length c_p0)), (11, (.int .i64 (p0.length : Int))), (12, (.int .i64 t.2))]) (fun n t w1 => St NoS w w1 [rowR enc_Tile A_p0 c_p0 p0] [blk g396 (mapObj (aggI ints_Tile) vB t.1)] ∧ tile_Valid.l0 n t.1 t.2 p0 = some x532) k (([] : List (Tile × Bool)), 0) [3, 10, 11, 12] rfl ⟨(hS398.subR [0]).sub [0] (by decide), hx533⟩ ?_
    rintro k534 ⟨l530, x531⟩ w535 ⟨hS536, hl537⟩
    cases k534 with
    | zero => rw [tile_Valid.l0] at hl537; cases hl537
    | succ k534 =>
      rw [tile_Valid.l0] at hl537
      refine WC.seq ?_
      refine WC.region ?_
      refine seg 1 [] [3, 10, 11, 12, 13] [(3, (.map (some g396))), (10, (.slice A_p0 p0.length c_p0)), (11, (.int .i64 (p0.length : Int))), (12, (.int .i64 x531)), (13, (.bool (decide (x531 < (p0.length : Int)))))] [] (fun fb => by kernel_rfl) rfl trivial ?_
      refine WL.done rfl ?_
      refine WX.next ?_
      refine WC.seq ?_
      rcases br_some hl537 with ⟨h538, hl537⟩ | ⟨h538, hl537⟩
      · refine WC.condT2 (fun fb => by kernel_rfl) h538 ?_
        refine WC.skip ?_
        refine WX.next ?_
        refine WC.seq ?_
        refine WC.block ?_
        refine WC.seq ?_
        refine WC.region ?_
        obtain ⟨h539, hl537⟩ := as_some hl537
        refine seg 2 [.v (.int .i64 ((rdD p0 x531 z_Tile).N)), .v (.int .i64 ((rdD p0 x531 z_Tile).E)), .v (.int .i64 ((rdD p0 x531 z_Tile).S)), .v (.int .i64 ((rdD p0 x531 z_Tile).W))] [3, 10, 11, 12, 15] [(3, (.map (some g396))), (10, (.slice A_p0 p0.length c_p0)), (11, (.int .i64 (p0.length : Int))), (12, (.int .i64 x531)), (15, (.agg #[(.int .i64 ((rdD p0 x531 z_Tile).N)), (.int .i64 ((rdD p0 x531 z_Tile).E)), (.int .i64 ((rdD p0 x531 z_Tile).S)), (.int .i64 ((rdD p0 x531 z_Tile).W))]))] [.idx A_p0 x531 p0.length, .cell ((adr A_p0).add ((x531).toNat * 4)) (.int .i64 ((rdD p0 x531 z_Tile).N)), .cell (((adr A_p0).add ((x531).toNat * 4)).add 1) (.int .i64 ((rdD p0 x531 z_Tile).E)), .cell (((adr A_p0).add ((x531).toNat * 4)).add 2) (.int .i64 ((rdD p0 x531 z_Tile).S)), .cell (((adr A_p0).add ((x531).toNat * 4)).add 3) (.int .i64 ((rdD p0 x531 z_Tile).W))] (fun fb => by kernel_rfl) rfl ⟨rowR.adr (hS536.rd 0).1 h539.1 h539.2, rowR.cell (hS536.rd 0).1 z_Tile h539.1 h539.2 0 rfl, rowR.cell (hS536.rd 0).1 z_Tile h539.1 h539.2 1 rfl, rowR.cell (hS536.rd 0).1 z_Tile h539.1 h539.2 2 rfl, rowR.cell (hS536.rd 0).1 z_Tile h539.1 h539.2 3 rfl, trivial⟩ ?_
        refine WL.new hS536 5 [] (fun g => (.pointer (some ⟨g, 0, none⟩))) (.cells #[(.int .i64 0), (.int .i64 0), (.int .i64 0), (.int .i64 0)] 62 (0, 0)) [] (fun fb g => by kernel_rfl) trivial (fun g540 w541 hS542 => ?_)
        refine ⟨trivial, ?_⟩
        refine WL.store hS542 0 rfl [(0, (.int .i64 ((rdD p0 x531 z_Tile).N))), (1, (.int .i64 ((rdD p0 x531 z_Tile).E))), (2, (.int .i64 ((rdD p0 x531 z_Tile).S))), (3, (.int .i64 ((rdD p0 x531 z_Tile).W)))] #[(.int .i64 ((rdD p0 x531 z_Tile).N)), (.int .i64 ((rdD p0 x531 z_Tile).E)), (.int .i64 ((rdD p0 x531 z_Tile).S)), (.int .i64 ((rdD p0 x531 z_Tile).W))] (fun fb => by kernel_rfl) (by kernel_rfl) rfl [1] (by decide) (by decide) (fun w544 hS545 => ?_)
        refine ⟨trivial, ?_⟩
        refine WL.done rfl ?_
        refine WX.next ?_
        refine WC.seq ?_
        refine WC.seq ?_
        refine WC.region ?_
        refine seg 2 [.v (.int .i64 ((rdD p0 x531 z_Tile).N)), .v (.int .i64 ((rdD p0 x531 z_Tile).E)), .v (.int .i64 ((rdD p0 x531 z_Tile).S)), .v (.int .i64 ((rdD p0 x531 z_Tile).W))] [3, 5, 10, 11, 12, 16, 17] [(3, (.map (some g396))), (5, (.pointer (some ⟨g540, 0, none⟩))), (10, (.slice A_p0 p0.length c_p0)), (11, (.int .i64 (p0.length : Int))), (12, (.int .i64 x531)), (16, (.map (some g396))), (17, (.agg #[(.int .i64 ((rdD p0 x531 z_Tile).N)), (.int .i64 ((rdD p0 x531 z_Tile).E)), (.int .i64 ((rdD p0 x531 z_Tile).S)), (.int .i64 ((rdD p0 x531 z_Tile).W))]))] [.cell ⟨g540, 0, none⟩ (.int .i64 ((rdD p0 x531 z_Tile).N)), .cell ⟨g540, 1, none⟩ (.int .i64 ((rdD p0 x531 z_Tile).E)), .cell ⟨g540, 2, none⟩ (.int .i64 ((rdD p0 x531 z_Tile).S)), .cell ⟨g540, 3, none⟩ (.int .i64 ((rdD p0 x531 z_Tile).W))] (fun fb => by kernel_rfl) rfl ⟨hS545.cell 0 rfl 0 rfl, hS545.cell 0 rfl 1 rfl, hS545.cell 0 rfl 2 rfl, hS545.cell 0 rfl 3 rfl, trivial⟩ ?_
        refine WL.lookup (hS545.own 1).1 (rdD p0 x531 z_Tile) (d := 18) (c := false) (t := 68) (kT := 62) (eT := 4) (z := false) (kE := (aggI ints_Tile)) (vE := vB) (l := l530) (.bool (mget (rdD p0 x531 z_Tile) false l530)) (fun fb => by kernel_rfl) tile_Valid_key62 (by kernel_rfl) (fun _ => by kernel_rfl) rfl ?_
        refine ⟨trivial, ?_⟩
        refine seg 4 [] [3, 5, 10, 11, 12, 19] [(3, (.map (some g396))), (5, (.pointer (some ⟨g540, 0, none⟩))), (10, (.slice A_p0 p0.length c_p0)), (11, (.int .i64 (p0.length : Int))), (12, (.int .i64 x531)), (19, (.bool (mget (rdD p0 x531 z_Tile) false l530)))] [] (fun fb => by kernel_rfl) rfl trivial ?_
        obtain ⟨x557, hx558, hl537⟩ := bind_some hl537
        refine WL.cutW (T := Bool) 16 (fun t => [(3, (.map (some g396))), (5, (.pointer (some ⟨g540, 0, none⟩))), (10, (.slice A_p0 p0.length c_p0)), (11, (.int .i64 (p0.length : Int))), (12, (.int .i64 x531)), (31, (.bool t))]) (fun t w1 => (St NoS w w1 [rowR enc_Tile A_p0 c_p0 p0] [blk g396 (mapObj (aggI ints_Tile) vB l530), blk g540 (.cells #[(.int .i64 ((rdD p0 x531 z_Tile).N)), (.int .i64 ((rdD p0 x531 z_Tile).E)), (.int .i64 ((rdD p0 x531 z_Tile).S)), (.int .i64 ((rdD p0 x531 z_Tile).W))] 62 (0, 0))] ∧ x557 = t) ∧ CellsOK [] w1) (fun K => ?_) ?_
        ·
          rcases br_some hx558 with ⟨h559, hx558⟩ | ⟨h559, hx558⟩
          ·
            refine WL.setB 19 h559 rfl ?_
            refine seg 16 [] [3, 5, 10, 11, 12, 31] [(3, (.map (some g396))), (5, (.pointer (some ⟨g540, 0, none⟩))), (10, (.slice A_p0 p0.length c_p0)), (11, (.int .i64 (p0.length : Int))), (12, (.int .i64 x531)), (31, (.bool true))] [] (fun fb => by kernel_rfl) rfl trivial ?_
            injection hx558 with hx558
            exact WL.to K true [3, 5, 10, 11, 12, 31] rfl ⟨⟨(hS545.subR [0]).sub [1, 0] (by decide), hx558.symm⟩, trivial⟩
          refine WL.setB 19 h559 rfl ?_
          refine seg 12 [.v (.int .i64 ((rdD p0 x531 z_Tile).N)), .v (.int .i64 ((rdD p0 x531 z_Tile).E)), .v (.int .i64 ((rdD p0 x531 z_Tile).S)), .v (.int .i64 ((rdD p0 x531 z_Tile).W))] [3, 5, 10, 11, 12, 19, 21, 23, 25, 27] [(3, (.map (some g396))), (5, (.pointer (some ⟨g540, 0, none⟩))), (10, (.slice A_p0 p0.length c_p0)), (11, (.int .i64 (p0.length : Int))), (12, (.int .i64 x531)), (19, (.bool false)), (21, (.int .i64 ((rdD p0 x531 z_Tile).N))), (23, (.int .i64 ((rdD p0 x531 z_Tile).E))), (25, (.int .i64 ((rdD p0 x531 z_Tile).S))), (27, (.int .i64 ((rdD p0 x531 z_Tile).W)))] [.cell ⟨g540, 0, none⟩ (.int .i64 ((rdD p0 x531 z_Tile).N)), .cell ⟨g540, 1, none⟩ (.int .i64 ((rdD p0 x531 z_Tile).E)), .cell ⟨g540, 2, none⟩ (.int .i64 ((rdD p0 x531 z_Tile).S)), .cell ⟨g540, 3, none⟩ (.int .i64 ((rdD p0 x531 z_Tile).W))] (fun fb => by kernel_rfl) rfl ⟨hS545.cell 0 rfl 0 rfl, hS545.cell 0 rfl 1 rfl, hS545.cell 0 rfl 2 rfl, hS545.cell 0 rfl 3 rfl, trivial⟩ ?_
          refine WL.new hS545 28 [] (fun g => (.slice (some ⟨g, 0, none⟩) 4 4)) (.cells #[(.int .i64 ((rdD p0 x531 z_Tile).N)), (.int .i64 ((rdD p0 x531 z_Tile).E)), (.int .i64 ((rdD p0 x531 z_Tile).S)), (.int .i64 ((rdD p0 x531 z_Tile).W))] 3 (0, 0)) [] (fun fb g => by kernel_rfl) trivial (fun g560 w561 hS562 => ?_)
          refine ⟨trivial, ?_⟩
          have hS564 : St NoS w w561 [rowR enc_Tile A_p0 c_p0 p0] [rowO 3 encInt (some ⟨g560, 0, none⟩) 4 [(rdD p0 x531 z_Tile).N, (rdD p0 x531 z_Tile).E, (rdD p0 x531 z_Tile).S, (rdD p0 x531 z_Tile).W], blk g540 (.cells #[(.int .i64 ((rdD p0 x531 z_Tile).N)), (.int .i64 ((rdD p0 x531 z_Tile).E)), (.int .i64 ((rdD p0 x531 z_Tile).S)), (.int .i64 ((rdD p0 x531 z_Tile).W))] 62 (0, 0)), blk g396 (mapObj (aggI ints_Tile) vB l530)] := hS562.map1 0 _ (fun h => rowO.ofBlk h rfl (Nat.le_of_ble_eq_true (by kernel_rfl))) (fun _ h => by obtain ⟨_, h1, h2⟩ := h; injection h1 with h1; subst h1; exact h2) [1, 2] (by decide) (by decide)
          obtain ⟨t565, ht566, hx558⟩ := bind_some hx558
          refine WL.call (some 29) 51 #[(.slice (some ⟨g560, 0, none⟩) [(rdD p0 x531 z_Tile).N, (rdD p0 x531 z_Tile).E, (rdD p0 x531 z_Tile).S, (rdD p0 x531 z_Tile).W].length 4)] (fun fb => by kernel_rfl) (tile_colour_calls _ [(rdD p0 x531 z_Tile).N, (rdD p0 x531 z_Tile).E, (rdD p0 x531 z_Tile).S, (rdD p0 x531 z_Tile).W] (some ⟨g560, 0, none⟩) 4 t565 _ (hS564.ow 0).ofO ht566) (fun v w567 hR568 => ?_)
          obtain ⟨rfl, hk_⟩ := hR568
          have hS569 := hS564.keepN hk_
          refine ⟨trivial, ?_⟩
          refine seg 16 [] [3, 5, 10, 11, 12, 31] [(3, (.map (some g396))), (5, (.pointer (some ⟨g540, 0, none⟩))), (10, (.slice A_p0 p0.length c_p0)), (11, (.int .i64 (p0.length : Int))), (12, (.int .i64 x531)), (31, (.bool (!t565)))] [] (fun fb => by kernel_rfl) rfl trivial ?_
          injection hx558 with hx558
          exact WL.to K (!t565) [3, 5, 10, 11, 12, 31] rfl ⟨⟨(hS569.subR [0]).sub [2, 1] (by decide), hx558.symm⟩, trivial⟩
        rintro y570 w572 ⟨⟨hS573, hq571⟩, hF574⟩
        subst hq571
        refine WL.done rfl ?_
        refine WX.next ?_
        rcases br_some hl537 with ⟨h575, hl537⟩ | ⟨h575, hl537⟩
        · refine WC.condT2 (fun fb => by kernel_rfl) h575 ?_
          refine WC.seq ?_
          refine WC.region ?_
          refine seg 1 [] [2] [(2, (.bool false))] [] (fun fb => by kernel_rfl) rfl trivial ?_
          refine WL.done rfl ?_
          refine WX.next ?_
          refine WC.ret ?_
          injection hl537 with hl537
          subst hl537
          injection hf with hf
          subst hf
          exact WX.thenR (WX.blockR (WX.thenR (WX.thenR (WX.blockR (WX.thenR (WX.ret_ [] (.bool false) [] (fun fb => by kernel_rfl) trivial ⟨_, rfl, rfl, hS573.keep⟩))))))
        refine WC.condF2 (fun fb => by kernel_rfl) h575 ?_
        refine WC.skip ?_
        refine WX.next ?_
        refine WC.region ?_
        refine seg 2 [.v (.int .i64 ((rdD p0 x531 z_Tile).N)), .v (.int .i64 ((rdD p0 x531 z_Tile).E)), .v (.int .i64 ((rdD p0 x531 z_Tile).S)), .v (.int .i64 ((rdD p0 x531 z_Tile).W))] [3, 10, 11, 12, 32, 33] [(3, (.map (some g396))), (10, (.slice A_p0 p0.length c_p0)), (11, (.int .i64 (p0.length : Int))), (12, (.int .i64 x531)), (32, (.map (some g396))), (33, (.agg #[(.int .i64 ((rdD p0 x531 z_Tile).N)), (.int .i64 ((rdD p0 x531 z_Tile).E)), (.int .i64 ((rdD p0 x531 z_Tile).S)), (.int .i64 ((rdD p0 x531 z_Tile).W))]))] [.cell ⟨g540, 0, none⟩ (.int .i64 ((rdD p0 x531 z_Tile).N)), .cell ⟨g540, 1, none⟩ (.int .i64 ((rdD p0 x531 z_Tile).E)), .cell ⟨g540, 2, none⟩ (.int .i64 ((rdD p0 x531 z_Tile).S)), .cell ⟨g540, 3, none⟩ (.int .i64 ((rdD p0 x531 z_Tile).W))] (fun fb => by kernel_rfl) rfl ⟨hS573.cell 1 rfl 0 rfl, hS573.cell 1 rfl 1 rfl, hS573.cell 1 rfl 2 rfl, hS573.cell 1 rfl 3 rfl, trivial⟩ ?_
        refine WL.mapput hS573 0 (t := 68) (kT := 62) (eT := 4) (kE := (aggI ints_Tile)) (vE := vB) (l := l530) rfl (rdD p0 x531 z_Tile) true (fun fb => by kernel_rfl) tile_Valid_key62 (by kernel_rfl) [1] (by decide) (by decide) (fun w576 hS577 => ?_)
        refine ⟨trivial, ?_⟩
        refine WL.done rfl ?_
        refine WX.blockN (WX.next ?_)
        refine WC.region ?_
        refine seg 2 [] [3, 10, 11, 12] [(3, (.map (some g396))), (10, (.slice A_p0 p0.length c_p0)), (11, (.int .i64 (p0.length : Int))), (12, (.int .i64 (w64 (x531 + 1))))] [] (fun fb => by kernel_rfl) rfl trivial ?_
        refine WL.done rfl ?_
        exact WX.again k534 (Nat.lt_succ_self _) (mput (rdD p0 x531 z_Tile) true l530, w64 (x531 + 1)) [3, 10, 11, 12] rfl ⟨(hS577.subR [0]).sub [0] (by decide), hl537⟩
      refine WC.condF2 (fun fb => by kernel_rfl) h538 ?_
      refine WC.exit ?_
      injection hl537 with hl537
      exact WX.thenX (WX.thenX (WX.blockHere (WX.to Kx532 () [] rfl ⟨(hS536.subR [0]).sub [] (by decide), hl537.symm⟩)))
  rintro y581 w578 ⟨hS579, hq580⟩
  subst hq580
  have hf := sum_inr hf
  refine WX.next ?_
  refine WC.seq ?_
  refine WC.region ?_
  refine seg 1 [] [2] [(2, (.bool true))] [] (fun fb => by kernel_rfl) rfl trivial ?_
  refine WL.done rfl ?_
  refine WX.next ?_
  refine WC.ret ?_
  injection hf with hf
  subst hf
  exact WX.ret_ [] (.bool true) [] (fun fb => by kernel_rfl) trivial ⟨_, rfl, rfl, hS579.keep⟩
theorem tile_write_calls (k : Nat) (p0 : List Tile) (A_p0 : Option Addr) (c_p0 : Nat) (r : ByteArray) (w : World) (hR0 : RO NoS w (rowR enc_Tile A_p0 c_p0 p0)) (hf : tile_write k p0 = some r) :
    CallsR Tryd.prog 43 #[(.slice A_p0 p0.length c_p0)] w (fun v w' => v = (.string r) ∧ Keeps NoS w w') := by
  have hS : St NoS w w [rowR enc_Tile A_p0 c_p0 p0] [] := St.init (ro_cons hR0 (ro_nil _ _))
  refine enter 41 Tryd.func43 rfl Tryd.ntmps43 rfl ?_
  unfold tile_write at hf
  refine WC.seq ?_
  refine WC.region ?_
  refine seg 1 [] [0] [(0, (.slice A_p0 p0.length c_p0))] [] (fun fb => by kernel_rfl) rfl trivial ?_
  refine WL.done rfl ?_
  refine WX.next ?_
  refine WC.seq ?_
  refine WC.region ?_
  refine seg 1 [] [0, 3] [(0, (.slice A_p0 p0.length c_p0)), (3, (.slice none 0 0))] [] (fun fb => by kernel_rfl) rfl trivial ?_
  refine WL.done rfl ?_
  refine WX.next ?_
  refine WC.seq ?_
  refine WC.seq ?_
  refine WC.region ?_
  refine seg 3 [] [3, 9, 10, 11] [(3, (.slice none 0 0)), (9, (.slice A_p0 p0.length c_p0)), (10, (.int .i64 (p0.length : Int))), (11, (.int .i64 0))] [] (fun fb => by kernel_rfl) rfl trivial ?_
  refine WL.done rfl ?_
  refine WX.next ?_
  have hS980 := hS.nilrow 9 encStr
  obtain ⟨x988, hx989, hf⟩ := bind_some hf
  refine WC.cutN (T := (List ByteArray) × (Option Addr) × Nat) (fun t => [(3, (.slice t.2.1 t.1.length t.2.2))]) (fun t w1 => St NoS w w1 [rowR enc_Tile A_p0 c_p0 p0] [rowO 9 encStr t.2.1 t.2.2 t.1] ∧ x988 = t.1) (fun Kx988 => ?_) ?_
  ·
    refine WC.block ?_
    refine WC.loop (T := ((List ByteArray) × Int) × (Option Addr) × Nat) (fun t => [(3, (.slice t.2.1 t.1.1.length t.2.2)), (9, (.slice A_p0 p0.length c_p0)), (10, (.int .i64 (p0.length : Int))), (11, (.int .i64 t.1.2))]) (fun n t w1 => St NoS w w1 [rowR enc_Tile A_p0 c_p0 p0] [rowO 9 encStr t.2.1 t.2.2 t.1.1] ∧ tile_write.l0 n t.1.1 t.1.2 p0 = some x988) k ((([] : List ByteArray), 0), none, 0) [3, 9, 10, 11] rfl ⟨(hS980.subR [0]).sub [0] (by decide), hx989⟩ ?_
    rintro k990 ⟨⟨l983, x984⟩, A981, c982⟩ w991 ⟨hS992, hl993⟩
    cases k990 with
    | zero => rw [tile_write.l0] at hl993; cases hl993
    | succ k990 =>
      rw [tile_write.l0] at hl993
      refine WC.seq ?_
      refine WC.region ?_
      refine seg 1 [] [3, 9, 10, 11, 12] [(3, (.slice A981 l983.length c982)), (9, (.slice A_p0 p0.length c_p0)), (10, (.int .i64 (p0.length : Int))), (11, (.int .i64 x984)), (12, (.bool (decide (x984 < (p0.length : Int)))))] [] (fun fb => by kernel_rfl) rfl trivial ?_
      refine WL.done rfl ?_
      refine WX.next ?_
      refine WC.seq ?_
      rcases br_some hl993 with ⟨h994, hl993⟩ | ⟨h994, hl993⟩
      · refine WC.condT2 (fun fb => by kernel_rfl) h994 ?_
        refine WC.skip ?_
        refine WX.next ?_
        refine WC.seq ?_
        refine WC.block ?_
        refine WC.seq ?_
        refine WC.region ?_
        obtain ⟨h995, hl993⟩ := as_some hl993
        refine seg 2 [.v (.int .i64 ((rdD p0 x984 z_Tile).N)), .v (.int .i64 ((rdD p0 x984 z_Tile).E)), .v (.int .i64 ((rdD p0 x984 z_Tile).S)), .v (.int .i64 ((rdD p0 x984 z_Tile).W))] [3, 9, 10, 11, 14] [(3, (.slice A981 l983.length c982)), (9, (.slice A_p0 p0.length c_p0)), (10, (.int .i64 (p0.length : Int))), (11, (.int .i64 x984)), (14, (.agg #[(.int .i64 ((rdD p0 x984 z_Tile).N)), (.int .i64 ((rdD p0 x984 z_Tile).E)), (.int .i64 ((rdD p0 x984 z_Tile).S)), (.int .i64 ((rdD p0 x984 z_Tile).W))]))] [.idx A_p0 x984 p0.length, .cell ((adr A_p0).add ((x984).toNat * 4)) (.int .i64 ((rdD p0 x984 z_Tile).N)), .cell (((adr A_p0).add ((x984).toNat * 4)).add 1) (.int .i64 ((rdD p0 x984 z_Tile).E)), .cell (((adr A_p0).add ((x984).toNat * 4)).add 2) (.int .i64 ((rdD p0 x984 z_Tile).S)), .cell (((adr A_p0).add ((x984).toNat * 4)).add 3) (.int .i64 ((rdD p0 x984 z_Tile).W))] (fun fb => by kernel_rfl) rfl ⟨rowR.adr (hS992.rd 0).1 h995.1 h995.2, rowR.cell (hS992.rd 0).1 z_Tile h995.1 h995.2 0 rfl, rowR.cell (hS992.rd 0).1 z_Tile h995.1 h995.2 1 rfl, rowR.cell (hS992.rd 0).1 z_Tile h995.1 h995.2 2 rfl, rowR.cell (hS992.rd 0).1 z_Tile h995.1 h995.2 3 rfl, trivial⟩ ?_
        refine WL.new hS992 5 [] (fun g => (.pointer (some ⟨g, 0, none⟩))) (.cells #[(.int .i64 0), (.int .i64 0), (.int .i64 0), (.int .i64 0)] 62 (0, 0)) [] (fun fb g => by kernel_rfl) trivial (fun g996 w997 hS998 => ?_)
        refine ⟨trivial, ?_⟩
        refine WL.store hS998 0 rfl [(0, (.int .i64 ((rdD p0 x984 z_Tile).N))), (1, (.int .i64 ((rdD p0 x984 z_Tile).E))), (2, (.int .i64 ((rdD p0 x984 z_Tile).S))), (3, (.int .i64 ((rdD p0 x984 z_Tile).W)))] #[(.int .i64 ((rdD p0 x984 z_Tile).N)), (.int .i64 ((rdD p0 x984 z_Tile).E)), (.int .i64 ((rdD p0 x984 z_Tile).S)), (.int .i64 ((rdD p0 x984 z_Tile).W))] (fun fb => by kernel_rfl) (by kernel_rfl) rfl [1] (by decide) (by decide) (fun w1000 hS1001 => ?_)
        refine ⟨trivial, ?_⟩
        refine WL.done rfl ?_
        refine WX.next ?_
        refine WC.seq ?_
        refine WC.region ?_
        refine seg 1 [] [3, 5, 6, 9, 10, 11] [(3, (.slice A981 l983.length c982)), (5, (.pointer (some ⟨g996, 0, none⟩))), (6, (.slice none 0 0)), (9, (.slice A_p0 p0.length c_p0)), (10, (.int .i64 (p0.length : Int))), (11, (.int .i64 x984))] [] (fun fb => by kernel_rfl) rfl trivial ?_
        refine WL.done rfl ?_
        refine WX.next ?_
        refine WC.seq ?_
        refine WC.seq ?_
        refine WC.region ?_
        refine seg 10 [.v (.int .i64 ((rdD p0 x984 z_Tile).N)), .v (.int .i64 ((rdD p0 x984 z_Tile).E)), .v (.int .i64 ((rdD p0 x984 z_Tile).S)), .v (.int .i64 ((rdD p0 x984 z_Tile).W))] [3, 6, 9, 10, 11, 23, 24] [(3, (.slice A981 l983.length c982)), (6, (.slice none 0 0)), (9, (.slice A_p0 p0.length c_p0)), (10, (.int .i64 (p0.length : Int))), (11, (.int .i64 x984)), (23, (.agg #[(.int .i64 ((rdD p0 x984 z_Tile).N)), (.int .i64 ((rdD p0 x984 z_Tile).E)), (.int .i64 ((rdD p0 x984 z_Tile).S)), (.int .i64 ((rdD p0 x984 z_Tile).W))])), (24, (.int .i64 0))] [.cell ⟨g996, 0, none⟩ (.int .i64 ((rdD p0 x984 z_Tile).N)), .cell ⟨g996, 1, none⟩ (.int .i64 ((rdD p0 x984 z_Tile).E)), .cell ⟨g996, 2, none⟩ (.int .i64 ((rdD p0 x984 z_Tile).S)), .cell ⟨g996, 3, none⟩ (.int .i64 ((rdD p0 x984 z_Tile).W))] (fun fb => by kernel_rfl) rfl ⟨hS1001.cell 0 rfl 0 rfl, hS1001.cell 0 rfl 1 rfl, hS1001.cell 0 rfl 2 rfl, hS1001.cell 0 rfl 3 rfl, trivial⟩ ?_
        refine WL.done rfl ?_
        refine WX.next ?_
        have hS1089 := hS1001.nilrow 9 encStr
        obtain ⟨x1097, hx1098, hl993⟩ := bind_some hl993
        refine WC.cutN (T := (List ByteArray) × (Option Addr) × Nat) (fun t => [(3, (.slice A981 l983.length c982)), (6, (.slice t.2.1 t.1.length t.2.2)), (9, (.slice A_p0 p0.length c_p0)), (10, (.int .i64 (p0.length : Int))), (11, (.int .i64 x984))]) (fun t w1 => St NoS w w1 [rowR enc_Tile A_p0 c_p0 p0] [rowO 9 encStr A981 c982 l983, rowO 9 encStr t.2.1 t.2.2 t.1] ∧ x1097 = t.1) (fun Kx1097 => ?_) ?_
        ·
          refine WC.block ?_
          refine WC.loop (T := ((List ByteArray) × Int) × (Option Addr) × Nat) (fun t => [(3, (.slice A981 l983.length c982)), (6, (.slice t.2.1 t.1.1.length t.2.2)), (9, (.slice A_p0 p0.length c_p0)), (10, (.int .i64 (p0.length : Int))), (11, (.int .i64 x984)), (23, (.agg #[(.int .i64 ((rdD p0 x984 z_Tile).N)), (.int .i64 ((rdD p0 x984 z_Tile).E)), (.int .i64 ((rdD p0 x984 z_Tile).S)), (.int .i64 ((rdD p0 x984 z_Tile).W))])), (24, (.int .i64 t.1.2))]) (fun n t w1 => St NoS w w1 [rowR enc_Tile A_p0 c_p0 p0] [rowO 9 encStr A981 c982 l983, rowO 9 encStr t.2.1 t.2.2 t.1.1] ∧ tile_write.l1 n t.1.1 t.1.2 p0 x984 = some x1097) k990 ((([] : List ByteArray), 0), none, 0) [3, 6, 9, 10, 11, 23, 24] rfl ⟨(hS1089.subR [0]).sub [2, 0] (by decide), hx1098⟩ ?_
          rintro k1099 ⟨⟨l1092, x1093⟩, A1090, c1091⟩ w1100 ⟨hS1101, hl1102⟩
          cases k1099 with
          | zero => rw [tile_write.l1] at hl1102; cases hl1102
          | succ k1099 =>
            rw [tile_write.l1] at hl1102
            refine WC.seq ?_
            refine WC.region ?_
            refine seg 1 [] [3, 6, 9, 10, 11, 23, 24, 25] [(3, (.slice A981 l983.length c982)), (6, (.slice A1090 l1092.length c1091)), (9, (.slice A_p0 p0.length c_p0)), (10, (.int .i64 (p0.length : Int))), (11, (.int .i64 x984)), (23, (.agg #[(.int .i64 ((rdD p0 x984 z_Tile).N)), (.int .i64 ((rdD p0 x984 z_Tile).E)), (.int .i64 ((rdD p0 x984 z_Tile).S)), (.int .i64 ((rdD p0 x984 z_Tile).W))])), (24, (.int .i64 x1093)), (25, (.bool (decide (x1093 < 4))))] [] (fun fb => by kernel_rfl) rfl trivial ?_
            refine WL.done rfl ?_
            refine WX.next ?_
            refine WC.seq ?_
            rcases br_some hl1102 with ⟨h1103, hl1102⟩ | ⟨h1103, hl1102⟩
            · refine WC.condT2 (fun fb => by kernel_rfl) h1103 ?_
              refine WC.skip ?_
              refine WX.next ?_
              refine WC.seq ?_
              refine WC.block ?_
              refine WC.seq ?_
              refine WC.region ?_
              rcases br_some hl1102 with ⟨h1104, hl1102⟩ | ⟨h1104, hl1102⟩
              ·
                refine WL.setI 24 (eq_of_beq h1104) rfl ?_
                refine seg 1 [] [3, 6, 9, 10, 11, 23, 24, 26] [(3, (.slice A981 l983.length c982)), (6, (.slice A1090 l1092.length c1091)), (9, (.slice A_p0 p0.length c_p0)), (10, (.int .i64 (p0.length : Int))), (11, (.int .i64 x984)), (23, (.agg #[(.int .i64 ((rdD p0 x984 z_Tile).N)), (.int .i64 ((rdD p0 x984 z_Tile).E)), (.int .i64 ((rdD p0 x984 z_Tile).S)), (.int .i64 ((rdD p0 x984 z_Tile).W))])), (24, (.int .i64 0)), (26, (.int .i64 ((rdD p0 x984 z_Tile).N)))] [] (fun fb => by kernel_rfl) rfl trivial ?_
                refine WL.setI 24 (eq_of_beq h1104).symm rfl ?_
                refine seg 2 [] [3, 6, 8, 9, 10, 11, 23, 24] [(3, (.slice A981 l983.length c982)), (6, (.slice A1090 l1092.length c1091)), (8, (.int .i64 ((rdD p0 x984 z_Tile).N))), (9, (.slice A_p0 p0.length c_p0)), (10, (.int .i64 (p0.length : Int))), (11, (.int .i64 x984)), (23, (.agg #[(.int .i64 ((rdD p0 x984 z_Tile).N)), (.int .i64 ((rdD p0 x984 z_Tile).E)), (.int .i64 ((rdD p0 x984 z_Tile).S)), (.int .i64 ((rdD p0 x984 z_Tile).W))])), (24, (.int .i64 x1093))] [] (fun fb => by kernel_rfl) rfl trivial ?_
                refine WL.done rfl ?_
                refine WX.next ?_
                refine WC.region ?_
                refine seg 2 [] [3, 9, 10, 11, 23, 24, 27, 28] [(3, (.slice A981 l983.length c982)), (9, (.slice A_p0 p0.length c_p0)), (10, (.int .i64 (p0.length : Int))), (11, (.int .i64 x984)), (23, (.agg #[(.int .i64 ((rdD p0 x984 z_Tile).N)), (.int .i64 ((rdD p0 x984 z_Tile).E)), (.int .i64 ((rdD p0 x984 z_Tile).S)), (.int .i64 ((rdD p0 x984 z_Tile).W))])), (24, (.int .i64 x1093)), (27, (.slice A1090 l1092.length c1091)), (28, (.int .i64 ((rdD p0 x984 z_Tile).N)))] [] (fun fb => by kernel_rfl) rfl trivial ?_
                obtain ⟨t1108, ht1109, hl1102⟩ := bind_some hl1102
                refine WL.call (some 29) 60 #[(.int .i64 ((rdD p0 x984 z_Tile).N))] (fun fb => by kernel_rfl) (itoa_calls Tryd.strconv_Itoa_small ((rdD p0 x984 z_Tile).N) t1108 _ ht1109) (fun v w1106 hR1105 => ?_)
                obtain ⟨rfl, hk_⟩ := hR1105
                have hS1107 := hS1101.keepN hk_
                refine ⟨trivial, ?_⟩
                refine WL.new hS1107 30 [] (fun g => (.slice (some ⟨g, 0, none⟩) 1 1)) (.cells #[(.string t1108)] 9 (0, 0)) [] (fun fb g => by kernel_rfl) trivial (fun g1110 w1111 hS1112 => ?_)
                refine ⟨trivial, ?_⟩
                have hS1114 : St NoS w w1111 [rowR enc_Tile A_p0 c_p0 p0] [rowO 9 encStr (some ⟨g1110, 0, none⟩) 1 [t1108], rowO 9 encStr A981 c982 l983, rowO 9 encStr A1090 c1091 l1092] := hS1112.map1 0 _ (fun h => rowO.ofBlk h rfl (Nat.le_of_ble_eq_true (by kernel_rfl))) (fun _ h => by obtain ⟨_, h1, h2⟩ := h; injection h1 with h1; subst h1; exact h2) [1, 2] (by decide) (by decide)
                obtain ⟨h1115, hl1102⟩ := as_some hl1102
                refine WL.append hS1114 2 (d := 31) (tS := 54) (z := (.string ByteArray.empty)) (bytes := 16) (c2 := 1) rfl (fun fb => by kernel_rfl) (rowO.rd (hS1114.own 0).1) (by kernel_rfl) (by kernel_rfl) rfl (by decide) h1115 (by decide) [0, 1] (by decide) (by decide) (fun A1116 c1117 w1118 hS1119 => ?_)
                refine ⟨trivial, ?_⟩
                refine seg 6 [] [3, 6, 9, 10, 11, 23, 24] [(3, (.slice A981 l983.length c982)), (6, (.slice A1116 (l1092 ++ [t1108]).length c1117)), (9, (.slice A_p0 p0.length c_p0)), (10, (.int .i64 (p0.length : Int))), (11, (.int .i64 x984)), (23, (.agg #[(.int .i64 ((rdD p0 x984 z_Tile).N)), (.int .i64 ((rdD p0 x984 z_Tile).E)), (.int .i64 ((rdD p0 x984 z_Tile).S)), (.int .i64 ((rdD p0 x984 z_Tile).W))])), (24, (.int .i64 x1093))] [] (fun fb => by kernel_rfl) rfl trivial ?_
                refine WL.done rfl ?_
                refine WX.blockN (WX.next ?_)
                refine WC.region ?_
                refine seg 2 [] [3, 6, 9, 10, 11, 23, 24] [(3, (.slice A981 l983.length c982)), (6, (.slice A1116 (l1092 ++ [t1108]).length c1117)), (9, (.slice A_p0 p0.length c_p0)), (10, (.int .i64 (p0.length : Int))), (11, (.int .i64 x984)), (23, (.agg #[(.int .i64 ((rdD p0 x984 z_Tile).N)), (.int .i64 ((rdD p0 x984 z_Tile).E)), (.int .i64 ((rdD p0 x984 z_Tile).S)), (.int .i64 ((rdD p0 x984 z_Tile).W))])), (24, (.int .i64 (w64 (x1093 + 1))))] [] (fun fb => by kernel_rfl) rfl trivial ?_
                refine WL.done rfl ?_
                exact WX.again k1099 (Nat.lt_succ_self _) ((l1092 ++ [t1108], w64 (x1093 + 1)), A1116, c1117) [3, 6, 9, 10, 11, 23, 24] rfl ⟨(hS1119.subR [0]).sub [2, 0] (by decide), hl1102⟩
              rcases br_some hl1102 with ⟨h1120, hl1102⟩ | ⟨h1120, hl1102⟩
              ·
                refine WL.setI 24 (eq_of_beq h1120) rfl ?_
                refine seg 1 [] [3, 6, 9, 10, 11, 23, 24, 26] [(3, (.slice A981 l983.length c982)), (6, (.slice A1090 l1092.length c1091)), (9, (.slice A_p0 p0.length c_p0)), (10, (.int .i64 (p0.length : Int))), (11, (.int .i64 x984)), (23, (.agg #[(.int .i64 ((rdD p0 x984 z_Tile).N)), (.int .i64 ((rdD p0 x984 z_Tile).E)), (.int .i64 ((rdD p0 x984 z_Tile).S)), (.int .i64 ((rdD p0 x984 z_Tile).W))])), (24, (.int .i64 1)), (26, (.int .i64 ((rdD p0 x984 z_Tile).E)))] [] (fun fb => by kernel_rfl) rfl trivial ?_
                refine WL.setI 24 (eq_of_beq h1120).symm rfl ?_
                refine seg 2 [] [3, 6, 8, 9, 10, 11, 23, 24] [(3, (.slice A981 l983.length c982)), (6, (.slice A1090 l1092.length c1091)), (8, (.int .i64 ((rdD p0 x984 z_Tile).E))), (9, (.slice A_p0 p0.length c_p0)), (10, (.int .i64 (p0.length : Int))), (11, (.int .i64 x984)), (23, (.agg #[(.int .i64 ((rdD p0 x984 z_Tile).N)), (.int .i64 ((rdD p0 x984 z_Tile).E)), (.int .i64 ((rdD p0 x984 z_Tile).S)), (.int .i64 ((rdD p0 x984 z_Tile).W))])), (24, (.int .i64 x1093))] [] (fun fb => by kernel_rfl) rfl trivial ?_
                refine WL.done rfl ?_
                refine WX.next ?_
                refine WC.region ?_
                refine seg 2 [] [3, 9, 10, 11, 23, 24, 27, 28] [(3, (.slice A981 l983.length c982)), (9, (.slice A_p0 p0.length c_p0)), (10, (.int .i64 (p0.length : Int))), (11, (.int .i64 x984)), (23, (.agg #[(.int .i64 ((rdD p0 x984 z_Tile).N)), (.int .i64 ((rdD p0 x984 z_Tile).E)), (.int .i64 ((rdD p0 x984 z_Tile).S)), (.int .i64 ((rdD p0 x984 z_Tile).W))])), (24, (.int .i64 x1093)), (27, (.slice A1090 l1092.length c1091)), (28, (.int .i64 ((rdD p0 x984 z_Tile).E)))] [] (fun fb => by kernel_rfl) rfl trivial ?_
                obtain ⟨t1124, ht1125, hl1102⟩ := bind_some hl1102
                refine WL.call (some 29) 60 #[(.int .i64 ((rdD p0 x984 z_Tile).E))] (fun fb => by kernel_rfl) (itoa_calls Tryd.strconv_Itoa_small ((rdD p0 x984 z_Tile).E) t1124 _ ht1125) (fun v w1122 hR1121 => ?_)
                obtain ⟨rfl, hk_⟩ := hR1121
                have hS1123 := hS1101.keepN hk_
                refine ⟨trivial, ?_⟩
                refine WL.new hS1123 30 [] (fun g => (.slice (some ⟨g, 0, none⟩) 1 1)) (.cells #[(.string t1124)] 9 (0, 0)) [] (fun fb g => by kernel_rfl) trivial (fun g1126 w1127 hS1128 => ?_)
                refine ⟨trivial, ?_⟩
                have hS1130 : St NoS w w1127 [rowR enc_Tile A_p0 c_p0 p0] [rowO 9 encStr (some ⟨g1126, 0, none⟩) 1 [t1124], rowO 9 encStr A981 c982 l983, rowO 9 encStr A1090 c1091 l1092] := hS1128.map1 0 _ (fun h => rowO.ofBlk h rfl (Nat.le_of_ble_eq_true (by kernel_rfl))) (fun _ h => by obtain ⟨_, h1, h2⟩ := h; injection h1 with h1; subst h1; exact h2) [1, 2] (by decide) (by decide)
                obtain ⟨h1131, hl1102⟩ := as_some hl1102
                refine WL.append hS1130 2 (d := 31) (tS := 54) (z := (.string ByteArray.empty)) (bytes := 16) (c2 := 1) rfl (fun fb => by kernel_rfl) (rowO.rd (hS1130.own 0).1) (by kernel_rfl) (by kernel_rfl) rfl (by decide) h1131 (by decide) [0, 1] (by decide) (by decide) (fun A1132 c1133 w1134 hS1135 => ?_)
                refine ⟨trivial, ?_⟩
                refine seg 6 [] [3, 6, 9, 10, 11, 23, 24] [(3, (.slice A981 l983.length c982)), (6, (.slice A1132 (l1092 ++ [t1124]).length c1133)), (9, (.slice A_p0 p0.length c_p0)), (10, (.int .i64 (p0.length : Int))), (11, (.int .i64 x984)), (23, (.agg #[(.int .i64 ((rdD p0 x984 z_Tile).N)), (.int .i64 ((rdD p0 x984 z_Tile).E)), (.int .i64 ((rdD p0 x984 z_Tile).S)), (.int .i64 ((rdD p0 x984 z_Tile).W))])), (24, (.int .i64 x1093))] [] (fun fb => by kernel_rfl) rfl trivial ?_
                refine WL.done rfl ?_
                refine WX.blockN (WX.next ?_)
                refine WC.region ?_
                refine seg 2 [] [3, 6, 9, 10, 11, 23, 24] [(3, (.slice A981 l983.length c982)), (6, (.slice A1132 (l1092 ++ [t1124]).length c1133)), (9, (.slice A_p0 p0.length c_p0)), (10, (.int .i64 (p0.length : Int))), (11, (.int .i64 x984)), (23, (.agg #[(.int .i64 ((rdD p0 x984 z_Tile).N)), (.int .i64 ((rdD p0 x984 z_Tile).E)), (.int .i64 ((rdD p0 x984 z_Tile).S)), (.int .i64 ((rdD p0 x984 z_Tile).W))])), (24, (.int .i64 (w64 (x1093 + 1))))] [] (fun fb => by kernel_rfl) rfl trivial ?_
                refine WL.done rfl ?_
                exact WX.again k1099 (Nat.lt_succ_self _) ((l1092 ++ [t1124], w64 (x1093 + 1)), A1132, c1133) [3, 6, 9, 10, 11, 23, 24] rfl ⟨(hS1135.subR [0]).sub [2, 0] (by decide), hl1102⟩
              rcases br_some hl1102 with ⟨h1136, hl1102⟩ | ⟨h1136, hl1102⟩
              ·
                refine WL.setI 24 (eq_of_beq h1136) rfl ?_
                refine seg 1 [] [3, 6, 9, 10, 11, 23, 24, 26] [(3, (.slice A981 l983.length c982)), (6, (.slice A1090 l1092.length c1091)), (9, (.slice A_p0 p0.length c_p0)), (10, (.int .i64 (p0.length : Int))), (11, (.int .i64 x984)), (23, (.agg #[(.int .i64 ((rdD p0 x984 z_Tile).N)), (.int .i64 ((rdD p0 x984 z_Tile).E)), (.int .i64 ((rdD p0 x984 z_Tile).S)), (.int .i64 ((rdD p0 x984 z_Tile).W))])), (24, (.int .i64 2)), (26, (.int .i64 ((rdD p0 x984 z_Tile).S)))] [] (fun fb => by kernel_rfl) rfl trivial ?_
                refine WL.setI 24 (eq_of_beq h1136).symm rfl ?_
                refine seg 2 [] [3, 6, 8, 9, 10, 11, 23, 24] [(3, (.slice A981 l983.length c982)), (6, (.slice A1090 l1092.length c1091)), (8, (.int .i64 ((rdD p0 x984 z_Tile).S))), (9, (.slice A_p0 p0.length c_p0)), (10, (.int .i64 (p0.length : Int))), (11, (.int .i64 x984)), (23, (.agg #[(.int .i64 ((rdD p0 x984 z_Tile).N)), (.int .i64 ((rdD p0 x984 z_Tile).E)), (.int .i64 ((rdD p0 x984 z_Tile).S)), (.int .i64 ((rdD p0 x984 z_Tile).W))])), (24, (.int .i64 x1093))] [] (fun fb => by kernel_rfl) rfl trivial ?_
                refine WL.done rfl ?_
                refine WX.next ?_
                refine WC.region ?_
                refine seg 2 [] [3, 9, 10, 11, 23, 24, 27, 28] [(3, (.slice A981 l983.length c982)), (9, (.slice A_p0 p0.length c_p0)), (10, (.int .i64 (p0.length : Int))), (11, (.int .i64 x984)), (23, (.agg #[(.int .i64 ((rdD p0 x984 z_Tile).N)), (.int .i64 ((rdD p0 x984 z_Tile).E)), (.int .i64 ((rdD p0 x984 z_Tile).S)), (.int .i64 ((rdD p0 x984 z_Tile).W))])), (24, (.int .i64 x1093)), (27, (.slice A1090 l1092.length c1091)), (28, (.int .i64 ((rdD p0 x984 z_Tile).S)))] [] (fun fb => by kernel_rfl) rfl trivial ?_
                obtain ⟨t1140, ht1141, hl1102⟩ := bind_some hl1102
                refine WL.call (some 29) 60 #[(.int .i64 ((rdD p0 x984 z_Tile).S))] (fun fb => by kernel_rfl) (itoa_calls Tryd.strconv_Itoa_small ((rdD p0 x984 z_Tile).S) t1140 _ ht1141) (fun v w1138 hR1137 => ?_)
                obtain ⟨rfl, hk_⟩ := hR1137
                have hS1139 := hS1101.keepN hk_
                refine ⟨trivial, ?_⟩
                refine WL.new hS1139 30 [] (fun g => (.slice (some ⟨g, 0, none⟩) 1 1)) (.cells #[(.string t1140)] 9 (0, 0)) [] (fun fb g => by kernel_rfl) trivial (fun g1142 w1143 hS1144 => ?_)
                refine ⟨trivial, ?_⟩
                have hS1146 : St NoS w w1143 [rowR enc_Tile A_p0 c_p0 p0] [rowO 9 encStr (some ⟨g1142, 0, none⟩) 1 [t1140], rowO 9 encStr A981 c982 l983, rowO 9 encStr A1090 c1091 l1092] := hS1144.map1 0 _ (fun h => rowO.ofBlk h rfl (Nat.le_of_ble_eq_true (by kernel_rfl))) (fun _ h => by obtain ⟨_, h1, h2⟩ := h; injection h1 with h1; subst h1; exact h2) [1, 2] (by decide) (by decide)
                obtain ⟨h1147, hl1102⟩ := as_some hl1102
                refine WL.append hS1146 2 (d := 31) (tS := 54) (z := (.string ByteArray.empty)) (bytes := 16) (c2 := 1) rfl (fun fb => by kernel_rfl) (rowO.rd (hS1146.own 0).1) (by kernel_rfl) (by kernel_rfl) rfl (by decide) h1147 (by decide) [0, 1] (by decide) (by decide) (fun A1148 c1149 w1150 hS1151 => ?_)
                refine ⟨trivial, ?_⟩
                refine seg 6 [] [3, 6, 9, 10, 11, 23, 24] [(3, (.slice A981 l983.length c982)), (6, (.slice A1148 (l1092 ++ [t1140]).length c1149)), (9, (.slice A_p0 p0.length c_p0)), (10, (.int .i64 (p0.length : Int))), (11, (.int .i64 x984)), (23, (.agg #[(.int .i64 ((rdD p0 x984 z_Tile).N)), (.int .i64 ((rdD p0 x984 z_Tile).E)), (.int .i64 ((rdD p0 x984 z_Tile).S)), (.int .i64 ((rdD p0 x984 z_Tile).W))])), (24, (.int .i64 x1093))] [] (fun fb => by kernel_rfl) rfl trivial ?_
                refine WL.done rfl ?_
                refine WX.blockN (WX.next ?_)
                refine WC.region ?_
                refine seg 2 [] [3, 6, 9, 10, 11, 23, 24] [(3, (.slice A981 l983.length c982)), (6, (.slice A1148 (l1092 ++ [t1140]).length c1149)), (9, (.slice A_p0 p0.length c_p0)), (10, (.int .i64 (p0.length : Int))), (11, (.int .i64 x984)), (23, (.agg #[(.int .i64 ((rdD p0 x984 z_Tile).N)), (.int .i64 ((rdD p0 x984 z_Tile).E)), (.int .i64 ((rdD p0 x984 z_Tile).S)), (.int .i64 ((rdD p0 x984 z_Tile).W))])), (24, (.int .i64 (w64 (x1093 + 1))))] [] (fun fb => by kernel_rfl) rfl trivial ?_
                refine WL.done rfl ?_
                exact WX.again k1099 (Nat.lt_succ_self _) ((l1092 ++ [t1140], w64 (x1093 + 1)), A1148, c1149) [3, 6, 9, 10, 11, 23, 24] rfl ⟨(hS1151.subR [0]).sub [2, 0] (by decide), hl1102⟩
              rcases br_some hl1102 with ⟨h1152, hl1102⟩ | ⟨h1152, hl1102⟩
              ·
                refine WL.setI 24 (eq_of_beq h1152) rfl ?_
                refine seg 1 [] [3, 6, 9, 10, 11, 23, 24, 26] [(3, (.slice A981 l983.length c982)), (6, (.slice A1090 l1092.length c1091)), (9, (.slice A_p0 p0.length c_p0)), (10, (.int .i64 (p0.length : Int))), (11, (.int .i64 x984)), (23, (.agg #[(.int .i64 ((rdD p0 x984 z_Tile).N)), (.int .i64 ((rdD p0 x984 z_Tile).E)), (.int .i64 ((rdD p0 x984 z_Tile).S)), (.int .i64 ((rdD p0 x984 z_Tile).W))])), (24, (.int .i64 3)), (26, (.int .i64 ((rdD p0 x984 z_Tile).W)))] [] (fun fb => by kernel_rfl) rfl trivial ?_
                refine WL.setI 24 (eq_of_beq h1152).symm rfl ?_
                refine seg 2 [] [3, 6, 8, 9, 10, 11, 23, 24] [(3, (.slice A981 l983.length c982)), (6, (.slice A1090 l1092.length c1091)), (8, (.int .i64 ((rdD p0 x984 z_Tile).W))), (9, (.slice A_p0 p0.length c_p0)), (10, (.int .i64 (p0.length : Int))), (11, (.int .i64 x984)), (23, (.agg #[(.int .i64 ((rdD p0 x984 z_Tile).N)), (.int .i64 ((rdD p0 x984 z_Tile).E)), (.int .i64 ((rdD p0 x984 z_Tile).S)), (.int .i64 ((rdD p0 x984 z_Tile).W))])), (24, (.int .i64 x1093))] [] (fun fb => by kernel_rfl) rfl trivial ?_
                refine WL.done rfl ?_
                refine WX.next ?_
                refine WC.region ?_
                refine seg 2 [] [3, 9, 10, 11, 23, 24, 27, 28] [(3, (.slice A981 l983.length c982)), (9, (.slice A_p0 p0.length c_p0)), (10, (.int .i64 (p0.length : Int))), (11, (.int .i64 x984)), (23, (.agg #[(.int .i64 ((rdD p0 x984 z_Tile).N)), (.int .i64 ((rdD p0 x984 z_Tile).E)), (.int .i64 ((rdD p0 x984 z_Tile).S)), (.int .i64 ((rdD p0 x984 z_Tile).W))])), (24, (.int .i64 x1093)), (27, (.slice A1090 l1092.length c1091)), (28, (.int .i64 ((rdD p0 x984 z_Tile).W)))] [] (fun fb => by kernel_rfl) rfl trivial ?_
                obtain ⟨t1156, ht1157, hl1102⟩ := bind_some hl1102
                refine WL.call (some 29) 60 #[(.int .i64 ((rdD p0 x984 z_Tile).W))] (fun fb => by kernel_rfl) (itoa_calls Tryd.strconv_Itoa_small ((rdD p0 x984 z_Tile).W) t1156 _ ht1157) (fun v w1154 hR1153 => ?_)
                obtain ⟨rfl, hk_⟩ := hR1153
                have hS1155 := hS1101.keepN hk_
                refine ⟨trivial, ?_⟩
                refine WL.new hS1155 30 [] (fun g => (.slice (some ⟨g, 0, none⟩) 1 1)) (.cells #[(.string t1156)] 9 (0, 0)) [] (fun fb g => by kernel_rfl) trivial (fun g1158 w1159 hS1160 => ?_)
                refine ⟨trivial, ?_⟩
                have hS1162 : St NoS w w1159 [rowR enc_Tile A_p0 c_p0 p0] [rowO 9 encStr (some ⟨g1158, 0, none⟩) 1 [t1156], rowO 9 encStr A981 c982 l983, rowO 9 encStr A1090 c1091 l1092] := hS1160.map1 0 _ (fun h => rowO.ofBlk h rfl (Nat.le_of_ble_eq_true (by kernel_rfl))) (fun _ h => by obtain ⟨_, h1, h2⟩ := h; injection h1 with h1; subst h1; exact h2) [1, 2] (by decide) (by decide)
                obtain ⟨h1163, hl1102⟩ := as_some hl1102
                refine WL.append hS1162 2 (d := 31) (tS := 54) (z := (.string ByteArray.empty)) (bytes := 16) (c2 := 1) rfl (fun fb => by kernel_rfl) (rowO.rd (hS1162.own 0).1) (by kernel_rfl) (by kernel_rfl) rfl (by decide) h1163 (by decide) [0, 1] (by decide) (by decide) (fun A1164 c1165 w1166 hS1167 => ?_)
                refine ⟨trivial, ?_⟩
                refine seg 6 [] [3, 6, 9, 10, 11, 23, 24] [(3, (.slice A981 l983.length c982)), (6, (.slice A1164 (l1092 ++ [t1156]).length c1165)), (9, (.slice A_p0 p0.length c_p0)), (10, (.int .i64 (p0.length : Int))), (11, (.int .i64 x984)), (23, (.agg #[(.int .i64 ((rdD p0 x984 z_Tile).N)), (.int .i64 ((rdD p0 x984 z_Tile).E)), (.int .i64 ((rdD p0 x984 z_Tile).S)), (.int .i64 ((rdD p0 x984 z_Tile).W))])), (24, (.int .i64 x1093))] [] (fun fb => by kernel_rfl) rfl trivial ?_
                refine WL.done rfl ?_
                refine WX.blockN (WX.next ?_)
                refine WC.region ?_
                refine seg 2 [] [3, 6, 9, 10, 11, 23, 24] [(3, (.slice A981 l983.length c982)), (6, (.slice A1164 (l1092 ++ [t1156]).length c1165)), (9, (.slice A_p0 p0.length c_p0)), (10, (.int .i64 (p0.length : Int))), (11, (.int .i64 x984)), (23, (.agg #[(.int .i64 ((rdD p0 x984 z_Tile).N)), (.int .i64 ((rdD p0 x984 z_Tile).E)), (.int .i64 ((rdD p0 x984 z_Tile).S)), (.int .i64 ((rdD p0 x984 z_Tile).W))])), (24, (.int .i64 (w64 (x1093 + 1))))] [] (fun fb => by kernel_rfl) rfl trivial ?_
                refine WL.done rfl ?_
                exact WX.again k1099 (Nat.lt_succ_self _) ((l1092 ++ [t1156], w64 (x1093 + 1)), A1164, c1165) [3, 6, 9, 10, 11, 23, 24] rfl ⟨(hS1167.subR [0]).sub [2, 0] (by decide), hl1102⟩
              cases hl1102
            refine WC.condF2 (fun fb => by kernel_rfl) h1103 ?_
            refine WC.exit ?_
            injection hl1102 with hl1102
            exact WX.thenX (WX.thenX (WX.blockHere (WX.to Kx1097 (l1092, A1090, c1091) [3, 6, 9, 10, 11] rfl ⟨(hS1101.subR [0]).sub [0, 1] (by decide), hl1102.symm⟩)))
        rintro ⟨y1171, A1094, c1095⟩ w1168 ⟨hS1169, hq1170⟩
        subst hq1170
        refine WX.next ?_
        refine WC.region ?_
        refine seg 2 [] [9, 10, 11, 33, 34] [(9, (.slice A_p0 p0.length c_p0)), (10, (.int .i64 (p0.length : Int))), (11, (.int .i64 x984)), (33, (.slice A981 l983.length c982)), (34, (.slice A1094 x1097.length c1095))] [] (fun fb => by kernel_rfl) rfl trivial ?_
        obtain ⟨t1175, ht1176, hl993⟩ := bind_some hl993
        refine WL.call (some 35) 61 #[(.slice A1094 x1097.length c1095), (.string (⟨#[46]⟩ : ByteArray))] (fun fb => by kernel_rfl) (join_calls Tryd.strings_Join Tryd.strings_Join_none x1097 (⟨#[46]⟩ : ByteArray) A1094 c1095 t1175 _ (hS1169.ow 1) ht1176) (fun v w1173 hR1172 => ?_)
        obtain ⟨rfl, hk_⟩ := hR1172
        have hS1174 := hS1169.keepN hk_
        refine ⟨trivial, ?_⟩
        refine WL.new hS1174 36 [] (fun g => (.slice (some ⟨g, 0, none⟩) 1 1)) (.cells #[(.string t1175)] 9 (0, 0)) [] (fun fb g => by kernel_rfl) trivial (fun g1177 w1178 hS1179 => ?_)
        refine ⟨trivial, ?_⟩
        have hS1181 : St NoS w w1178 [rowR enc_Tile A_p0 c_p0 p0] [rowO 9 encStr (some ⟨g1177, 0, none⟩) 1 [t1175], rowO 9 encStr A981 c982 l983, rowO 9 encStr A1094 c1095 x1097] := hS1179.map1 0 _ (fun h => rowO.ofBlk h rfl (Nat.le_of_ble_eq_true (by kernel_rfl))) (fun _ h => by obtain ⟨_, h1, h2⟩ := h; injection h1 with h1; subst h1; exact h2) [1, 2] (by decide) (by decide)
        obtain ⟨h1182, hl993⟩ := as_some hl993
        refine WL.append hS1181 1 (d := 37) (tS := 54) (z := (.string ByteArray.empty)) (bytes := 16) (c2 := 1) rfl (fun fb => by kernel_rfl) (rowO.rd (hS1181.own 0).1) (by kernel_rfl) (by kernel_rfl) rfl (by decide) h1182 (by decide) [0, 2] (by decide) (by decide) (fun A1183 c1184 w1185 hS1186 => ?_)
        refine ⟨trivial, ?_⟩
        refine seg 6 [] [3, 9, 10, 11] [(3, (.slice A1183 (l983 ++ [t1175]).length c1184)), (9, (.slice A_p0 p0.length c_p0)), (10, (.int .i64 (p0.length : Int))), (11, (.int .i64 x984))] [] (fun fb => by kernel_rfl) rfl trivial ?_
        refine WL.done rfl ?_
        refine WX.blockN (WX.next ?_)
        refine WC.region ?_
        refine seg 2 [] [3, 9, 10, 11] [(3, (.slice A1183 (l983 ++ [t1175]).length c1184)), (9, (.slice A_p0 p0.length c_p0)), (10, (.int .i64 (p0.length : Int))), (11, (.int .i64 (w64 (x984 + 1))))] [] (fun fb => by kernel_rfl) rfl trivial ?_
        refine WL.done rfl ?_
        exact WX.again k990 (Nat.lt_succ_self _) ((l983 ++ [t1175], w64 (x984 + 1)), A1183, c1184) [3, 9, 10, 11] rfl ⟨(hS1186.subR [0]).sub [0] (by decide), hl993⟩
      refine WC.condF2 (fun fb => by kernel_rfl) h994 ?_
      refine WC.exit ?_
      injection hl993 with hl993
      exact WX.thenX (WX.thenX (WX.blockHere (WX.to Kx988 (l983, A981, c982) [3] rfl ⟨(hS992.subR [0]).sub [0] (by decide), hl993.symm⟩)))
  rintro ⟨y1190, A985, c986⟩ w1187 ⟨hS1188, hq1189⟩
  subst hq1189
  refine WX.next ?_
  refine WC.seq ?_
  refine WC.region ?_
  refine seg 1 [] [39] [(39, (.slice A985 x988.length c986))] [] (fun fb => by kernel_rfl) rfl trivial ?_
  obtain ⟨t1194, ht1195, hf⟩ := bind_some hf
  refine WL.call (some 40) 61 #[(.slice A985 x988.length c986), (.string (⟨#[32]⟩ : ByteArray))] (fun fb => by kernel_rfl) (join_calls Tryd.strings_Join Tryd.strings_Join_none x988 (⟨#[32]⟩ : ByteArray) A985 c986 t1194 _ (hS1188.ow 0) ht1195) (fun v w1192 hR1191 => ?_)
  obtain ⟨rfl, hk_⟩ := hR1191
  have hS1193 := hS1188.keepN hk_
  refine ⟨trivial, ?_⟩
  refine seg 3 [] [2] [(2, (.string t1194))] [] (fun fb => by kernel_rfl) rfl trivial ?_
  refine WL.done rfl ?_
  refine WX.next ?_
  refine WC.ret ?_
  injection hf with hf
  subst hf
  exact WX.ret_ [] (.string t1194) [] (fun fb => by kernel_rfl) trivial ⟨_, rfl, rfl, hS1193.keep⟩
theorem tile_Parse_calls (k : Nat) (p0 : ByteArray) (mG : Int) (r : (List Tile) × Int) (w : World) (hR0 : RO NoS w (cel ⟨2, 0, none⟩ (.int .i64 mG))) (hf : tile_Parse k p0 = some r) :
    CallsR Tryd.prog 9 #[(.string p0)] w (fun v w' => ∃ (A1_ : Option Addr), ∃ (c1_ : Nat), v = (.tuple #[(.slice A1_ r.1.length c1_), (.int .i64 r.2)]) ∧ St NoS w w' [] [rowO 62 enc_Tile A1_ c1_ r.1]) := by
  have hS : St NoS w w [cel ⟨2, 0, none⟩ (.int .i64 mG)] [] := St.init (ro_cons hR0 (ro_nil _ _))
  refine enter 76 Tryd.func9 rfl Tryd.ntmps9 rfl ?_
  unfold tile_Parse at hf
  refine WC.seq ?_
  refine WC.region ?_
  refine seg 2 [] [0] [(0, (.string p0))] [] (fun fb => by kernel_rfl) rfl trivial ?_
  refine WL.done rfl ?_
  refine WX.next ?_
  refine WC.seq ?_
  refine WC.region ?_
  refine seg 1 [] [0, 4] [(0, (.string p0)), (4, (.slice none 0 0))] [] (fun fb => by kernel_rfl) rfl trivial ?_
  refine WL.done rfl ?_
  refine WX.next ?_
  refine WC.seq ?_
  refine WC.seq ?_
  refine WC.region ?_
  refine seg 1 [] [0, 4, 13] [(0, (.string p0)), (4, (.slice none 0 0)), (13, (.string p0))] [] (fun fb => by kernel_rfl) rfl trivial ?_
  refine seg 2 [] [0, 4, 14] [(0, (.string p0)), (4, (.slice none 0 0)), (14, (.bool (p0.toList == (⟨#[]⟩ : ByteArray).toList)))] [] (fun fb => by kernel_rfl) rfl trivial ?_
  refine WL.setB 14 (strEq_raw p0 (⟨#[]⟩ : ByteArray)) rfl ?_
  refine WL.done rfl ?_
  refine WX.next ?_
  rcases br_some hf with ⟨h6, hf⟩ | ⟨h6, hf⟩
  · refine WC.condT2 (fun fb => by kernel_rfl) h6 ?_
    refine WC.seq ?_
    refine WC.region ?_
    refine seg 2 [] [2, 3] [(2, (.slice none 0 0)), (3, (.int .i64 0))] [] (fun fb => by kernel_rfl) rfl trivial ?_
    refine WL.done rfl ?_
    refine WX.next ?_
    refine WC.ret ?_
    have hS7 := hS.nilrow 62 enc_Tile
    injection hf with hf
    subst hf
    exact WX.thenR (WX.ret_ [] (.tuple #[(.slice none ([] : List Tile).length 0), (.int .i64 0)]) [] (fun fb => by kernel_rfl) trivial ⟨_, rfl, none, 0, rfl, (hS7.sub [0] (by decide)).noR⟩)
  refine WC.condF2 (fun fb => by kernel_rfl) h6 ?_
  refine WC.skip ?_
  refine WX.next ?_
  refine WC.seq ?_
  refine WC.seq ?_
  refine WC.region ?_
  refine seg 3 [] [0, 4, 17] [(0, (.string p0)), (4, (.slice none 0 0)), (17, (.bool (decide ((p0.size : Int) > 16000))))] [] (fun fb => by kernel_rfl) rfl trivial ?_
  refine WL.done rfl ?_
  refine WX.next ?_
  rcases br_some hf with ⟨h8, hf⟩ | ⟨h8, hf⟩
  · refine WC.condT2 (fun fb => by kernel_rfl) h8 ?_
    refine WC.seq ?_
    refine WC.region ?_
    refine seg 2 [] [2, 3] [(2, (.slice none 0 0)), (3, (.int .i64 3))] [] (fun fb => by kernel_rfl) rfl trivial ?_
    refine WL.done rfl ?_
    refine WX.next ?_
    refine WC.ret ?_
    have hS9 := hS.nilrow 62 enc_Tile
    injection hf with hf
    subst hf
    exact WX.thenR (WX.ret_ [] (.tuple #[(.slice none ([] : List Tile).length 0), (.int .i64 3)]) [] (fun fb => by kernel_rfl) trivial ⟨_, rfl, none, 0, rfl, (hS9.sub [0] (by decide)).noR⟩)
  refine WC.condF2 (fun fb => by kernel_rfl) h8 ?_
  refine WC.skip ?_
  refine WX.next ?_
  refine WC.seq ?_
  refine WC.seq ?_
  refine WC.region ?_
  refine seg 1 [] [0, 4, 18] [(0, (.string p0)), (4, (.slice none 0 0)), (18, (.string p0))] [] (fun fb => by kernel_rfl) rfl trivial ?_
  obtain ⟨h13, hf⟩ := as_some hf
  refine WL.call (some 19) 41 #[(.string p0), (.string (⟨#[32]⟩ : ByteArray))] (fun fb => by kernel_rfl) (split_calls Tryd.strings_Split p0 (⟨#[32]⟩ : ByteArray) mG _ (hS.rd 0) h13) (fun v w11 hR10 => ?_)
  obtain ⟨A14, c15, rfl, hk_⟩ := hR10
  have hS12 : St NoS w w11 [cel ⟨2, 0, none⟩ (.int .i64 mG)] [rowO 9 encStr A14 c15 (splitP p0 (⟨#[32]⟩ : ByteArray))] := hS.call hk_ [] [] (fun g hg => hg.elim) (by simp) (by decide)
  refine ⟨trivial, ?_⟩
  refine seg 4 [] [0, 4, 19, 20, 21] [(0, (.string p0)), (4, (.slice none 0 0)), (19, (.slice A14 (splitP p0 (⟨#[32]⟩ : ByteArray)).length c15)), (20, (.int .i64 ((splitP p0 (⟨#[32]⟩ : ByteArray)).length : Int))), (21, (.int .i64 0))] [] (fun fb => by kernel_rfl) rfl trivial ?_
  refine WL.done rfl ?_
  refine WX.next ?_
  have hS258 := hS12.nilrow 62 enc_Tile
  obtain ⟨x266, hx267, hf⟩ := bind_some hf
  refine WC.cutN (T := (List Tile) × (Option Addr) × Nat) (fun t => [(0, (.string p0)), (4, (.slice t.2.1 t.1.length t.2.2))]) (fun t w1 => St NoS w w1 [cel ⟨2, 0, none⟩ (.int .i64 mG)] [rowO 62 enc_Tile t.2.1 t.2.2 t.1] ∧ x266 = .inr t.1) (fun Kx266 => ?_) ?_
  ·
    refine WC.block ?_
    refine WC.loop (T := ((List Tile) × Int) × (Option Addr) × Nat) (fun t => [(0, (.string p0)), (4, (.slice t.2.1 t.1.1.length t.2.2)), (19, (.slice A14 (splitP p0 (⟨#[32]⟩ : ByteArray)).length c15)), (20, (.int .i64 ((splitP p0 (⟨#[32]⟩ : ByteArray)).length : Int))), (21, (.int .i64 t.1.2))]) (fun n t w1 => St NoS w w1 [cel ⟨2, 0, none⟩ (.int .i64 mG)] [rowO 62 enc_Tile t.2.1 t.2.2 t.1.1, rowO 9 encStr A14 c15 (splitP p0 (⟨#[32]⟩ : ByteArray))] ∧ tile_Parse.l0 n t.1.1 t.1.2 p0 = some x266) k ((([] : List Tile), 0), none, 0) [0, 4, 19, 20, 21] rfl ⟨(hS258.subR [0]).sub [0, 1] (by decide), hx267⟩ ?_
    rintro k268 ⟨⟨l261, x262⟩, A259, c260⟩ w269 ⟨hS270, hl271⟩
    cases k268 with
    | zero => rw [tile_Parse.l0] at hl271; cases hl271
    | succ k268 =>
      rw [tile_Parse.l0] at hl271
      refine WC.seq ?_
      refine WC.region ?_
      refine seg 1 [] [0, 4, 19, 20, 21, 22] [(0, (.string p0)), (4, (.slice A259 l261.length c260)), (19, (.slice A14 (splitP p0 (⟨#[32]⟩ : ByteArray)).length c15)), (20, (.int .i64 ((splitP p0 (⟨#[32]⟩ : ByteArray)).length : Int))), (21, (.int .i64 x262)), (22, (.bool (decide (x262 < ((splitP p0 (⟨#[32]⟩ : ByteArray)).length : Int)))))] [] (fun fb => by kernel_rfl) rfl trivial ?_
      refine WL.done rfl ?_
      refine WX.next ?_
      refine WC.seq ?_
      rcases br_some hl271 with ⟨h272, hl271⟩ | ⟨h272, hl271⟩
      · refine WC.condT2 (fun fb => by kernel_rfl) h272 ?_
        refine WC.skip ?_
        refine WX.next ?_
        refine WC.seq ?_
        refine WC.block ?_
        refine WC.seq ?_
        refine WC.region ?_
        obtain ⟨h273, hl271⟩ := as_some hl271
        refine seg 3 [.v (.string (rdD (splitP p0 (⟨#[32]⟩ : ByteArray)) x262 ByteArray.empty))] [0, 4, 6, 19, 20, 21] [(0, (.string p0)), (4, (.slice A259 l261.length c260)), (6, (.string (rdD (splitP p0 (⟨#[32]⟩ : ByteArray)) x262 ByteArray.empty))), (19, (.slice A14 (splitP p0 (⟨#[32]⟩ : ByteArray)).length c15)), (20, (.int .i64 ((splitP p0 (⟨#[32]⟩ : ByteArray)).length : Int))), (21, (.int .i64 x262))] [.idx A14 x262 (splitP p0 (⟨#[32]⟩ : ByteArray)).length, .cell ((adr A14).add ((x262).toNat * 1)) (.string (rdD (splitP p0 (⟨#[32]⟩ : ByteArray)) x262 ByteArray.empty))] (fun fb => by kernel_rfl) rfl ⟨rowR.adr (rowO.rd (hS270.own 1).1) h273.1 h273.2, rowR.cell (rowO.rd (hS270.own 1).1) ByteArray.empty h273.1 h273.2 0 rfl, trivial⟩ ?_
        refine WL.done rfl ?_
        refine WX.next ?_
        refine WC.seq ?_
        refine WC.region ?_
        refine seg 1 [] [0, 4, 19, 20, 21, 25] [(0, (.string p0)), (4, (.slice A259 l261.length c260)), (19, (.slice A14 (splitP p0 (⟨#[32]⟩ : ByteArray)).length c15)), (20, (.int .i64 ((splitP p0 (⟨#[32]⟩ : ByteArray)).length : Int))), (21, (.int .i64 x262)), (25, (.string (rdD (splitP p0 (⟨#[32]⟩ : ByteArray)) x262 ByteArray.empty)))] [] (fun fb => by kernel_rfl) rfl trivial ?_
        obtain ⟨h277, hl271⟩ := as_some hl271
        refine WL.call (some 26) 41 #[(.string (rdD (splitP p0 (⟨#[32]⟩ : ByteArray)) x262 ByteArray.empty)), (.string (⟨#[46]⟩ : ByteArray))] (fun fb => by kernel_rfl) (split_calls Tryd.strings_Split (rdD (splitP p0 (⟨#[32]⟩ : ByteArray)) x262 ByteArray.empty) (⟨#[46]⟩ : ByteArray) mG _ (hS270.rd 0) h277) (fun v w275 hR274 => ?_)
        obtain ⟨A278, c279, rfl, hk_⟩ := hR274
        have hS276 : St NoS w w275 [cel ⟨2, 0, none⟩ (.int .i64 mG)] [rowO 9 encStr A278 c279 (splitP (rdD (splitP p0 (⟨#[32]⟩ : ByteArray)) x262 ByteArray.empty) (⟨#[46]⟩ : ByteArray)), rowO 62 enc_Tile A259 c260 l261, rowO 9 encStr A14 c15 (splitP p0 (⟨#[32]⟩ : ByteArray))] := hS270.call hk_ [] [0, 1] (fun g hg => hg.elim) (by simp) (by decide)
        refine ⟨trivial, ?_⟩
        refine seg 3 [] [0, 4, 7, 19, 20, 21] [(0, (.string p0)), (4, (.slice A259 l261.length c260)), (7, (.slice A278 (splitP (rdD (splitP p0 (⟨#[32]⟩ : ByteArray)) x262 ByteArray.empty) (⟨#[46]⟩ : ByteArray)).length c279)), (19, (.slice A14 (splitP p0 (⟨#[32]⟩ : ByteArray)).length c15)), (20, (.int .i64 ((splitP p0 (⟨#[32]⟩ : ByteArray)).length : Int))), (21, (.int .i64 x262))] [] (fun fb => by kernel_rfl) rfl trivial ?_
        refine WL.done rfl ?_
        refine WX.next ?_
        refine WC.seq ?_
        refine WC.seq ?_
        refine WC.region ?_
        refine seg 4 [] [0, 4, 7, 19, 20, 21, 30] [(0, (.string p0)), (4, (.slice A259 l261.length c260)), (7, (.slice A278 (splitP (rdD (splitP p0 (⟨#[32]⟩ : ByteArray)) x262 ByteArray.empty) (⟨#[46]⟩ : ByteArray)).length c279)), (19, (.slice A14 (splitP p0 (⟨#[32]⟩ : ByteArray)).length c15)), (20, (.int .i64 ((splitP p0 (⟨#[32]⟩ : ByteArray)).length : Int))), (21, (.int .i64 x262)), (30, (.bool (((splitP (rdD (splitP p0 (⟨#[32]⟩ : ByteArray)) x262 ByteArray.empty) (⟨#[46]⟩ : ByteArray)).length : Int) != 4)))] [] (fun fb => by kernel_rfl) rfl trivial ?_
        refine WL.cutV (T := Bool) 8 (fun t => [(34, (.bool t)), (0, (.string p0)), (4, (.slice A259 l261.length c260)), (7, (.slice A278 (splitP (rdD (splitP p0 (⟨#[32]⟩ : ByteArray)) x262 ByteArray.empty) (⟨#[46]⟩ : ByteArray)).length c279)), (19, (.slice A14 (splitP p0 (⟨#[32]⟩ : ByteArray)).length c15)), (20, (.int .i64 ((splitP p0 (⟨#[32]⟩ : ByteArray)).length : Int))), (21, (.int .i64 x262))]) (fun t => t = ((((splitP (rdD (splitP p0 (⟨#[32]⟩ : ByteArray)) x262 ByteArray.empty) (⟨#[46]⟩ : ByteArray)).length : Int) != 4) || (decide ((l261.length : Int) > 1000)))) (fun K => ?_) ?_
        ·
          rcases Bool.eq_false_or_eq_true (((splitP (rdD (splitP p0 (⟨#[32]⟩ : ByteArray)) x262 ByteArray.empty) (⟨#[46]⟩ : ByteArray)).length : Int) != 4) with h280 | h280
          ·
            refine WL.setB 30 h280 rfl ?_
            refine seg 8 [] [0, 4, 7, 19, 20, 21, 34] [(0, (.string p0)), (4, (.slice A259 l261.length c260)), (7, (.slice A278 (splitP (rdD (splitP p0 (⟨#[32]⟩ : ByteArray)) x262 ByteArray.empty) (⟨#[46]⟩ : ByteArray)).length c279)), (19, (.slice A14 (splitP p0 (⟨#[32]⟩ : ByteArray)).length c15)), (20, (.int .i64 ((splitP p0 (⟨#[32]⟩ : ByteArray)).length : Int))), (21, (.int .i64 x262)), (34, (.bool true))] [] (fun fb => by kernel_rfl) rfl trivial ?_
            exact WL.toV K true [34, 0, 4, 7, 19, 20, 21] rfl (by first | (rw [h280]; done) | (rw [h280]; rfl))
          refine WL.setB 30 h280 rfl ?_
          refine seg 8 [] [0, 4, 7, 19, 20, 21, 34] [(0, (.string p0)), (4, (.slice A259 l261.length c260)), (7, (.slice A278 (splitP (rdD (splitP p0 (⟨#[32]⟩ : ByteArray)) x262 ByteArray.empty) (⟨#[46]⟩ : ByteArray)).length c279)), (19, (.slice A14 (splitP p0 (⟨#[32]⟩ : ByteArray)).length c15)), (20, (.int .i64 ((splitP p0 (⟨#[32]⟩ : ByteArray)).length : Int))), (21, (.int .i64 x262)), (34, (.bool (decide ((l261.length : Int) > 1000))))] [] (fun fb => by kernel_rfl) rfl trivial ?_
          exact WL.toV K (decide ((l261.length : Int) > 1000)) [34, 0, 4, 7, 19, 20, 21] rfl (by first | (rw [h280]; done) | (rw [h280]; rfl))
        rintro b281 rfl
        refine WL.done rfl ?_
        refine WX.next ?_
        rcases br_some hl271 with ⟨h282, hl271⟩ | ⟨h282, hl271⟩
        · refine WC.condT2 (fun fb => by kernel_rfl) h282 ?_
          refine WC.seq ?_
          refine WC.region ?_
          refine seg 2 [] [2, 3] [(2, (.slice none 0 0)), (3, (.int .i64 3))] [] (fun fb => by kernel_rfl) rfl trivial ?_
          refine WL.done rfl ?_
          refine WX.next ?_
          refine WC.ret ?_
          have hS283 := hS276.nilrow 62 enc_Tile
          injection hl271 with hl271
          subst hl271
          injection hf with hf
          subst hf
          exact WX.thenR (WX.blockR (WX.thenR (WX.thenR (WX.blockR (WX.thenR (WX.ret_ [] (.tuple #[(.slice none ([] : List Tile).length 0), (.int .i64 3)]) [] (fun fb => by kernel_rfl) trivial ⟨_, rfl, none, 0, rfl, (hS283.sub [0] (by decide)).noR⟩))))))
        refine WC.condF2 (fun fb => by kernel_rfl) h282 ?_
        refine WC.skip ?_
        refine WX.next ?_
        refine WC.seq ?_
        refine WC.region ?_
        refine WL.new hS276 8 [] (fun g => (.pointer (some ⟨g, 0, none⟩))) (.cells #[(.int .i64 0), (.int .i64 0), (.int .i64 0), (.int .i64 0)] 56 (0, 0)) [] (fun fb g => by kernel_rfl) trivial (fun g284 w285 hS286 => ?_)
        refine ⟨trivial, ?_⟩
        refine WL.done rfl ?_
        refine WX.next ?_
        refine WC.seq ?_
        refine WC.seq ?_
        refine WC.region ?_
        refine seg 3 [] [0, 4, 8, 19, 20, 21, 35, 36, 37] [(0, (.string p0)), (4, (.slice A259 l261.length c260)), (8, (.pointer (some ⟨g284, 0, none⟩))), (19, (.slice A14 (splitP p0 (⟨#[32]⟩ : ByteArray)).length c15)), (20, (.int .i64 ((splitP p0 (⟨#[32]⟩ : ByteArray)).length : Int))), (21, (.int .i64 x262)), (35, (.slice A278 (splitP (rdD (splitP p0 (⟨#[32]⟩ : ByteArray)) x262 ByteArray.empty) (⟨#[46]⟩ : ByteArray)).length c279)), (36, (.int .i64 ((splitP (rdD (splitP p0 (⟨#[32]⟩ : ByteArray)) x262 ByteArray.empty) (⟨#[46]⟩ : ByteArray)).length : Int))), (37, (.int .i64 0))] [] (fun fb => by kernel_rfl) rfl trivial ?_
        refine WL.done rfl ?_
        refine WX.next ?_
        obtain ⟨x351, hx352, hl271⟩ := bind_some hl271
        refine WC.cutN (T := Int × Int × Int × Int) (fun t => [(0, (.string p0)), (4, (.slice A259 l261.length c260)), (8, (.pointer (some ⟨g284, 0, none⟩))), (19, (.slice A14 (splitP p0 (⟨#[32]⟩ : ByteArray)).length c15)), (20, (.int .i64 ((splitP p0 (⟨#[32]⟩ : ByteArray)).length : Int))), (21, (.int .i64 x262))]) (fun t w1 => St NoS w w1 [cel ⟨2, 0, none⟩ (.int .i64 mG)] [rowO 62 enc_Tile A259 c260 l261, blk g284 (.cells #[(.int .i64 t.1), (.int .i64 t.2.1), (.int .i64 t.2.2.1), (.int .i64 t.2.2.2)] 56 (0, 0)), rowO 9 encStr A14 c15 (splitP p0 (⟨#[32]⟩ : ByteArray))] ∧ x351 = t) (fun Kx351 => ?_) ?_
        ·
          refine WC.block ?_
          refine WC.loop (T := Int × Int × Int × Int × Int) (fun t => [(0, (.string p0)), (4, (.slice A259 l261.length c260)), (8, (.pointer (some ⟨g284, 0, none⟩))), (19, (.slice A14 (splitP p0 (⟨#[32]⟩ : ByteArray)).length c15)), (20, (.int .i64 ((splitP p0 (⟨#[32]⟩ : ByteArray)).length : Int))), (21, (.int .i64 x262)), (35, (.slice A278 (splitP (rdD (splitP p0 (⟨#[32]⟩ : ByteArray)) x262 ByteArray.empty) (⟨#[46]⟩ : ByteArray)).length c279)), (36, (.int .i64 ((splitP (rdD (splitP p0 (⟨#[32]⟩ : ByteArray)) x262 ByteArray.empty) (⟨#[46]⟩ : ByteArray)).length : Int))), (37, (.int .i64 t.2.2.2.2))]) (fun n t w1 => St NoS w w1 [cel ⟨2, 0, none⟩ (.int .i64 mG)] [rowO 62 enc_Tile A259 c260 l261, blk g284 (.cells #[(.int .i64 t.1), (.int .i64 t.2.1), (.int .i64 t.2.2.1), (.int .i64 t.2.2.2.1)] 56 (0, 0)), rowO 9 encStr A14 c15 (splitP p0 (⟨#[32]⟩ : ByteArray)), rowO 9 encStr A278 c279 (splitP (rdD (splitP p0 (⟨#[32]⟩ : ByteArray)) x262 ByteArray.empty) (⟨#[46]⟩ : ByteArray))] ∧ tile_Parse.l1 n t.1 t.2.1 t.2.2.1 t.2.2.2.1 t.2.2.2.2 p0 x262 = some x351) k268 (0, 0, 0, 0, 0) [0, 4, 8, 19, 20, 21, 35, 36, 37] rfl ⟨(hS286.subR [0]).sub [2, 0, 3, 1] (by decide), hx352⟩ ?_
          rintro k353 ⟨x342, x343, x344, x345, x346⟩ w354 ⟨hS355, hl356⟩
          cases k353 with
          | zero => rw [tile_Parse.l1] at hl356; cases hl356
          | succ k353 =>
            rw [tile_Parse.l1] at hl356
            refine WC.seq ?_
            refine WC.region ?_
            refine seg 1 [] [0, 4, 8, 19, 20, 21, 35, 36, 37, 38] [(0, (.string p0)), (4, (.slice A259 l261.length c260)), (8, (.pointer (some ⟨g284, 0, none⟩))), (19, (.slice A14 (splitP p0 (⟨#[32]⟩ : ByteArray)).length c15)), (20, (.int .i64 ((splitP p0 (⟨#[32]⟩ : ByteArray)).length : Int))), (21, (.int .i64 x262)), (35, (.slice A278 (splitP (rdD (splitP p0 (⟨#[32]⟩ : ByteArray)) x262 ByteArray.empty) (⟨#[46]⟩ : ByteArray)).length c279)), (36, (.int .i64 ((splitP (rdD (splitP p0 (⟨#[32]⟩ : ByteArray)) x262 ByteArray.empty) (⟨#[46]⟩ : ByteArray)).length : Int))), (37, (.int .i64 x346)), (38, (.bool (decide (x346 < ((splitP (rdD (splitP p0 (⟨#[32]⟩ : ByteArray)) x262 ByteArray.empty) (⟨#[46]⟩ : ByteArray)).length : Int)))))] [] (fun fb => by kernel_rfl) rfl trivial ?_
            refine WL.done rfl ?_
            refine WX.next ?_
            refine WC.seq ?_
            rcases br_some hl356 with ⟨h357, hl356⟩ | ⟨h357, hl356⟩
            · refine WC.condT2 (fun fb => by kernel_rfl) h357 ?_
              refine WC.skip ?_
              refine WX.next ?_
              refine WC.seq ?_
              refine WC.block ?_
              refine WC.seq ?_
              refine WC.region ?_
              refine seg 1 [] [0, 4, 8, 19, 20, 21, 35, 36, 37, 39] [(0, (.string p0)), (4, (.slice A259 l261.length c260)), (8, (.pointer (some ⟨g284, 0, none⟩))), (19, (.slice A14 (splitP p0 (⟨#[32]⟩ : ByteArray)).length c15)), (20, (.int .i64 ((splitP p0 (⟨#[32]⟩ : ByteArray)).length : Int))), (21, (.int .i64 x262)), (35, (.slice A278 (splitP (rdD (splitP p0 (⟨#[32]⟩ : ByteArray)) x262 ByteArray.empty) (⟨#[46]⟩ : ByteArray)).length c279)), (36, (.int .i64 ((splitP (rdD (splitP p0 (⟨#[32]⟩ : ByteArray)) x262 ByteArray.empty) (⟨#[46]⟩ : ByteArray)).length : Int))), (37, (.int .i64 x346)), (39, (.int .i64 x346))] [] (fun fb => by kernel_rfl) rfl trivial ?_
              obtain ⟨h358, hl356⟩ := as_some hl356
              refine seg 5 [.v (.string (rdD (splitP (rdD (splitP p0 (⟨#[32]⟩ : ByteArray)) x262 ByteArray.empty) (⟨#[46]⟩ : ByteArray)) x346 ByteArray.empty))] [0, 4, 8, 9, 10, 19, 20, 21, 35, 36, 37] [(0, (.string p0)), (4, (.slice A259 l261.length c260)), (8, (.pointer (some ⟨g284, 0, none⟩))), (9, (.int .i64 x346)), (10, (.string (rdD (splitP (rdD (splitP p0 (⟨#[32]⟩ : ByteArray)) x262 ByteArray.empty) (⟨#[46]⟩ : ByteArray)) x346 ByteArray.empty))), (19, (.slice A14 (splitP p0 (⟨#[32]⟩ : ByteArray)).length c15)), (20, (.int .i64 ((splitP p0 (⟨#[32]⟩ : ByteArray)).length : Int))), (21, (.int .i64 x262)), (35, (.slice A278 (splitP (rdD (splitP p0 (⟨#[32]⟩ : ByteArray)) x262 ByteArray.empty) (⟨#[46]⟩ : ByteArray)).length c279)), (36, (.int .i64 ((splitP (rdD (splitP p0 (⟨#[32]⟩ : ByteArray)) x262 ByteArray.empty) (⟨#[46]⟩ : ByteArray)).length : Int))), (37, (.int .i64 x346))] [.idx A278 x346 (splitP (rdD (splitP p0 (⟨#[32]⟩ : ByteArray)) x262 ByteArray.empty) (⟨#[46]⟩ : ByteArray)).length, .cell ((adr A278).add ((x346).toNat * 1)) (.string (rdD (splitP (rdD (splitP p0 (⟨#[32]⟩ : ByteArray)) x262 ByteArray.empty) (⟨#[46]⟩ : ByteArray)) x346 ByteArray.empty))] (fun fb => by kernel_rfl) rfl ⟨rowR.adr (rowO.rd (hS355.own 3).1) h358.1 h358.2, rowR.cell (rowO.rd (hS355.own 3).1) ByteArray.empty h358.1 h358.2 0 rfl, trivial⟩ ?_
              refine WL.done rfl ?_
              refine WX.next ?_
              refine WC.seq ?_
              refine WC.region ?_
              refine seg 1 [] [0, 4, 8, 9, 19, 20, 21, 35, 36, 37, 43] [(0, (.string p0)), (4, (.slice A259 l261.length c260)), (8, (.pointer (some ⟨g284, 0, none⟩))), (9, (.int .i64 x346)), (19, (.slice A14 (splitP p0 (⟨#[32]⟩ : ByteArray)).length c15)), (20, (.int .i64 ((splitP p0 (⟨#[32]⟩ : ByteArray)).length : Int))), (21, (.int .i64 x262)), (35, (.slice A278 (splitP (rdD (splitP p0 (⟨#[32]⟩ : ByteArray)) x262 ByteArray.empty) (⟨#[46]⟩ : ByteArray)).length c279)), (36, (.int .i64 ((splitP (rdD (splitP p0 (⟨#[32]⟩ : ByteArray)) x262 ByteArray.empty) (⟨#[46]⟩ : ByteArray)).length : Int))), (37, (.int .i64 x346)), (43, (.string (rdD (splitP (rdD (splitP p0 (⟨#[32]⟩ : ByteArray)) x262 ByteArray.empty) (⟨#[46]⟩ : ByteArray)) x346 ByteArray.empty)))] [] (fun fb => by kernel_rfl) rfl trivial ?_
              obtain ⟨t362, ht363, hl356⟩ := bind_some hl356
              refine WL.call (some 44) 42 #[(.string (rdD (splitP (rdD (splitP p0 (⟨#[32]⟩ : ByteArray)) x262 ByteArray.empty) (⟨#[46]⟩ : ByteArray)) x346 ByteArray.empty))] (fun fb => by kernel_rfl) (atoi_calls Tryd.strconv_Atoi_ok (rdD (splitP (rdD (splitP p0 (⟨#[32]⟩ : ByteArray)) x262 ByteArray.empty) (⟨#[46]⟩ : ByteArray)) x346 ByteArray.empty) t362 _ ht363) (fun v w360 hR359 => ?_)
              obtain ⟨rfl, hk_⟩ := hR359
              have hS361 := hS355.keepN hk_
              refine ⟨trivial, ?_⟩
              refine seg 7 [] [0, 4, 8, 9, 11, 12, 19, 20, 21, 35, 36, 37] [(0, (.string p0)), (4, (.slice A259 l261.length c260)), (8, (.pointer (some ⟨g284, 0, none⟩))), (9, (.int .i64 x346)), (11, (.int .i64 t362)), (12, .nilIface), (19, (.slice A14 (splitP p0 (⟨#[32]⟩ : ByteArray)).length c15)), (20, (.int .i64 ((splitP p0 (⟨#[32]⟩ : ByteArray)).length : Int))), (21, (.int .i64 x262)), (35, (.slice A278 (splitP (rdD (splitP p0 (⟨#[32]⟩ : ByteArray)) x262 ByteArray.empty) (⟨#[46]⟩ : ByteArray)).length c279)), (36, (.int .i64 ((splitP (rdD (splitP p0 (⟨#[32]⟩ : ByteArray)) x262 ByteArray.empty) (⟨#[46]⟩ : ByteArray)).length : Int))), (37, (.int .i64 x346))] [] (fun fb => by kernel_rfl) rfl trivial ?_
              refine WL.done rfl ?_
              refine WX.next ?_
              refine WC.seq ?_
              refine WC.seq ?_
              refine WC.region ?_
              refine seg 2 [] [0, 4, 8, 9, 11, 19, 20, 21, 35, 36, 37, 48] [(0, (.string p0)), (4, (.slice A259 l261.length c260)), (8, (.pointer (some ⟨g284, 0, none⟩))), (9, (.int .i64 x346)), (11, (.int .i64 t362)), (19, (.slice A14 (splitP p0 (⟨#[32]⟩ : ByteArray)).length c15)), (20, (.int .i64 ((splitP p0 (⟨#[32]⟩ : ByteArray)).length : Int))), (21, (.int .i64 x262)), (35, (.slice A278 (splitP (rdD (splitP p0 (⟨#[32]⟩ : ByteArray)) x262 ByteArray.empty) (⟨#[46]⟩ : ByteArray)).length c279)), (36, (.int .i64 ((splitP (rdD (splitP p0 (⟨#[32]⟩ : ByteArray)) x262 ByteArray.empty) (⟨#[46]⟩ : ByteArray)).length : Int))), (37, (.int .i64 x346)), (48, (.bool false))] [] (fun fb => by kernel_rfl) rfl trivial ?_
              refine WL.done rfl ?_
              refine WX.next ?_
              refine WC.condF (fun fb => by kernel_rfl) ?_
              refine WC.skip ?_
              refine WX.next ?_
              refine WC.region ?_
              refine seg 2 [] [0, 4, 8, 19, 20, 21, 35, 36, 37, 49, 50] [(0, (.string p0)), (4, (.slice A259 l261.length c260)), (8, (.pointer (some ⟨g284, 0, none⟩))), (19, (.slice A14 (splitP p0 (⟨#[32]⟩ : ByteArray)).length c15)), (20, (.int .i64 ((splitP p0 (⟨#[32]⟩ : ByteArray)).length : Int))), (21, (.int .i64 x262)), (35, (.slice A278 (splitP (rdD (splitP p0 (⟨#[32]⟩ : ByteArray)) x262 ByteArray.empty) (⟨#[46]⟩ : ByteArray)).length c279)), (36, (.int .i64 ((splitP (rdD (splitP p0 (⟨#[32]⟩ : ByteArray)) x262 ByteArray.empty) (⟨#[46]⟩ : ByteArray)).length : Int))), (37, (.int .i64 x346)), (49, (.int .i64 x346)), (50, (.int .i64 t362))] [] (fun fb => by kernel_rfl) rfl trivial ?_
              rcases br_some hl356 with ⟨h364, hl356⟩ | ⟨h364, hl356⟩
              ·
                refine WL.setI 49 (eq_of_beq h364) rfl ?_
                refine seg 3 [] [0, 4, 8, 19, 20, 21, 35, 36, 37, 50, 51] [(0, (.string p0)), (4, (.slice A259 l261.length c260)), (8, (.pointer (some ⟨g284, 0, none⟩))), (19, (.slice A14 (splitP p0 (⟨#[32]⟩ : ByteArray)).length c15)), (20, (.int .i64 ((splitP p0 (⟨#[32]⟩ : ByteArray)).length : Int))), (21, (.int .i64 x262)), (35, (.slice A278 (splitP (rdD (splitP p0 (⟨#[32]⟩ : ByteArray)) x262 ByteArray.empty) (⟨#[46]⟩ : ByteArray)).length c279)), (36, (.int .i64 ((splitP (rdD (splitP p0 (⟨#[32]⟩ : ByteArray)) x262 ByteArray.empty) (⟨#[46]⟩ : ByteArray)).length : Int))), (37, (.int .i64 x346)), (50, (.int .i64 t362)), (51, (.pointer (some ⟨g284, 0, none⟩)))] [] (fun fb => by kernel_rfl) rfl trivial ?_
                refine WL.store hS361 1 rfl [(0, (.int .i64 t362))] #[(.int .i64 t362), (.int .i64 x343), (.int .i64 x344), (.int .i64 x345)] (fun fb => by kernel_rfl) (by kernel_rfl) rfl [0, 2, 3] (by decide) (by decide) (fun w365 hS366 => ?_)
                refine ⟨trivial, ?_⟩
                refine WL.done rfl ?_
                refine WX.blockN (WX.next ?_)
                refine WC.region ?_
                refine seg 2 [] [0, 4, 8, 19, 20, 21, 35, 36, 37] [(0, (.string p0)), (4, (.slice A259 l261.length c260)), (8, (.pointer (some ⟨g284, 0, none⟩))), (19, (.slice A14 (splitP p0 (⟨#[32]⟩ : ByteArray)).length c15)), (20, (.int .i64 ((splitP p0 (⟨#[32]⟩ : ByteArray)).length : Int))), (21, (.int .i64 x262)), (35, (.slice A278 (splitP (rdD (splitP p0 (⟨#[32]⟩ : ByteArray)) x262 ByteArray.empty) (⟨#[46]⟩ : ByteArray)).length c279)), (36, (.int .i64 ((splitP (rdD (splitP p0 (⟨#[32]⟩ : ByteArray)) x262 ByteArray.empty) (⟨#[46]⟩ : ByteArray)).length : Int))), (37, (.int .i64 (w64 (x346 + 1))))] [] (fun fb => by kernel_rfl) rfl trivial ?_
                refine WL.done rfl ?_
                exact WX.again k353 (Nat.lt_succ_self _) (t362, x343, x344, x345, w64 (x346 + 1)) [0, 4, 8, 19, 20, 21, 35, 36, 37] rfl ⟨(hS366.subR [0]).sub [1, 0, 2, 3] (by decide), hl356⟩
              rcases br_some hl356 with ⟨h367, hl356⟩ | ⟨h367, hl356⟩
              ·
                refine WL.setI 49 (eq_of_beq h367) rfl ?_
                refine seg 3 [] [0, 4, 8, 19, 20, 21, 35, 36, 37, 50, 51] [(0, (.string p0)), (4, (.slice A259 l261.length c260)), (8, (.pointer (some ⟨g284, 0, none⟩))), (19, (.slice A14 (splitP p0 (⟨#[32]⟩ : ByteArray)).length c15)), (20, (.int .i64 ((splitP p0 (⟨#[32]⟩ : ByteArray)).length : Int))), (21, (.int .i64 x262)), (35, (.slice A278 (splitP (rdD (splitP p0 (⟨#[32]⟩ : ByteArray)) x262 ByteArray.empty) (⟨#[46]⟩ : ByteArray)).length c279)), (36, (.int .i64 ((splitP (rdD (splitP p0 (⟨#[32]⟩ : ByteArray)) x262 ByteArray.empty) (⟨#[46]⟩ : ByteArray)).length : Int))), (37, (.int .i64 x346)), (50, (.int .i64 t362)), (51, (.pointer (some ⟨g284, 1, none⟩)))] [] (fun fb => by kernel_rfl) rfl trivial ?_
                refine WL.store hS361 1 rfl [(1, (.int .i64 t362))] #[(.int .i64 x342), (.int .i64 t362), (.int .i64 x344), (.int .i64 x345)] (fun fb => by kernel_rfl) (by kernel_rfl) rfl [0, 2, 3] (by decide) (by decide) (fun w368 hS369 => ?_)
                refine ⟨trivial, ?_⟩
                refine WL.done rfl ?_
                refine WX.blockN (WX.next ?_)
                refine WC.region ?_
                refine seg 2 [] [0, 4, 8, 19, 20, 21, 35, 36, 37] [(0, (.string p0)), (4, (.slice A259 l261.length c260)), (8, (.pointer (some ⟨g284, 0, none⟩))), (19, (.slice A14 (splitP p0 (⟨#[32]⟩ : ByteArray)).length c15)), (20, (.int .i64 ((splitP p0 (⟨#[32]⟩ : ByteArray)).length : Int))), (21, (.int .i64 x262)), (35, (.slice A278 (splitP (rdD (splitP p0 (⟨#[32]⟩ : ByteArray)) x262 ByteArray.empty) (⟨#[46]⟩ : ByteArray)).length c279)), (36, (.int .i64 ((splitP (rdD (splitP p0 (⟨#[32]⟩ : ByteArray)) x262 ByteArray.empty) (⟨#[46]⟩ : ByteArray)).length : Int))), (37, (.int .i64 (w64 (x346 + 1))))] [] (fun fb => by kernel_rfl) rfl trivial ?_
                refine WL.done rfl ?_
                exact WX.again k353 (Nat.lt_succ_self _) (x342, t362, x344, x345, w64 (x346 + 1)) [0, 4, 8, 19, 20, 21, 35, 36, 37] rfl ⟨(hS369.subR [0]).sub [1, 0, 2, 3] (by decide), hl356⟩
              rcases br_some hl356 with ⟨h370, hl356⟩ | ⟨h370, hl356⟩
              ·
                refine WL.setI 49 (eq_of_beq h370) rfl ?_
                refine seg 3 [] [0, 4, 8, 19, 20, 21, 35, 36, 37, 50, 51] [(0, (.string p0)), (4, (.slice A259 l261.length c260)), (8, (.pointer (some ⟨g284, 0, none⟩))), (19, (.slice A14 (splitP p0 (⟨#[32]⟩ : ByteArray)).length c15)), (20, (.int .i64 ((splitP p0 (⟨#[32]⟩ : ByteArray)).length : Int))), (21, (.int .i64 x262)), (35, (.slice A278 (splitP (rdD (splitP p0 (⟨#[32]⟩ : ByteArray)) x262 ByteArray.empty) (⟨#[46]⟩ : ByteArray)).length c279)), (36, (.int .i64 ((splitP (rdD (splitP p0 (⟨#[32]⟩ : ByteArray)) x262 ByteArray.empty) (⟨#[46]⟩ : ByteArray)).length : Int))), (37, (.int .i64 x346)), (50, (.int .i64 t362)), (51, (.pointer (some ⟨g284, 2, none⟩)))] [] (fun fb => by kernel_rfl) rfl trivial ?_
                refine WL.store hS361 1 rfl [(2, (.int .i64 t362))] #[(.int .i64 x342), (.int .i64 x343), (.int .i64 t362), (.int .i64 x345)] (fun fb => by kernel_rfl) (by kernel_rfl) rfl [0, 2, 3] (by decide) (by decide) (fun w371 hS372 => ?_)
                refine ⟨trivial, ?_⟩
                refine WL.done rfl ?_
                refine WX.blockN (WX.next ?_)
                refine WC.region ?_
                refine seg 2 [] [0, 4, 8, 19, 20, 21, 35, 36, 37] [(0, (.string p0)), (4, (.slice A259 l261.length c260)), (8, (.pointer (some ⟨g284, 0, none⟩))), (19, (.slice A14 (splitP p0 (⟨#[32]⟩ : ByteArray)).length c15)), (20, (.int .i64 ((splitP p0 (⟨#[32]⟩ : ByteArray)).length : Int))), (21, (.int .i64 x262)), (35, (.slice A278 (splitP (rdD (splitP p0 (⟨#[32]⟩ : ByteArray)) x262 ByteArray.empty) (⟨#[46]⟩ : ByteArray)).length c279)), (36, (.int .i64 ((splitP (rdD (splitP p0 (⟨#[32]⟩ : ByteArray)) x262 ByteArray.empty) (⟨#[46]⟩ : ByteArray)).length : Int))), (37, (.int .i64 (w64 (x346 + 1))))] [] (fun fb => by kernel_rfl) rfl trivial ?_
                refine WL.done rfl ?_
                exact WX.again k353 (Nat.lt_succ_self _) (x342, x343, t362, x345, w64 (x346 + 1)) [0, 4, 8, 19, 20, 21, 35, 36, 37] rfl ⟨(hS372.subR [0]).sub [1, 0, 2, 3] (by decide), hl356⟩
              rcases br_some hl356 with ⟨h373, hl356⟩ | ⟨h373, hl356⟩
              ·
                refine WL.setI 49 (eq_of_beq h373) rfl ?_
                refine seg 3 [] [0, 4, 8, 19, 20, 21, 35, 36, 37, 50, 51] [(0, (.string p0)), (4, (.slice A259 l261.length c260)), (8, (.pointer (some ⟨g284, 0, none⟩))), (19, (.slice A14 (splitP p0 (⟨#[32]⟩ : ByteArray)).length c15)), (20, (.int .i64 ((splitP p0 (⟨#[32]⟩ : ByteArray)).length : Int))), (21, (.int .i64 x262)), (35, (.slice A278 (splitP (rdD (splitP p0 (⟨#[32]⟩ : ByteArray)) x262 ByteArray.empty) (⟨#[46]⟩ : ByteArray)).length c279)), (36, (.int .i64 ((splitP (rdD (splitP p0 (⟨#[32]⟩ : ByteArray)) x262 ByteArray.empty) (⟨#[46]⟩ : ByteArray)).length : Int))), (37, (.int .i64 x346)), (50, (.int .i64 t362)), (51, (.pointer (some ⟨g284, 3, none⟩)))] [] (fun fb => by kernel_rfl) rfl trivial ?_
                refine WL.store hS361 1 rfl [(3, (.int .i64 t362))] #[(.int .i64 x342), (.int .i64 x343), (.int .i64 x344), (.int .i64 t362)] (fun fb => by kernel_rfl) (by kernel_rfl) rfl [0, 2, 3] (by decide) (by decide) (fun w374 hS375 => ?_)
                refine ⟨trivial, ?_⟩
                refine WL.done rfl ?_
                refine WX.blockN (WX.next ?_)
                refine WC.region ?_
                refine seg 2 [] [0, 4, 8, 19, 20, 21, 35, 36, 37] [(0, (.string p0)), (4, (.slice A259 l261.length c260)), (8, (.pointer (some ⟨g284, 0, none⟩))), (19, (.slice A14 (splitP p0 (⟨#[32]⟩ : ByteArray)).length c15)), (20, (.int .i64 ((splitP p0 (⟨#[32]⟩ : ByteArray)).length : Int))), (21, (.int .i64 x262)), (35, (.slice A278 (splitP (rdD (splitP p0 (⟨#[32]⟩ : ByteArray)) x262 ByteArray.empty) (⟨#[46]⟩ : ByteArray)).length c279)), (36, (.int .i64 ((splitP (rdD (splitP p0 (⟨#[32]⟩ : ByteArray)) x262 ByteArray.empty) (⟨#[46]⟩ : ByteArray)).length : Int))), (37, (.int .i64 (w64 (x346 + 1))))] [] (fun fb => by kernel_rfl) rfl trivial ?_
                refine WL.done rfl ?_
                exact WX.again k353 (Nat.lt_succ_self _) (x342, x343, x344, t362, w64 (x346 + 1)) [0, 4, 8, 19, 20, 21, 35, 36, 37] rfl ⟨(hS375.subR [0]).sub [1, 0, 2, 3] (by decide), hl356⟩
              cases hl356
            refine WC.condF2 (fun fb => by kernel_rfl) h357 ?_
            refine WC.exit ?_
            injection hl356 with hl356
            exact WX.thenX (WX.thenX (WX.blockHere (WX.to Kx351 (x342, x343, x344, x345) [0, 4, 8, 19, 20, 21] rfl ⟨(hS355.subR [0]).sub [0, 1, 2] (by decide), hl356.symm⟩)))
        rintro y379 w376 ⟨hS377, hq378⟩
        subst hq378
        refine WX.next ?_
        refine WC.region ?_
        refine seg 10 [.v (.int .i64 x351.1), .v (.int .i64 x351.2.1), .v (.int .i64 x351.2.2.1), .v (.int .i64 x351.2.2.2)] [0, 19, 20, 21, 53, 62] [(0, (.string p0)), (19, (.slice A14 (splitP p0 (⟨#[32]⟩ : ByteArray)).length c15)), (20, (.int .i64 ((splitP p0 (⟨#[32]⟩ : ByteArray)).length : Int))), (21, (.int .i64 x262)), (53, (.slice A259 l261.length c260)), (62, (.agg #[(.int .i64 x351.1), (.int .i64 x351.2.1), (.int .i64 x351.2.2.1), (.int .i64 x351.2.2.2)]))] [.cell ⟨g284, 0, none⟩ (.int .i64 x351.1), .cell ⟨g284, 1, none⟩ (.int .i64 x351.2.1), .cell ⟨g284, 2, none⟩ (.int .i64 x351.2.2.1), .cell ⟨g284, 3, none⟩ (.int .i64 x351.2.2.2)] (fun fb => by kernel_rfl) rfl ⟨hS377.cell 1 rfl 0 rfl, hS377.cell 1 rfl 1 rfl, hS377.cell 1 rfl 2 rfl, hS377.cell 1 rfl 3 rfl, trivial⟩ ?_
        refine WL.new hS377 63 [] (fun g => (.slice (some ⟨g, 0, none⟩) 1 1)) (.cells #[(.int .i64 x351.1), (.int .i64 x351.2.1), (.int .i64 x351.2.2.1), (.int .i64 x351.2.2.2)] 62 (0, 0)) [] (fun fb g => by kernel_rfl) trivial (fun g380 w381 hS382 => ?_)
        refine ⟨trivial, ?_⟩
        have hS384 : St NoS w w381 [cel ⟨2, 0, none⟩ (.int .i64 mG)] [rowO 62 enc_Tile (some ⟨g380, 0, none⟩) 1 [(Tile.mk x351.1 x351.2.1 x351.2.2.1 x351.2.2.2)], rowO 62 enc_Tile A259 c260 l261, blk g284 (.cells #[(.int .i64 x351.1), (.int .i64 x351.2.1), (.int .i64 x351.2.2.1), (.int .i64 x351.2.2.2)] 56 (0, 0)), rowO 9 encStr A14 c15 (splitP p0 (⟨#[32]⟩ : ByteArray))] := hS382.map1 0 _ (fun h => rowO.ofBlk h rfl (Nat.le_of_ble_eq_true (by kernel_rfl))) (fun _ h => by obtain ⟨_, h1, h2⟩ := h; injection h1 with h1; subst h1; exact h2) [1, 2, 3] (by decide) (by decide)
        obtain ⟨h385, hl271⟩ := as_some hl271
        refine WL.append hS384 1 (d := 64) (tS := 23) (z := (.agg #[(.int .i64 0), (.int .i64 0), (.int .i64 0), (.int .i64 0)])) (bytes := 32) (c2 := 1) rfl (fun fb => by kernel_rfl) (rowO.rd (hS384.own 0).1) (by kernel_rfl) (by kernel_rfl) rfl (by decide) h385 (by decide) [0, 2, 3] (by decide) (by decide) (fun A386 c387 w388 hS389 => ?_)
        refine ⟨trivial, ?_⟩
        refine seg 13 [] [0, 4, 19, 20, 21] [(0, (.string p0)), (4, (.slice A386 (l261 ++ [(Tile.mk x351.1 x351.2.1 x351.2.2.1 x351.2.2.2)]).length c387)), (19, (.slice A14 (splitP p0 (⟨#[32]⟩ : ByteArray)).length c15)), (20, (.int .i64 ((splitP p0 (⟨#[32]⟩ : ByteArray)).length : Int))), (21, (.int .i64 x262))] [] (fun fb => by kernel_rfl) rfl trivial ?_
        refine WL.done rfl ?_
        refine WX.blockN (WX.next ?_)
        refine WC.region ?_
        refine seg 2 [] [0, 4, 19, 20, 21] [(0, (.string p0)), (4, (.slice A386 (l261 ++ [(Tile.mk x351.1 x351.2.1 x351.2.2.1 x351.2.2.2)]).length c387)), (19, (.slice A14 (splitP p0 (⟨#[32]⟩ : ByteArray)).length c15)), (20, (.int .i64 ((splitP p0 (⟨#[32]⟩ : ByteArray)).length : Int))), (21, (.int .i64 (w64 (x262 + 1))))] [] (fun fb => by kernel_rfl) rfl trivial ?_
        refine WL.done rfl ?_
        exact WX.again k268 (Nat.lt_succ_self _) ((l261 ++ [(Tile.mk x351.1 x351.2.1 x351.2.2.1 x351.2.2.2)], w64 (x262 + 1)), A386, c387) [0, 4, 19, 20, 21] rfl ⟨(hS389.subR [0]).sub [0, 3] (by decide), hl271⟩
      refine WC.condF2 (fun fb => by kernel_rfl) h272 ?_
      refine WC.exit ?_
      injection hl271 with hl271
      exact WX.thenX (WX.thenX (WX.blockHere (WX.to Kx266 (l261, A259, c260) [0, 4] rfl ⟨(hS270.subR [0]).sub [0] (by decide), hl271.symm⟩)))
  rintro ⟨y393, A263, c264⟩ w390 ⟨hS391, hq392⟩
  subst hq392
  have hf := sum_inr hf
  refine WX.next ?_
  refine WC.seq ?_
  refine WC.seq ?_
  refine WC.region ?_
  refine seg 1 [] [0, 4, 66] [(0, (.string p0)), (4, (.slice A263 y393.length c264)), (66, (.slice A263 y393.length c264))] [] (fun fb => by kernel_rfl) rfl trivial ?_
  obtain ⟨t583, ht584, hf⟩ := bind_some hf
  refine WL.call (some 67) 22 #[(.slice A263 y393.length c264)] (fun fb => by kernel_rfl) (tile_Valid_calls _ y393 A263 c264 t583 _ (hS391.ow 0).ofO ht584) (fun v w585 hR586 => ?_)
  obtain ⟨rfl, hk_⟩ := hR586
  have hS587 := hS391.keepN hk_
  refine ⟨trivial, ?_⟩
  refine seg 4 [] [0, 4, 69] [(0, (.string p0)), (4, (.slice A263 y393.length c264)), (69, (.bool (!t583)))] [] (fun fb => by kernel_rfl) rfl trivial ?_
  obtain ⟨x1202, hx1203, hf⟩ := bind_some hf
  refine WL.cutW (T := Bool) 9 (fun t => [(4, (.slice A263 y393.length c264)), (74, (.bool t))]) (fun t w1 => (St NoS w w1 [cel ⟨2, 0, none⟩ (.int .i64 mG)] [rowO 62 enc_Tile A263 c264 y393] ∧ x1202 = t) ∧ CellsOK [] w1) (fun K => ?_) ?_
  ·
    rcases br_some hx1203 with ⟨h1204, hx1203⟩ | ⟨h1204, hx1203⟩
    ·
      refine WL.setB 69 h1204 rfl ?_
      refine seg 9 [] [4, 74] [(4, (.slice A263 y393.length c264)), (74, (.bool true))] [] (fun fb => by kernel_rfl) rfl trivial ?_
      injection hx1203 with hx1203
      exact WL.to K true [4, 74] rfl ⟨⟨(hS587.subR [0]).sub [0] (by decide), hx1203.symm⟩, trivial⟩
    refine WL.setB 69 h1204 rfl ?_
    refine seg 5 [] [0, 4, 69, 70] [(0, (.string p0)), (4, (.slice A263 y393.length c264)), (69, (.bool false)), (70, (.slice A263 y393.length c264))] [] (fun fb => by kernel_rfl) rfl trivial ?_
    obtain ⟨t1205, ht1206, hx1203⟩ := bind_some hx1203
    refine WL.call (some 71) 43 #[(.slice A263 y393.length c264)] (fun fb => by kernel_rfl) (tile_write_calls _ y393 A263 c264 t1205 _ (hS587.ow 0).ofO ht1206) (fun v w1207 hR1208 => ?_)
    obtain ⟨rfl, hk_⟩ := hR1208
    have hS1209 := hS587.keepN hk_
    refine ⟨trivial, ?_⟩
    refine seg 7 [] [4, 69, 71, 72] [(4, (.slice A263 y393.length c264)), (69, (.bool false)), (71, (.string t1205)), (72, (.string p0))] [] (fun fb => by kernel_rfl) rfl trivial ?_
    refine seg 8 [] [4, 69, 73] [(4, (.slice A263 y393.length c264)), (69, (.bool false)), (73, (.bool (!(t1205.toList == p0.toList))))] [] (fun fb => by kernel_rfl) rfl trivial ?_
    refine WL.setB 73 (congrArg not (strEq_raw t1205 p0)) rfl ?_
    refine seg 9 [] [4, 74] [(4, (.slice A263 y393.length c264)), (74, (.bool (!(strEq t1205 p0))))] [] (fun fb => by kernel_rfl) rfl trivial ?_
    injection hx1203 with hx1203
    exact WL.to K (!(strEq t1205 p0)) [4, 74] rfl ⟨⟨(hS1209.subR [0]).sub [0] (by decide), hx1203.symm⟩, trivial⟩
  rintro y1210 w1212 ⟨⟨hS1213, hq1211⟩, hF1214⟩
  subst hq1211
  refine WL.done rfl ?_
  refine WX.next ?_
  rcases br_some hf with ⟨h1215, hf⟩ | ⟨h1215, hf⟩
  · refine WC.condT2 (fun fb => by kernel_rfl) h1215 ?_
    refine WC.seq ?_
    refine WC.region ?_
    refine seg 2 [] [2, 3] [(2, (.slice none 0 0)), (3, (.int .i64 3))] [] (fun fb => by kernel_rfl) rfl trivial ?_
    refine WL.done rfl ?_
    refine WX.next ?_
    refine WC.ret ?_
    have hS1216 := hS1213.nilrow 62 enc_Tile
    injection hf with hf
    subst hf
    exact WX.thenR (WX.ret_ [] (.tuple #[(.slice none ([] : List Tile).length 0), (.int .i64 3)]) [] (fun fb => by kernel_rfl) trivial ⟨_, rfl, none, 0, rfl, (hS1216.sub [0] (by decide)).noR⟩)
  refine WC.condF2 (fun fb => by kernel_rfl) h1215 ?_
  refine WC.skip ?_
  refine WX.next ?_
  refine WC.seq ?_
  refine WC.region ?_
  refine seg 3 [] [2, 3] [(2, (.slice A263 y393.length c264)), (3, (.int .i64 0))] [] (fun fb => by kernel_rfl) rfl trivial ?_
  refine WL.done rfl ?_
  refine WX.next ?_
  refine WC.ret ?_
  injection hf with hf
  subst hf
  exact WX.ret_ [] (.tuple #[(.slice A263 y393.length c264), (.int .i64 0)]) [] (fun fb => by kernel_rfl) trivial ⟨_, rfl, A263, c264, rfl, (hS1213.sub [0] (by decide)).noR⟩
theorem tile_Text_calls (k : Nat) (p0 : List Tile) (A_p0 : Option Addr) (c_p0 : Nat) (r : ByteArray × Int) (w : World) (hR0 : RO NoS w (rowR enc_Tile A_p0 c_p0 p0)) (hf : tile_Text k p0 = some r) :
    CallsR Tryd.prog 11 #[(.slice A_p0 p0.length c_p0)] w (fun v w' => v = (.tuple #[(.string r.1), (.int .i64 r.2)]) ∧ Keeps NoS w w') := by
  have hS : St NoS w w [rowR enc_Tile A_p0 c_p0 p0] [] := St.init (ro_cons hR0 (ro_nil _ _))
  refine enter 9 Tryd.func11 rfl Tryd.ntmps11 rfl ?_
  unfold tile_Text at hf
  refine WC.seq ?_
  refine WC.region ?_
  refine seg 2 [] [0] [(0, (.slice A_p0 p0.length c_p0))] [] (fun fb => by kernel_rfl) rfl trivial ?_
  refine WL.done rfl ?_
  refine WX.next ?_
  refine WC.seq ?_
  refine WC.seq ?_
  refine WC.region ?_
  refine seg 1 [] [0, 4] [(0, (.slice A_p0 p0.length c_p0)), (4, (.slice A_p0 p0.length c_p0))] [] (fun fb => by kernel_rfl) rfl trivial ?_
  obtain ⟨t1242, ht1243, hf⟩ := bind_some hf
  refine WL.call (some 5) 22 #[(.slice A_p0 p0.length c_p0)] (fun fb => by kernel_rfl) (tile_Valid_calls _ p0 A_p0 c_p0 t1242 _ (hS.rd 0) ht1243) (fun v w1244 hR1245 => ?_)
  obtain ⟨rfl, hk_⟩ := hR1245
  have hS1246 := hS.keepN hk_
  refine ⟨trivial, ?_⟩
  refine seg 3 [] [0, 6] [(0, (.slice A_p0 p0.length c_p0)), (6, (.bool (!t1242)))] [] (fun fb => by kernel_rfl) rfl trivial ?_
  refine WL.done rfl ?_
  refine WX.next ?_
  rcases br_some hf with ⟨h1247, hf⟩ | ⟨h1247, hf⟩
  · refine WC.condT2 (fun fb => by kernel_rfl) h1247 ?_
    refine WC.seq ?_
    refine WC.region ?_
    refine seg 2 [] [2, 3] [(2, (.string (⟨#[]⟩ : ByteArray))), (3, (.int .i64 1))] [] (fun fb => by kernel_rfl) rfl trivial ?_
    refine WL.done rfl ?_
    refine WX.next ?_
    refine WC.ret ?_
    injection hf with hf
    subst hf
    exact WX.thenR (WX.ret_ [] (.tuple #[(.string (⟨#[]⟩ : ByteArray)), (.int .i64 1)]) [] (fun fb => by kernel_rfl) trivial ⟨_, rfl, rfl, hS1246.keep⟩)
  refine WC.condF2 (fun fb => by kernel_rfl) h1247 ?_
  refine WC.skip ?_
  refine WX.next ?_
  refine WC.seq ?_
  refine WC.region ?_
  refine seg 1 [] [7] [(7, (.slice A_p0 p0.length c_p0))] [] (fun fb => by kernel_rfl) rfl trivial ?_
  obtain ⟨t1248, ht1249, hf⟩ := bind_some hf
  refine WL.call (some 8) 43 #[(.slice A_p0 p0.length c_p0)] (fun fb => by kernel_rfl) (tile_write_calls _ p0 A_p0 c_p0 t1248 _ (hS1246.rd 0) ht1249) (fun v w1250 hR1251 => ?_)
  obtain ⟨rfl, hk_⟩ := hR1251
  have hS1252 := hS1246.keepN hk_
  refine ⟨trivial, ?_⟩
  refine seg 4 [] [2, 3] [(2, (.string t1248)), (3, (.int .i64 0))] [] (fun fb => by kernel_rfl) rfl trivial ?_
  refine WL.done rfl ?_
  refine WX.next ?_
  refine WC.ret ?_
  injection hf with hf
  subst hf
  exact WX.ret_ [] (.tuple #[(.string t1248), (.int .i64 0)]) [] (fun fb => by kernel_rfl) trivial ⟨_, rfl, rfl, hS1252.keep⟩
theorem tile_Form_calls (p0 : Pattern) (A_p0_Cells : Option Addr) (c_p0_Cells : Nat) (r : Bool) (w : World) (hR0 : RO NoS w (rowR encInt A_p0_Cells c_p0_Cells p0.Cells)) (hf : tile_Form p0 = some r) :
    CallsR Tryd.prog 54 #[(.agg #[(.int .i64 p0.Width), (.int .i64 p0.Height), (.slice A_p0_Cells p0.Cells.length c_p0_Cells)])] w (fun v w' => v = (.bool r) ∧ Keeps NoS w w') := by
  have hS : St NoS w w [rowR encInt A_p0_Cells c_p0_Cells p0.Cells] [] := St.init (ro_cons hR0 (ro_nil _ _))
  refine enter 40 Tryd.func54 rfl Tryd.ntmps54 rfl ?_
  unfold tile_Form at hf
  refine WC.seq ?_
  refine WC.region ?_
  refine WL.new hS 1 [] (fun g => (.pointer (some ⟨g, 0, none⟩))) (.cells #[(.int .i64 p0.Width), (.int .i64 p0.Height), (.slice A_p0_Cells p0.Cells.length c_p0_Cells)] 35 (0, 0)) [] (fun fb g => by kernel_rfl) trivial (fun g1286 w1287 hS1288 => ?_)
  refine ⟨trivial, ?_⟩
  refine seg 2 [] [1] [(1, (.pointer (some ⟨g1286, 0, none⟩)))] [] (fun fb => by kernel_rfl) rfl trivial ?_
  refine WL.done rfl ?_
  refine WX.next ?_
  refine WC.seq ?_
  refine WC.region ?_
  refine seg 4 [.v (.int .i64 p0.Width)] [1, 6] [(1, (.pointer (some ⟨g1286, 0, none⟩))), (6, (.bool (decide (p0.Width ≥ 1))))] [.cell ⟨g1286, 0, none⟩ (.int .i64 p0.Width)] (fun fb => by kernel_rfl) rfl ⟨hS1288.cell 0 rfl 0 rfl, trivial⟩ ?_
  refine WL.cutV (T := Bool) 8 (fun t => [(10, (.bool t)), (1, (.pointer (some ⟨g1286, 0, none⟩)))]) (fun t => t = ((decide (p0.Width ≥ 1)) && (decide (p0.Height ≥ 1)))) (fun K => ?_) ?_
  ·
    rcases Bool.eq_false_or_eq_true (decide (p0.Width ≥ 1)) with h1290 | h1290
    ·
      refine WL.setB 6 h1290 rfl ?_
      refine seg 8 [.v (.int .i64 p0.Height)] [1, 10] [(1, (.pointer (some ⟨g1286, 0, none⟩))), (10, (.bool (decide (p0.Height ≥ 1))))] [.cell ⟨g1286, 1, none⟩ (.int .i64 p0.Height)] (fun fb => by kernel_rfl) rfl ⟨hS1288.cell 0 rfl 1 rfl, trivial⟩ ?_
      exact WL.toV K (decide (p0.Height ≥ 1)) [10, 1] rfl (by first | (rw [h1290]; done) | (rw [h1290]; rfl))
    refine WL.setB 6 h1290 rfl ?_
    refine seg 8 [] [1, 10] [(1, (.pointer (some ⟨g1286, 0, none⟩))), (10, (.bool false))] [] (fun fb => by kernel_rfl) rfl trivial ?_
    exact WL.toV K false [10, 1] rfl (by first | (rw [h1290]; done) | (rw [h1290]; rfl))
  rintro b1291 rfl
  refine seg 9 [] [1, 11] [(1, (.pointer (some ⟨g1286, 0, none⟩))), (11, (.bool ((decide (p0.Width ≥ 1)) && (decide (p0.Height ≥ 1)))))] [] (fun fb => by kernel_rfl) rfl trivial ?_
  refine WL.cutV (T := Bool) 13 (fun t => [(15, (.bool t)), (1, (.pointer (some ⟨g1286, 0, none⟩)))]) (fun t => t = (((decide (p0.Width ≥ 1)) && (decide (p0.Height ≥ 1))) && (decide (p0.Width ≤ 40000)))) (fun K => ?_) ?_
  ·
    rcases Bool.eq_false_or_eq_true ((decide (p0.Width ≥ 1)) && (decide (p0.Height ≥ 1))) with h1292 | h1292
    ·
      refine WL.setB 11 h1292 rfl ?_
      refine seg 13 [.v (.int .i64 p0.Width)] [1, 15] [(1, (.pointer (some ⟨g1286, 0, none⟩))), (15, (.bool (decide (p0.Width ≤ 40000))))] [.cell ⟨g1286, 0, none⟩ (.int .i64 p0.Width)] (fun fb => by kernel_rfl) rfl ⟨hS1288.cell 0 rfl 0 rfl, trivial⟩ ?_
      exact WL.toV K (decide (p0.Width ≤ 40000)) [15, 1] rfl (by first | (rw [h1292]; done) | (rw [h1292]; rfl))
    refine WL.setB 11 h1292 rfl ?_
    refine seg 13 [] [1, 15] [(1, (.pointer (some ⟨g1286, 0, none⟩))), (15, (.bool false))] [] (fun fb => by kernel_rfl) rfl trivial ?_
    exact WL.toV K false [15, 1] rfl (by first | (rw [h1292]; done) | (rw [h1292]; rfl))
  rintro b1293 rfl
  refine seg 14 [] [1, 16] [(1, (.pointer (some ⟨g1286, 0, none⟩))), (16, (.bool (((decide (p0.Width ≥ 1)) && (decide (p0.Height ≥ 1))) && (decide (p0.Width ≤ 40000)))))] [] (fun fb => by kernel_rfl) rfl trivial ?_
  refine WL.cutV (T := Bool) 18 (fun t => [(20, (.bool t)), (1, (.pointer (some ⟨g1286, 0, none⟩)))]) (fun t => t = ((((decide (p0.Width ≥ 1)) && (decide (p0.Height ≥ 1))) && (decide (p0.Width ≤ 40000))) && (decide (p0.Height ≤ 40000)))) (fun K => ?_) ?_
  ·
    rcases Bool.eq_false_or_eq_true (((decide (p0.Width ≥ 1)) && (decide (p0.Height ≥ 1))) && (decide (p0.Width ≤ 40000))) with h1294 | h1294
    ·
      refine WL.setB 16 h1294 rfl ?_
      refine seg 18 [.v (.int .i64 p0.Height)] [1, 20] [(1, (.pointer (some ⟨g1286, 0, none⟩))), (20, (.bool (decide (p0.Height ≤ 40000))))] [.cell ⟨g1286, 1, none⟩ (.int .i64 p0.Height)] (fun fb => by kernel_rfl) rfl ⟨hS1288.cell 0 rfl 1 rfl, trivial⟩ ?_
      exact WL.toV K (decide (p0.Height ≤ 40000)) [20, 1] rfl (by first | (rw [h1294]; done) | (rw [h1294]; rfl))
    refine WL.setB 16 h1294 rfl ?_
    refine seg 18 [] [1, 20] [(1, (.pointer (some ⟨g1286, 0, none⟩))), (20, (.bool false))] [] (fun fb => by kernel_rfl) rfl trivial ?_
    exact WL.toV K false [20, 1] rfl (by first | (rw [h1294]; done) | (rw [h1294]; rfl))
  rintro b1295 rfl
  refine seg 19 [] [1, 21] [(1, (.pointer (some ⟨g1286, 0, none⟩))), (21, (.bool ((((decide (p0.Width ≥ 1)) && (decide (p0.Height ≥ 1))) && (decide (p0.Width ≤ 40000))) && (decide (p0.Height ≤ 40000)))))] [] (fun fb => by kernel_rfl) rfl trivial ?_
  refine WL.cutV (T := Bool) 26 (fun t => [(28, (.bool t)), (1, (.pointer (some ⟨g1286, 0, none⟩)))]) (fun t => t = (((((decide (p0.Width ≥ 1)) && (decide (p0.Height ≥ 1))) && (decide (p0.Width ≤ 40000))) && (decide (p0.Height ≤ 40000))) && (decide (w64 (p0.Width * p0.Height) ≤ 40000)))) (fun K => ?_) ?_
  ·
    rcases Bool.eq_false_or_eq_true ((((decide (p0.Width ≥ 1)) && (decide (p0.Height ≥ 1))) && (decide (p0.Width ≤ 40000))) && (decide (p0.Height ≤ 40000))) with h1296 | h1296
    ·
      refine WL.setB 21 h1296 rfl ?_
      refine seg 26 [.v (.int .i64 p0.Width), .v (.int .i64 p0.Height)] [1, 28] [(1, (.pointer (some ⟨g1286, 0, none⟩))), (28, (.bool (decide (w64 (p0.Width * p0.Height) ≤ 40000))))] [.cell ⟨g1286, 0, none⟩ (.int .i64 p0.Width), .cell ⟨g1286, 1, none⟩ (.int .i64 p0.Height)] (fun fb => by kernel_rfl) rfl ⟨hS1288.cell 0 rfl 0 rfl, hS1288.cell 0 rfl 1 rfl, trivial⟩ ?_
      exact WL.toV K (decide (w64 (p0.Width * p0.Height) ≤ 40000)) [28, 1] rfl (by first | (rw [h1296]; done) | (rw [h1296]; rfl))
    refine WL.setB 21 h1296 rfl ?_
    refine seg 26 [] [1, 28] [(1, (.pointer (some ⟨g1286, 0, none⟩))), (28, (.bool false))] [] (fun fb => by kernel_rfl) rfl trivial ?_
    exact WL.toV K false [28, 1] rfl (by first | (rw [h1296]; done) | (rw [h1296]; rfl))
  rintro b1297 rfl
  refine seg 27 [] [1, 29] [(1, (.pointer (some ⟨g1286, 0, none⟩))), (29, (.bool (((((decide (p0.Width ≥ 1)) && (decide (p0.Height ≥ 1))) && (decide (p0.Width ≤ 40000))) && (decide (p0.Height ≤ 40000))) && (decide (w64 (p0.Width * p0.Height) ≤ 40000)))))] [] (fun fb => by kernel_rfl) rfl trivial ?_
  refine WL.cutV (T := Bool) 37 (fun t => [(39, (.bool t))]) (fun t => t = ((((((decide (p0.Width ≥ 1)) && (decide (p0.Height ≥ 1))) && (decide (p0.Width ≤ 40000))) && (decide (p0.Height ≤ 40000))) && (decide (w64 (p0.Width * p0.Height) ≤ 40000))) && ((p0.Cells.length : Int) == (w64 (p0.Width * p0.Height))))) (fun K => ?_) ?_
  ·
    rcases Bool.eq_false_or_eq_true (((((decide (p0.Width ≥ 1)) && (decide (p0.Height ≥ 1))) && (decide (p0.Width ≤ 40000))) && (decide (p0.Height ≤ 40000))) && (decide (w64 (p0.Width * p0.Height) ≤ 40000))) with h1298 | h1298
    ·
      refine WL.setB 29 h1298 rfl ?_
      refine seg 37 [.v (.slice A_p0_Cells p0.Cells.length c_p0_Cells), .v (.int .i64 p0.Width), .v (.int .i64 p0.Height)] [39] [(39, (.bool ((p0.Cells.length : Int) == (w64 (p0.Width * p0.Height)))))] [.cell ⟨g1286, 2, none⟩ (.slice A_p0_Cells p0.Cells.length c_p0_Cells), .cell ⟨g1286, 0, none⟩ (.int .i64 p0.Width), .cell ⟨g1286, 1, none⟩ (.int .i64 p0.Height)] (fun fb => by kernel_rfl) rfl ⟨hS1288.cell 0 rfl 2 rfl, hS1288.cell 0 rfl 0 rfl, hS1288.cell 0 rfl 1 rfl, trivial⟩ ?_
      exact WL.toV K ((p0.Cells.length : Int) == (w64 (p0.Width * p0.Height))) [39] rfl (by first | (rw [h1298]; done) | (rw [h1298]; rfl))
    refine WL.setB 29 h1298 rfl ?_
    refine seg 37 [] [39] [(39, (.bool false))] [] (fun fb => by kernel_rfl) rfl trivial ?_
    exact WL.toV K false [39] rfl (by first | (rw [h1298]; done) | (rw [h1298]; rfl))
  rintro b1299 rfl
  refine seg 38 [] [2] [(2, (.bool ((((((decide (p0.Width ≥ 1)) && (decide (p0.Height ≥ 1))) && (decide (p0.Width ≤ 40000))) && (decide (p0.Height ≤ 40000))) && (decide (w64 (p0.Width * p0.Height) ≤ 40000))) && ((p0.Cells.length : Int) == (w64 (p0.Width * p0.Height))))))] [] (fun fb => by kernel_rfl) rfl trivial ?_
  refine WL.done rfl ?_
  refine WX.next ?_
  refine WC.ret ?_
  injection hf with hf
  subst hf
  exact WX.ret_ [] (.bool ((((((decide (p0.Width ≥ 1)) && (decide (p0.Height ≥ 1))) && (decide (p0.Width ≤ 40000))) && (decide (p0.Height ≤ 40000))) && (decide (w64 (p0.Width * p0.Height) ≤ 40000))) && ((p0.Cells.length : Int) == (w64 (p0.Width * p0.Height))))) [] (fun fb => by kernel_rfl) trivial ⟨_, rfl, rfl, hS1288.keep⟩
theorem tile_of_1_calls (p0 : Int) (f0 : List Tile) (g_f0 : Nat) (A_f0 : Option Addr) (c_f0 : Nat) (r : Bool) (w : World) (hR0 : RO NoS w (blk g_f0 (.cells #[(.slice A_f0 f0.length c_f0)] 23 (0, 0)))) (hR1 : RO NoS w (rowR enc_Tile A_f0 c_f0 f0)) (hf : tile_of_1 p0 f0 = some r) :
    CallsR Tryd.prog 63 #[(.int .i64 p0), (.pointer (some ⟨g_f0, 0, none⟩))] w (fun v w' => v = (.bool r) ∧ Keeps NoS w w') := by
  have hS : St NoS w w [blk g_f0 (.cells #[(.slice A_f0 f0.length c_f0)] 23 (0, 0)), rowR enc_Tile A_f0 c_f0 f0] [] := St.init (ro_cons hR0 (ro_cons hR1 (ro_nil _ _)))
  refine enter 12 Tryd.func63 rfl Tryd.ntmps63 rfl ?_
  unfold tile_of_1 at hf
  refine WC.seq ?_
  refine WC.region ?_
  refine seg 1 [] [0, 1] [(0, (.int .i64 p0)), (1, (.pointer (some ⟨g_f0, 0, none⟩)))] [] (fun fb => by kernel_rfl) rfl trivial ?_
  refine WL.done rfl ?_
  refine WX.next ?_
  refine WC.seq ?_
  refine WC.region ?_
  refine seg 3 [] [0, 1, 6] [(0, (.int .i64 p0)), (1, (.pointer (some ⟨g_f0, 0, none⟩))), (6, (.bool (decide (p0 < 0))))] [] (fun fb => by kernel_rfl) rfl trivial ?_
  refine WL.cutV (T := Bool) 8 (fun t => [(11, (.bool t))]) (fun t => t = ((decide (p0 < 0)) || (decide (p0 ≥ (f0.length : Int))))) (fun K => ?_) ?_
  ·
    rcases Bool.eq_false_or_eq_true (decide (p0 < 0)) with h1321 | h1321
    ·
      refine WL.setB 6 h1321 rfl ?_
      refine seg 8 [] [11] [(11, (.bool true))] [] (fun fb => by kernel_rfl) rfl trivial ?_
      exact WL.toV K true [11] rfl (by first | (rw [h1321]; done) | (rw [h1321]; rfl))
    refine WL.setB 6 h1321 rfl ?_
    refine seg 8 [.v (.slice A_f0 f0.length c_f0)] [11] [(11, (.bool (decide (p0 ≥ (f0.length : Int)))))] [.cell ⟨g_f0, 0, none⟩ (.slice A_f0 f0.length c_f0)] (fun fb => by kernel_rfl) rfl ⟨blk_cell (hS.rd 0).1 0 rfl, trivial⟩ ?_
    exact WL.toV K (decide (p0 ≥ (f0.length : Int))) [11] rfl (by first | (rw [h1321]; done) | (rw [h1321]; rfl))
  rintro b1322 rfl
  refine seg 9 [] [3] [(3, (.bool ((decide (p0 < 0)) || (decide (p0 ≥ (f0.length : Int))))))] [] (fun fb => by kernel_rfl) rfl trivial ?_
  refine WL.done rfl ?_
  refine WX.next ?_
  refine WC.ret ?_
  injection hf with hf
  subst hf
  exact WX.ret_ [] (.bool ((decide (p0 < 0)) || (decide (p0 ≥ (f0.length : Int))))) [] (fun fb => by kernel_rfl) trivial ⟨_, rfl, rfl, hS.keep⟩
theorem slices_IndexFunc_int_int_with_tile_of_1_calls (k : Nat) (p0 : List Int) (p1_0 : List Tile) (A_p0 : Option Addr) (c_p0 : Nat) (g_p1_0 : Nat) (A_p1_0 : Option Addr) (c_p1_0 : Nat) (r : Int) (w : World) (hR0 : RO NoS w (rowR encInt A_p0 c_p0 p0)) (hR1 : RO NoS w (blk g_p1_0 (.cells #[(.slice A_p1_0 p1_0.length c_p1_0)] 23 (0, 0)))) (hR2 : RO NoS w (rowR enc_Tile A_p1_0 c_p1_0 p1_0)) (hf : slices_IndexFunc_int_int_with_tile_of_1 k p0 p1_0 = some r) :
    CallsR Tryd.prog 78 #[(.slice A_p0 p0.length c_p0), (.func (.func 63) #[] #[(.pointer (some ⟨g_p1_0, 0, none⟩))])] w (fun v w' => v = (.int .i64 r) ∧ Keeps NoS w w') := by
  have hS : St NoS w w [rowR encInt A_p0 c_p0 p0, blk g_p1_0 (.cells #[(.slice A_p1_0 p1_0.length c_p1_0)] 23 (0, 0)), rowR enc_Tile A_p1_0 c_p1_0 p1_0] [] := St.init (ro_cons hR0 (ro_cons hR1 (ro_cons hR2 (ro_nil _ _))))
  refine enter 19 Tryd.func78 rfl Tryd.ntmps78 rfl ?_
  unfold slices_IndexFunc_int_int_with_tile_of_1 at hf
  refine WC.seq ?_
  refine WC.region ?_
  refine seg 1 [] [0, 1] [(0, (.slice A_p0 p0.length c_p0)), (1, (.func (.func 63) #[] #[(.pointer (some ⟨g_p1_0, 0, none⟩))]))] [] (fun fb => by kernel_rfl) rfl trivial ?_
  refine WL.done rfl ?_
  refine WX.next ?_
  refine WC.seq ?_
  refine WC.seq ?_
  refine WC.region ?_
  refine seg 3 [] [0, 1, 7, 8] [(0, (.slice A_p0 p0.length c_p0)), (1, (.func (.func 63) #[] #[(.pointer (some ⟨g_p1_0, 0, none⟩))])), (7, (.int .i64 (p0.length : Int))), (8, (.int .i64 0))] [] (fun fb => by kernel_rfl) rfl trivial ?_
  refine WL.done rfl ?_
  refine WX.next ?_
  obtain ⟨x1339, hx1340, hf⟩ := bind_some hf
  refine WC.cutN (T := Unit) (fun t => []) (fun t w1 => St NoS w w1 [rowR encInt A_p0 c_p0 p0, blk g_p1_0 (.cells #[(.slice A_p1_0 p1_0.length c_p1_0)] 23 (0, 0)), rowR enc_Tile A_p1_0 c_p1_0 p1_0] [] ∧ x1339 = .inr t) (fun Kx1339 => ?_) ?_
  ·
    refine WC.block ?_
    refine WC.loop (T := Int) (fun t => [(0, (.slice A_p0 p0.length c_p0)), (1, (.func (.func 63) #[] #[(.pointer (some ⟨g_p1_0, 0, none⟩))])), (7, (.int .i64 (p0.length : Int))), (8, (.int .i64 t))]) (fun n t w1 => St NoS w w1 [rowR encInt A_p0 c_p0 p0, blk g_p1_0 (.cells #[(.slice A_p1_0 p1_0.length c_p1_0)] 23 (0, 0)), rowR enc_Tile A_p1_0 c_p1_0 p1_0] [] ∧ slices_IndexFunc_int_int_with_tile_of_1.l0 n t p0 p1_0 = some x1339) k 0 [0, 1, 7, 8] rfl ⟨(hS.subR [0, 1, 2]).sub [] (by decide), hx1340⟩ ?_
    rintro k1341 x1338 w1342 ⟨hS1343, hl1344⟩
    cases k1341 with
    | zero => rw [slices_IndexFunc_int_int_with_tile_of_1.l0] at hl1344; cases hl1344
    | succ k1341 =>
      rw [slices_IndexFunc_int_int_with_tile_of_1.l0] at hl1344
      refine WC.seq ?_
      refine WC.region ?_
      refine seg 1 [] [0, 1, 7, 8, 9] [(0, (.slice A_p0 p0.length c_p0)), (1, (.func (.func 63) #[] #[(.pointer (some ⟨g_p1_0, 0, none⟩))])), (7, (.int .i64 (p0.length : Int))), (8, (.int .i64 x1338)), (9, (.bool (decide (x1338 < (p0.length : Int)))))] [] (fun fb => by kernel_rfl) rfl trivial ?_
      refine WL.done rfl ?_
      refine WX.next ?_
      refine WC.seq ?_
      rcases br_some hl1344 with ⟨h1345, hl1344⟩ | ⟨h1345, hl1344⟩
      · refine WC.condT2 (fun fb => by kernel_rfl) h1345 ?_
        refine WC.skip ?_
        refine WX.next ?_
        refine WC.seq ?_
        refine WC.block ?_
        refine WC.seq ?_
        refine WC.region ?_
        refine seg 2 [] [0, 1, 5, 7, 8] [(0, (.slice A_p0 p0.length c_p0)), (1, (.func (.func 63) #[] #[(.pointer (some ⟨g_p1_0, 0, none⟩))])), (5, (.int .i64 x1338)), (7, (.int .i64 (p0.length : Int))), (8, (.int .i64 x1338))] [] (fun fb => by kernel_rfl) rfl trivial ?_
        refine WL.done rfl ?_
        refine WX.next ?_
        refine WC.seq ?_
        refine WC.region ?_
        refine seg 3 [] [0, 1, 5, 7, 8, 11, 12, 13] [(0, (.slice A_p0 p0.length c_p0)), (1, (.func (.func 63) #[] #[(.pointer (some ⟨g_p1_0, 0, none⟩))])), (5, (.int .i64 x1338)), (7, (.int .i64 (p0.length : Int))), (8, (.int .i64 x1338)), (11, (.func (.func 63) #[] #[(.pointer (some ⟨g_p1_0, 0, none⟩))])), (12, (.slice A_p0 p0.length c_p0)), (13, (.int .i64 x1338))] [] (fun fb => by kernel_rfl) rfl trivial ?_
        obtain ⟨h1346, hl1344⟩ := as_some hl1344
        refine seg 5 [.v (.int .i64 (rdD p0 x1338 0))] [0, 1, 5, 7, 8, 11, 15] [(0, (.slice A_p0 p0.length c_p0)), (1, (.func (.func 63) #[] #[(.pointer (some ⟨g_p1_0, 0, none⟩))])), (5, (.int .i64 x1338)), (7, (.int .i64 (p0.length : Int))), (8, (.int .i64 x1338)), (11, (.func (.func 63) #[] #[(.pointer (some ⟨g_p1_0, 0, none⟩))])), (15, (.int .i64 (rdD p0 x1338 0)))] [.idx A_p0 x1338 p0.length, .cell ((adr A_p0).add ((x1338).toNat * 1)) (.int .i64 (rdD p0 x1338 0))] (fun fb => by kernel_rfl) rfl ⟨rowR.adr (hS1343.rd 0).1 h1346.1 h1346.2, rowR.cell (hS1343.rd 0).1 0 h1346.1 h1346.2 0 rfl, trivial⟩ ?_
        obtain ⟨t1347, ht1348, hl1344⟩ := bind_some hl1344
        refine WL.call (some 16) 63 #[(.int .i64 (rdD p0 x1338 0)), (.pointer (some ⟨g_p1_0, 0, none⟩))] (fun fb => by kernel_rfl) (tile_of_1_calls (rdD p0 x1338 0) p1_0 g_p1_0 A_p1_0 c_p1_0 t1347 _ (hS1343.rd 1) (hS1343.rd 2) ht1348) (fun v w1349 hR1350 => ?_)
        obtain ⟨rfl, hk_⟩ := hR1350
        have hS1351 := hS1343.keepN hk_
        refine ⟨trivial, ?_⟩
        refine WL.done rfl ?_
        refine WX.next ?_
        rcases br_some hl1344 with ⟨h1352, hl1344⟩ | ⟨h1352, hl1344⟩
        · refine WC.condT2 (fun fb => by kernel_rfl) h1352 ?_
          refine WC.seq ?_
          refine WC.region ?_
          refine seg 2 [] [4] [(4, (.int .i64 x1338))] [] (fun fb => by kernel_rfl) rfl trivial ?_
          refine WL.done rfl ?_
          refine WX.next ?_
          refine WC.ret ?_
          injection hl1344 with hl1344
          subst hl1344
          injection hf with hf
          subst hf
          exact WX.blockR (WX.thenR (WX.thenR (WX.blockR (WX.thenR (WX.ret_ [] (.int .i64 x1338) [] (fun fb => by kernel_rfl) trivial ⟨_, rfl, rfl, hS1351.keep⟩)))))
        refine WC.condF2 (fun fb => by kernel_rfl) h1352 ?_
        refine WC.skip ?_
        refine WX.blockN (WX.next ?_)
        refine WC.region ?_
        refine seg 2 [] [0, 1, 7, 8] [(0, (.slice A_p0 p0.length c_p0)), (1, (.func (.func 63) #[] #[(.pointer (some ⟨g_p1_0, 0, none⟩))])), (7, (.int .i64 (p0.length : Int))), (8, (.int .i64 (w64 (x1338 + 1))))] [] (fun fb => by kernel_rfl) rfl trivial ?_
        refine WL.done rfl ?_
        exact WX.again k1341 (Nat.lt_succ_self _) (w64 (x1338 + 1)) [0, 1, 7, 8] rfl ⟨(hS1351.subR [0, 1, 2]).sub [] (by decide), hl1344⟩
      refine WC.condF2 (fun fb => by kernel_rfl) h1345 ?_
      refine WC.exit ?_
      injection hl1344 with hl1344
      exact WX.thenX (WX.thenX (WX.blockHere (WX.to Kx1339 () [] rfl ⟨(hS1343.subR [0, 1, 2]).sub [] (by decide), hl1344.symm⟩)))
  rintro y1356 w1353 ⟨hS1354, hq1355⟩
  subst hq1355
  have hf := sum_inr hf
  refine WX.next ?_
  refine WC.seq ?_
  refine WC.region ?_
  refine seg 1 [] [4] [(4, (.int .i64 (-1)))] [] (fun fb => by kernel_rfl) rfl trivial ?_
  refine WL.done rfl ?_
  refine WX.next ?_
  refine WC.ret ?_
  injection hf with hf
  subst hf
  exact WX.ret_ [] (.int .i64 (-1)) [] (fun fb => by kernel_rfl) trivial ⟨_, rfl, rfl, hS1354.keep⟩
theorem slices_ContainsFunc_int_int_with_tile_of_1_calls (k : Nat) (p0 : List Int) (p1_0 : List Tile) (A_p0 : Option Addr) (c_p0 : Nat) (g_p1_0 : Nat) (A_p1_0 : Option Addr) (c_p1_0 : Nat) (r : Bool) (w : World) (hR0 : RO NoS w (rowR encInt A_p0 c_p0 p0)) (hR1 : RO NoS w (blk g_p1_0 (.cells #[(.slice A_p1_0 p1_0.length c_p1_0)] 23 (0, 0)))) (hR2 : RO NoS w (rowR enc_Tile A_p1_0 c_p1_0 p1_0)) (hf : slices_ContainsFunc_int_int_with_tile_of_1 k p0 p1_0 = some r) :
    CallsR Tryd.prog 62 #[(.slice A_p0 p0.length c_p0), (.func (.func 63) #[] #[(.pointer (some ⟨g_p1_0, 0, none⟩))])] w (fun v w' => v = (.bool r) ∧ Keeps NoS w w') := by
  have hS : St NoS w w [rowR encInt A_p0 c_p0 p0, blk g_p1_0 (.cells #[(.slice A_p1_0 p1_0.length c_p1_0)] 23 (0, 0)), rowR enc_Tile A_p1_0 c_p1_0 p1_0] [] := St.init (ro_cons hR0 (ro_cons hR1 (ro_cons hR2 (ro_nil _ _))))
  refine enter 9 Tryd.func62 rfl Tryd.ntmps62 rfl ?_
  unfold slices_ContainsFunc_int_int_with_tile_of_1 at hf
  refine WC.seq ?_
  refine WC.region ?_
  refine seg 1 [] [0, 1] [(0, (.slice A_p0 p0.length c_p0)), (1, (.func (.func 63) #[] #[(.pointer (some ⟨g_p1_0, 0, none⟩))]))] [] (fun fb => by kernel_rfl) rfl trivial ?_
  refine WL.done rfl ?_
  refine WX.next ?_
  refine WC.seq ?_
  refine WC.region ?_
  refine seg 2 [] [5, 6] [(5, (.slice A_p0 p0.length c_p0)), (6, (.func (.func 63) #[] #[(.pointer (some ⟨g_p1_0, 0, none⟩))]))] [] (fun fb => by kernel_rfl) rfl trivial ?_
  obtain ⟨t1358, ht1359, hf⟩ := bind_some hf
  refine WL.call (some 7) 78 #[(.slice A_p0 p0.length c_p0), (.func (.func 63) #[] #[(.pointer (some ⟨g_p1_0, 0, none⟩))])] (fun fb => by kernel_rfl) (slices_IndexFunc_int_int_with_tile_of_1_calls _ p0 p1_0 A_p0 c_p0 g_p1_0 A_p1_0 c_p1_0 t1358 _ (hS.rd 0) (hS.rd 1) (hS.rd 2) ht1359) (fun v w1360 hR1361 => ?_)
  obtain ⟨rfl, hk_⟩ := hR1361
  have hS1362 := hS.keepN hk_
  refine ⟨trivial, ?_⟩
  refine seg 5 [] [4] [(4, (.bool (decide (t1358 ≥ 0))))] [] (fun fb => by kernel_rfl) rfl trivial ?_
  refine WL.done rfl ?_
  refine WX.next ?_
  refine WC.ret ?_
  injection hf with hf
  subst hf
  exact WX.ret_ [] (.bool (decide (t1358 ≥ 0))) [] (fun fb => by kernel_rfl) trivial ⟨_, rfl, rfl, hS1362.keep⟩
theorem tile_of_calls (k : Nat) (p0 : List Tile) (p1 : Pattern) (A_p0 : Option Addr) (c_p0 : Nat) (A_p1_Cells : Option Addr) (c_p1_Cells : Nat) (r : Bool) (w : World) (hR0 : RO NoS w (rowR enc_Tile A_p0 c_p0 p0)) (hR1 : RO NoS w (rowR encInt A_p1_Cells c_p1_Cells p1.Cells)) (hf : tile_of k p0 p1 = some r) :
    CallsR Tryd.prog 44 #[(.slice A_p0 p0.length c_p0), (.agg #[(.int .i64 p1.Width), (.int .i64 p1.Height), (.slice A_p1_Cells p1.Cells.length c_p1_Cells)])] w (fun v w' => v = (.bool r) ∧ Keeps NoS w w') := by
  have hS : St NoS w w [rowR enc_Tile A_p0 c_p0 p0, rowR encInt A_p1_Cells c_p1_Cells p1.Cells] [] := St.init (ro_cons hR0 (ro_cons hR1 (ro_nil _ _)))
  refine enter 18 Tryd.func44 rfl Tryd.ntmps44 rfl ?_
  unfold tile_of at hf
  refine WC.seq ?_
  refine WC.region ?_
  refine WL.new hS 2 [] (fun g => (.pointer (some ⟨g, 0, none⟩))) (.cells #[(.slice A_p0 p0.length c_p0)] 23 (0, 0)) [] (fun fb g => by kernel_rfl) trivial (fun g1273 w1274 hS1275 => ?_)
  refine ⟨trivial, ?_⟩
  refine WL.new hS1275 3 [] (fun g => (.pointer (some ⟨g, 0, none⟩))) (.cells #[(.int .i64 p1.Width), (.int .i64 p1.Height), (.slice A_p1_Cells p1.Cells.length c_p1_Cells)] 35 (0, 0)) [] (fun fb g => by kernel_rfl) trivial (fun g1277 w1278 hS1279 => ?_)
  refine ⟨trivial, ?_⟩
  refine seg 3 [] [2, 3] [(2, (.pointer (some ⟨g1273, 0, none⟩))), (3, (.pointer (some ⟨g1277, 0, none⟩)))] [] (fun fb => by kernel_rfl) rfl trivial ?_
  refine WL.done rfl ?_
  refine WX.next ?_
  refine WC.seq ?_
  refine WC.region ?_
  refine seg 1 [.v (.slice A_p0 p0.length c_p0)] [2, 3, 5] [(2, (.pointer (some ⟨g1273, 0, none⟩))), (3, (.pointer (some ⟨g1277, 0, none⟩))), (5, (.slice A_p0 p0.length c_p0))] [.cell ⟨g1273, 0, none⟩ (.slice A_p0 p0.length c_p0)] (fun fb => by kernel_rfl) rfl ⟨hS1279.cell 1 rfl 0 rfl, trivial⟩ ?_
  obtain ⟨t1281, ht1282, hf⟩ := bind_some hf
  refine WL.call (some 6) 22 #[(.slice A_p0 p0.length c_p0)] (fun fb => by kernel_rfl) (tile_Valid_calls _ p0 A_p0 c_p0 t1281 _ (hS1279.rd 0) ht1282) (fun v w1283 hR1284 => ?_)
  obtain ⟨rfl, hk_⟩ := hR1284
  have hS1285 := hS1279.keepN hk_
  refine ⟨trivial, ?_⟩
  refine seg 3 [] [2, 3, 7] [(2, (.pointer (some ⟨g1273, 0, none⟩))), (3, (.pointer (some ⟨g1277, 0, none⟩))), (7, (.bool t1281))] [] (fun fb => by kernel_rfl) rfl trivial ?_
  obtain ⟨x1306, hx1307, hf⟩ := bind_some hf
  refine WL.cutW (T := Bool) 6 (fun t => [(2, (.pointer (some ⟨g1273, 0, none⟩))), (3, (.pointer (some ⟨g1277, 0, none⟩))), (10, (.bool t))]) (fun t w1 => (St NoS w w1 [rowR enc_Tile A_p0 c_p0 p0, rowR encInt A_p1_Cells c_p1_Cells p1.Cells] [blk g1273 (.cells #[(.slice A_p0 p0.length c_p0)] 23 (0, 0)), blk g1277 (.cells #[(.int .i64 p1.Width), (.int .i64 p1.Height), (.slice A_p1_Cells p1.Cells.length c_p1_Cells)] 35 (0, 0))] ∧ x1306 = t) ∧ CellsOK [] w1) (fun K => ?_) ?_
  ·
    rcases br_some hx1307 with ⟨h1308, hx1307⟩ | ⟨h1308, hx1307⟩
    ·
      refine WL.setB 7 h1308 rfl ?_
      refine seg 4 [.v (.int .i64 p1.Width), .v (.int .i64 p1.Height), .v (.slice A_p1_Cells p1.Cells.length c_p1_Cells)] [2, 3, 7, 8] [(2, (.pointer (some ⟨g1273, 0, none⟩))), (3, (.pointer (some ⟨g1277, 0, none⟩))), (7, (.bool true)), (8, (.agg #[(.int .i64 p1.Width), (.int .i64 p1.Height), (.slice A_p1_Cells p1.Cells.length c_p1_Cells)]))] [.cell ⟨g1277, 0, none⟩ (.int .i64 p1.Width), .cell ⟨g1277, 1, none⟩ (.int .i64 p1.Height), .cell ⟨g1277, 2, none⟩ (.slice A_p1_Cells p1.Cells.length c_p1_Cells)] (fun fb => by kernel_rfl) rfl ⟨hS1285.cell 0 rfl 0 rfl, hS1285.cell 0 rfl 1 rfl, hS1285.cell 0 rfl 2 rfl, trivial⟩ ?_
      obtain ⟨t1309, ht1310, hx1307⟩ := bind_some hx1307
      refine WL.call (some 9) 54 #[(.agg #[(.int .i64 p1.Width), (.int .i64 p1.Height), (.slice A_p1_Cells p1.Cells.length c_p1_Cells)])] (fun fb => by kernel_rfl) (tile_Form_calls p1 A_p1_Cells c_p1_Cells t1309 _ (hS1285.rd 1) ht1310) (fun v w1311 hR1312 => ?_)
      obtain ⟨rfl, hk_⟩ := hR1312
      have hS1313 := hS1285.keepN hk_
      refine ⟨trivial, ?_⟩
      refine seg 6 [] [2, 3, 10] [(2, (.pointer (some ⟨g1273, 0, none⟩))), (3, (.pointer (some ⟨g1277, 0, none⟩))), (10, (.bool t1309))] [] (fun fb => by kernel_rfl) rfl trivial ?_
      injection hx1307 with hx1307
      exact WL.to K t1309 [2, 3, 10] rfl ⟨⟨(hS1313.subR [0, 1]).sub [1, 0] (by decide), hx1307.symm⟩, trivial⟩
    refine WL.setB 7 h1308 rfl ?_
    refine seg 6 [] [2, 3, 10] [(2, (.pointer (some ⟨g1273, 0, none⟩))), (3, (.pointer (some ⟨g1277, 0, none⟩))), (10, (.bool false))] [] (fun fb => by kernel_rfl) rfl trivial ?_
    injection hx1307 with hx1307
    exact WL.to K false [2, 3, 10] rfl ⟨⟨(hS1285.subR [0, 1]).sub [1, 0] (by decide), hx1307.symm⟩, trivial⟩
  rintro y1314 w1316 ⟨⟨hS1317, hq1315⟩, hF1318⟩
  subst hq1315
  refine seg 7 [] [2, 3, 11] [(2, (.pointer (some ⟨g1273, 0, none⟩))), (3, (.pointer (some ⟨g1277, 0, none⟩))), (11, (.bool x1306))] [] (fun fb => by kernel_rfl) rfl trivial ?_
  obtain ⟨x1369, hx1370, hf⟩ := bind_some hf
  refine WL.cutW (T := Bool) 13 (fun t => [(17, (.bool t))]) (fun t w1 => (St NoS w w1 [rowR enc_Tile A_p0 c_p0 p0, rowR encInt A_p1_Cells c_p1_Cells p1.Cells] [] ∧ x1369 = t) ∧ CellsOK [] w1) (fun K => ?_) ?_
  ·
    rcases br_some hx1370 with ⟨h1371, hx1370⟩ | ⟨h1371, hx1370⟩
    ·
      refine WL.setB 11 h1371 rfl ?_
      refine seg 10 [.v (.slice A_p1_Cells p1.Cells.length c_p1_Cells)] [11, 13, 14] [(11, (.bool true)), (13, (.slice A_p1_Cells p1.Cells.length c_p1_Cells)), (14, (.func (.func 63) #[] #[(.pointer (some ⟨g1273, 0, none⟩))]))] [.cell ⟨g1277, 2, none⟩ (.slice A_p1_Cells p1.Cells.length c_p1_Cells)] (fun fb => by kernel_rfl) rfl ⟨hS1317.cell 1 rfl 2 rfl, trivial⟩ ?_
      obtain ⟨t1372, ht1373, hx1370⟩ := bind_some hx1370
      refine WL.call (some 15) 62 #[(.slice A_p1_Cells p1.Cells.length c_p1_Cells), (.func (.func 63) #[] #[(.pointer (some ⟨g1273, 0, none⟩))])] (fun fb => by kernel_rfl) (slices_ContainsFunc_int_int_with_tile_of_1_calls _ p1.Cells p0 A_p1_Cells c_p1_Cells g1273 A_p0 c_p0 t1372 _ (hS1317.rd 1) (hS1317.ow 0) (hS1317.rd 0) ht1373) (fun v w1374 hR1375 => ?_)
      obtain ⟨rfl, hk_⟩ := hR1375
      have hS1376 := hS1317.keepN hk_
      refine ⟨trivial, ?_⟩
      refine seg 13 [] [17] [(17, (.bool (!t1372)))] [] (fun fb => by kernel_rfl) rfl trivial ?_
      injection hx1370 with hx1370
      exact WL.to K (!t1372) [17] rfl ⟨⟨(hS1376.subR [0, 1]).sub [] (by decide), hx1370.symm⟩, trivial⟩
    refine WL.setB 11 h1371 rfl ?_
    refine seg 13 [] [17] [(17, (.bool false))] [] (fun fb => by kernel_rfl) rfl trivial ?_
    injection hx1370 with hx1370
    exact WL.to K false [17] rfl ⟨⟨(hS1317.subR [0, 1]).sub [] (by decide), hx1370.symm⟩, trivial⟩
  rintro y1377 w1379 ⟨⟨hS1380, hq1378⟩, hF1381⟩
  subst hq1378
  refine seg 14 [] [4] [(4, (.bool x1369))] [] (fun fb => by kernel_rfl) rfl trivial ?_
  refine WL.done rfl ?_
  refine WX.next ?_
  refine WC.ret ?_
  injection hf with hf
  subst hf
  exact WX.ret_ [] (.bool x1369) [] (fun fb => by kernel_rfl) trivial ⟨_, rfl, rfl, hS1380.keep⟩
theorem tile_joins_calls (k : Nat) (p0 : List Tile) (p1 : Pattern) (p2 : Bool) (A_p0 : Option Addr) (c_p0 : Nat) (A_p1_Cells : Option Addr) (c_p1_Cells : Nat) (r : Bool) (w : World) (hR0 : RO NoS w (rowR enc_Tile A_p0 c_p0 p0)) (hR1 : RO NoS w (rowR encInt A_p1_Cells c_p1_Cells p1.Cells)) (hf : tile_joins k p0 p1 p2 = some r) :
    CallsR Tryd.prog 45 #[(.slice A_p0 p0.length c_p0), (.agg #[(.int .i64 p1.Width), (.int .i64 p1.Height), (.slice A_p1_Cells p1.Cells.length c_p1_Cells)]), (.bool p2)] w (fun v w' => v = (.bool r) ∧ Keeps NoS w w') := by
  have hS : St NoS w w [rowR enc_Tile A_p0 c_p0 p0, rowR encInt A_p1_Cells c_p1_Cells p1.Cells] [] := St.init (ro_cons hR0 (ro_cons hR1 (ro_nil _ _)))
  refine enter 92 Tryd.func45 rfl Tryd.ntmps45 rfl ?_
  unfold tile_joins at hf
  refine WC.seq ?_
  refine WC.region ?_
  refine WL.new hS 4 [] (fun g => (.pointer (some ⟨g, 0, none⟩))) (.cells #[(.int .i64 p1.Width), (.int .i64 p1.Height), (.slice A_p1_Cells p1.Cells.length c_p1_Cells)] 35 (0, 0)) [] (fun fb g => by kernel_rfl) trivial (fun g1387 w1388 hS1389 => ?_)
  refine ⟨trivial, ?_⟩
  refine seg 2 [] [0, 2, 4] [(0, (.slice A_p0 p0.length c_p0)), (2, (.bool p2)), (4, (.pointer (some ⟨g1387, 0, none⟩)))] [] (fun fb => by kernel_rfl) rfl trivial ?_
  refine WL.done rfl ?_
  refine WX.next ?_
  refine WC.seq ?_
  refine WC.seq ?_
  refine WC.region ?_
  refine seg 4 [.v (.slice A_p1_Cells p1.Cells.length c_p1_Cells)] [0, 2, 4, 12, 13, 14] [(0, (.slice A_p0 p0.length c_p0)), (2, (.bool p2)), (4, (.pointer (some ⟨g1387, 0, none⟩))), (12, (.slice A_p1_Cells p1.Cells.length c_p1_Cells)), (13, (.int .i64 (p1.Cells.length : Int))), (14, (.int .i64 0))] [.cell ⟨g1387, 2, none⟩ (.slice A_p1_Cells p1.Cells.length c_p1_Cells)] (fun fb => by kernel_rfl) rfl ⟨hS1389.cell 0 rfl 2 rfl, trivial⟩ ?_
  refine WL.done rfl ?_
  refine WX.next ?_
  obtain ⟨x1559, hx1560, hf⟩ := bind_some hf
  refine WC.cutN (T := Unit) (fun t => []) (fun t w1 => St NoS w w1 [rowR enc_Tile A_p0 c_p0 p0, rowR encInt A_p1_Cells c_p1_Cells p1.Cells] [] ∧ x1559 = .inr t) (fun Kx1559 => ?_) ?_
  ·
    refine WC.block ?_
    refine WC.loop (T := Int) (fun t => [(0, (.slice A_p0 p0.length c_p0)), (2, (.bool p2)), (4, (.pointer (some ⟨g1387, 0, none⟩))), (12, (.slice A_p1_Cells p1.Cells.length c_p1_Cells)), (13, (.int .i64 (p1.Cells.length : Int))), (14, (.int .i64 t))]) (fun n t w1 => St NoS w w1 [rowR enc_Tile A_p0 c_p0 p0, rowR encInt A_p1_Cells c_p1_Cells p1.Cells] [blk g1387 (.cells #[(.int .i64 p1.Width), (.int .i64 p1.Height), (.slice A_p1_Cells p1.Cells.length c_p1_Cells)] 35 (0, 0))] ∧ tile_joins.l0 n t p0 p1 p2 = some x1559) k 0 [0, 2, 4, 12, 13, 14] rfl ⟨(hS1389.subR [0, 1]).sub [0] (by decide), hx1560⟩ ?_
    rintro k1561 x1558 w1562 ⟨hS1563, hl1564⟩
    cases k1561 with
    | zero => rw [tile_joins.l0] at hl1564; cases hl1564
    | succ k1561 =>
      rw [tile_joins.l0] at hl1564
      refine WC.seq ?_
      refine WC.region ?_
      refine seg 1 [] [0, 2, 4, 12, 13, 14, 15] [(0, (.slice A_p0 p0.length c_p0)), (2, (.bool p2)), (4, (.pointer (some ⟨g1387, 0, none⟩))), (12, (.slice A_p1_Cells p1.Cells.length c_p1_Cells)), (13, (.int .i64 (p1.Cells.length : Int))), (14, (.int .i64 x1558)), (15, (.bool (decide (x1558 < (p1.Cells.length : Int)))))] [] (fun fb => by kernel_rfl) rfl trivial ?_
      refine WL.done rfl ?_
      refine WX.next ?_
      refine WC.seq ?_
      rcases br_some hl1564 with ⟨h1565, hl1564⟩ | ⟨h1565, hl1564⟩
      · refine WC.condT2 (fun fb => by kernel_rfl) h1565 ?_
        refine WC.skip ?_
        refine WX.next ?_
        refine WC.seq ?_
        refine WC.block ?_
        refine WC.seq ?_
        refine WC.region ?_
        refine seg 1 [] [0, 2, 4, 12, 13, 14, 16] [(0, (.slice A_p0 p0.length c_p0)), (2, (.bool p2)), (4, (.pointer (some ⟨g1387, 0, none⟩))), (12, (.slice A_p1_Cells p1.Cells.length c_p1_Cells)), (13, (.int .i64 (p1.Cells.length : Int))), (14, (.int .i64 x1558)), (16, (.int .i64 x1558))] [] (fun fb => by kernel_rfl) rfl trivial ?_
        obtain ⟨h1566, hl1564⟩ := as_some hl1564
        refine seg 5 [.v (.int .i64 (rdD p1.Cells x1558 0))] [0, 2, 4, 7, 8, 12, 13, 14] [(0, (.slice A_p0 p0.length c_p0)), (2, (.bool p2)), (4, (.pointer (some ⟨g1387, 0, none⟩))), (7, (.int .i64 x1558)), (8, (.int .i64 (rdD p1.Cells x1558 0))), (12, (.slice A_p1_Cells p1.Cells.length c_p1_Cells)), (13, (.int .i64 (p1.Cells.length : Int))), (14, (.int .i64 x1558))] [.idx A_p1_Cells x1558 p1.Cells.length, .cell ((adr A_p1_Cells).add ((x1558).toNat * 1)) (.int .i64 (rdD p1.Cells x1558 0))] (fun fb => by kernel_rfl) rfl ⟨rowR.adr (hS1563.rd 1).1 h1566.1 h1566.2, rowR.cell (hS1563.rd 1).1 0 h1566.1 h1566.2 0 rfl, trivial⟩ ?_
        refine WL.done rfl ?_
        refine WX.next ?_
        refine WC.seq ?_
        obtain ⟨h1571, hl1564⟩ := as_some hl1564
        refine WC.regionD ([(2, ⟨g1387, 0, none⟩, (.int .i64 p1.Width)), (6, ⟨g1387, 0, none⟩, (.int .i64 p1.Width))], [0, 1, 2, 3, 4, 5, 6, 7, 8, 9], [[], [], [1], [0, 1, 2], [], [], [5], [4, 5, 6], [0, 1, 2, 3], [0, 1, 2, 3, 4, 5, 6, 7, 8]]) [[0, 1, 2, 3, 4, 5, 6, 7, 8, 9]] (by kernel_rfl) (by kernel_rfl) (NoPanic.seq (NoPanic.block (NoPanic.seq (NoPanic.seq (NoPanic.block (NoPanic.seq (NoPanic.body))))))) ?_
        have hS1569 := hS1563.drew
        revert hS1569
        generalize World.drew w1562 = w1568
        intro hS1569
        refine ⟨⟨hS1569.cell 0 rfl 0 rfl, hS1569.cell 0 rfl 0 rfl, trivial⟩, forallC ?_ (forallN)⟩
        refine segF 10 [.v (.int .i64 p1.Width), .v (.int .i64 p1.Width)] [0, 2, 4, 8, 9, 10, 12, 13, 14] [(0, (.slice A_p0 p0.length c_p0)), (2, (.bool p2)), (4, (.pointer (some ⟨g1387, 0, none⟩))), (8, (.int .i64 (rdD p1.Cells x1558 0))), (9, (.int .i64 (Int.tmod x1558 p1.Width))), (10, (.int .i64 (w64 (Int.tdiv x1558 p1.Width)))), (12, (.slice A_p1_Cells p1.Cells.length c_p1_Cells)), (13, (.int .i64 (p1.Cells.length : Int))), (14, (.int .i64 x1558))] [.ne p1.Width, .ne p1.Width] [0, 1] [(2, ⟨g1387, 0, none⟩, (.int .i64 p1.Width)), (6, ⟨g1387, 0, none⟩, (.int .i64 p1.Width))] (fun fb => by kernel_rfl) rfl ⟨h1571, h1571, trivial⟩ rfl ?_
        refine WL.done rfl ?_
        refine WX.next ?_
        refine WC.seq ?_
        refine WC.seq ?_
        refine WC.region ?_
        refine seg 6 [.v (.int .i64 p1.Width)] [0, 2, 4, 8, 9, 10, 12, 13, 14, 32] [(0, (.slice A_p0 p0.length c_p0)), (2, (.bool p2)), (4, (.pointer (some ⟨g1387, 0, none⟩))), (8, (.int .i64 (rdD p1.Cells x1558 0))), (9, (.int .i64 (Int.tmod x1558 p1.Width))), (10, (.int .i64 (w64 (Int.tdiv x1558 p1.Width)))), (12, (.slice A_p1_Cells p1.Cells.length c_p1_Cells)), (13, (.int .i64 (p1.Cells.length : Int))), (14, (.int .i64 x1558)), (32, (.bool (decide (w64 ((Int.tmod x1558 p1.Width) + 1) < p1.Width))))] [.cell ⟨g1387, 0, none⟩ (.int .i64 p1.Width)] (fun fb => by kernel_rfl) rfl ⟨hS1569.cell 0 rfl 0 rfl, trivial⟩ ?_
        refine WL.cutV (T := Bool) 8 (fun t => [(34, (.bool t)), (0, (.slice A_p0 p0.length c_p0)), (2, (.bool p2)), (4, (.pointer (some ⟨g1387, 0, none⟩))), (8, (.int .i64 (rdD p1.Cells x1558 0))), (9, (.int .i64 (Int.tmod x1558 p1.Width))), (10, (.int .i64 (w64 (Int.tdiv x1558 p1.Width)))), (12, (.slice A_p1_Cells p1.Cells.length c_p1_Cells)), (13, (.int .i64 (p1.Cells.length : Int))), (14, (.int .i64 x1558))]) (fun t => t = ((decide (w64 ((Int.tmod x1558 p1.Width) + 1) < p1.Width)) || p2)) (fun K => ?_) ?_
        ·
          rcases Bool.eq_false_or_eq_true (decide (w64 ((Int.tmod x1558 p1.Width) + 1) < p1.Width)) with h1572 | h1572
          ·
            refine WL.setB 32 h1572 rfl ?_
            refine seg 8 [] [0, 2, 4, 8, 9, 10, 12, 13, 14, 34] [(0, (.slice A_p0 p0.length c_p0)), (2, (.bool p2)), (4, (.pointer (some ⟨g1387, 0, none⟩))), (8, (.int .i64 (rdD p1.Cells x1558 0))), (9, (.int .i64 (Int.tmod x1558 p1.Width))), (10, (.int .i64 (w64 (Int.tdiv x1558 p1.Width)))), (12, (.slice A_p1_Cells p1.Cells.length c_p1_Cells)), (13, (.int .i64 (p1.Cells.length : Int))), (14, (.int .i64 x1558)), (34, (.bool true))] [] (fun fb => by kernel_rfl) rfl trivial ?_
            exact WL.toV K true [34, 0, 2, 4, 8, 9, 10, 12, 13, 14] rfl (by first | (rw [h1572]; done) | (rw [h1572]; rfl))
          refine WL.setB 32 h1572 rfl ?_
          refine seg 8 [] [0, 2, 4, 8, 9, 10, 12, 13, 14, 34] [(0, (.slice A_p0 p0.length c_p0)), (2, (.bool p2)), (4, (.pointer (some ⟨g1387, 0, none⟩))), (8, (.int .i64 (rdD p1.Cells x1558 0))), (9, (.int .i64 (Int.tmod x1558 p1.Width))), (10, (.int .i64 (w64 (Int.tdiv x1558 p1.Width)))), (12, (.slice A_p1_Cells p1.Cells.length c_p1_Cells)), (13, (.int .i64 (p1.Cells.length : Int))), (14, (.int .i64 x1558)), (34, (.bool p2))] [] (fun fb => by kernel_rfl) rfl trivial ?_
          exact WL.toV K p2 [34, 0, 2, 4, 8, 9, 10, 12, 13, 14] rfl (by first | (rw [h1572]; done) | (rw [h1572]; rfl))
        rintro b1573 rfl
        refine WL.done rfl ?_
        refine WX.next ?_
        obtain ⟨x1587, hx1588, hl1564⟩ := bind_some hl1564
        refine WC.cutN (T := Unit) (fun t => [(0, (.slice A_p0 p0.length c_p0)), (2, (.bool p2)), (4, (.pointer (some ⟨g1387, 0, none⟩))), (8, (.int .i64 (rdD p1.Cells x1558 0))), (9, (.int .i64 (Int.tmod x1558 p1.Width))), (10, (.int .i64 (w64 (Int.tdiv x1558 p1.Width)))), (12, (.slice A_p1_Cells p1.Cells.length c_p1_Cells)), (13, (.int .i64 (p1.Cells.length : Int))), (14, (.int .i64 x1558))]) (fun t w1 => St NoS w w1 [rowR enc_Tile A_p0 c_p0 p0, rowR encInt A_p1_Cells c_p1_Cells p1.Cells] [blk g1387 (.cells #[(.int .i64 p1.Width), (.int .i64 p1.Height), (.slice A_p1_Cells p1.Cells.length c_p1_Cells)] 35 (0, 0))] ∧ x1587 = .inr t) (fun Kx1587 => ?_) ?_
        ·
          rcases br_some hx1588 with ⟨h1589, hx1588⟩ | ⟨h1589, hx1588⟩
          · refine WC.condT2 (fun fb => by kernel_rfl) h1589 ?_
            refine WC.seq ?_
            obtain ⟨h1598, hx1588⟩ := as_some hx1588
            obtain ⟨h1599, hx1588⟩ := as_some hx1588
            obtain ⟨h1600, hx1588⟩ := as_some hx1588
            refine WC.regionD ([(4, (((adr A_p0).add (((rdD p1.Cells x1558 0)).toNat * 4)).add 1), (.int .i64 ((rdD p0 (rdD p1.Cells x1558 0) z_Tile).E))), (7, ⟨g1387, 2, none⟩, (.slice A_p1_Cells p1.Cells.length c_p1_Cells)), (10, ⟨g1387, 0, none⟩, (.int .i64 p1.Width)), (15, ⟨g1387, 0, none⟩, (.int .i64 p1.Width)), (19, ((adr A_p1_Cells).add ((w64 ((w64 ((w64 (Int.tdiv x1558 p1.Width)) * p1.Width)) + (Int.tmod (w64 ((Int.tmod x1558 p1.Width) + 1)) p1.Width))).toNat * 1)), (.int .i64 (rdD p1.Cells (w64 ((w64 ((w64 (Int.tdiv x1558 p1.Width)) * p1.Width)) + (Int.tmod (w64 ((Int.tmod x1558 p1.Width) + 1)) p1.Width))) 0))), (22, (((adr A_p0).add (((rdD p1.Cells (w64 ((w64 ((w64 (Int.tdiv x1558 p1.Width)) * p1.Width)) + (Int.tmod (w64 ((Int.tmod x1558 p1.Width) + 1)) p1.Width))) 0)).toNat * 4)).add 3), (.int .i64 ((rdD p0 (rdD p1.Cells (w64 ((w64 ((w64 (Int.tdiv x1558 p1.Width)) * p1.Width)) + (Int.tmod (w64 ((Int.tmod x1558 p1.Width) + 1)) p1.Width))) 0) z_Tile).W)))], [0, 1, 2, 3, 4, 5, 6, 7, 8, 9, 10, 11, 12, 13, 14, 15, 16, 17, 18, 19, 20, 21, 22, 23], [[], [], [0, 1], [0, 1, 2], [0, 1, 2, 3], [], [], [6], [], [], [9], [8, 9, 10], [], [12], [], [14], [12, 13, 14, 15], [8, 9, 10, 11, 12, 13, 14, 15, 16], [6, 7, 8, 9, 10, 11, 12, 13, 14, 15, 16, 17], [6, 7, 8, 9, 10, 11, 12, 13, 14, 15, 16, 17, 18], [5, 6, 7, 8, 9, 10, 11, 12, 13, 14, 15, 16, 17, 18, 19], [5, 6, 7, 8, 9, 10, 11, 12, 13, 14, 15, 16, 17, 18, 19, 20], [5, 6, 7, 8, 9, 10, 11, 12, 13, 14, 15, 16, 17, 18, 19, 20, 21], [0, 1, 2, 3, 4, 5, 6, 7, 8, 9, 10, 11, 12, 13, 14, 15, 16, 17, 18, 19, 20, 21, 22]]) [[0, 1, 2, 3, 4, 5, 6, 7, 8, 9, 10, 11, 12, 13, 14, 15, 16, 17, 18, 19, 20, 21, 22, 23]] (by kernel_rfl) (by kernel_rfl) (NoPanic.seq (NoPanic.seq (NoPanic.block (NoPanic.seq (NoPanic.seq (NoPanic.block (NoPanic.seq (NoPanic.body)))))))) ?_
            have hS1594 := hS1569.drew
            revert hS1594
            generalize World.drew w1568 = w1593
            intro hS1594
            refine ⟨⟨rowR.cell (hS1594.rd 0).1 z_Tile h1598.1 h1598.2 1 rfl, hS1594.cell 0 rfl 2 rfl, hS1594.cell 0 rfl 0 rfl, hS1594.cell 0 rfl 0 rfl, rowR.cell (hS1594.rd 1).1 0 h1599.1 h1599.2 0 rfl, rowR.cell (hS1594.rd 0).1 z_Tile h1600.1 h1600.2 3 rfl, trivial⟩, forallC ?_ (forallN)⟩
            refine segF 24 [.v (.int .i64 ((rdD p0 (rdD p1.Cells x1558 0) z_Tile).E)), .v (.slice A_p1_Cells p1.Cells.length c_p1_Cells), .v (.int .i64 p1.Width), .v (.int .i64 p1.Width), .v (.int .i64 (rdD p1.Cells (w64 ((w64 ((w64 (Int.tdiv x1558 p1.Width)) * p1.Width)) + (Int.tmod (w64 ((Int.tmod x1558 p1.Width) + 1)) p1.Width))) 0)), .v (.int .i64 ((rdD p0 (rdD p1.Cells (w64 ((w64 ((w64 (Int.tdiv x1558 p1.Width)) * p1.Width)) + (Int.tmod (w64 ((Int.tmod x1558 p1.Width) + 1)) p1.Width))) 0) z_Tile).W))] [0, 2, 4, 8, 9, 10, 12, 13, 14, 58] [(0, (.slice A_p0 p0.length c_p0)), (2, (.bool p2)), (4, (.pointer (some ⟨g1387, 0, none⟩))), (8, (.int .i64 (rdD p1.Cells x1558 0))), (9, (.int .i64 (Int.tmod x1558 p1.Width))), (10, (.int .i64 (w64 (Int.tdiv x1558 p1.Width)))), (12, (.slice A_p1_Cells p1.Cells.length c_p1_Cells)), (13, (.int .i64 (p1.Cells.length : Int))), (14, (.int .i64 x1558)), (58, (.bool (((rdD p0 (rdD p1.Cells x1558 0) z_Tile).E) != ((rdD p0 (rdD p1.Cells (w64 ((w64 ((w64 (Int.tdiv x1558 p1.Width)) * p1.Width)) + (Int.tmod (w64 ((Int.tmod x1558 p1.Width) + 1)) p1.Width))) 0) z_Tile).W))))] [.idx A_p0 (rdD p1.Cells x1558 0) p0.length, .ne p1.Width, .idx A_p1_Cells (w64 ((w64 ((w64 (Int.tdiv x1558 p1.Width)) * p1.Width)) + (Int.tmod (w64 ((Int.tmod x1558 p1.Width) + 1)) p1.Width))) p1.Cells.length, .idx A_p0 (rdD p1.Cells (w64 ((w64 ((w64 (Int.tdiv x1558 p1.Width)) * p1.Width)) + (Int.tmod (w64 ((Int.tmod x1558 p1.Width) + 1)) p1.Width))) 0) p0.length] [0, 1, 2, 3, 4, 5] [(4, (((adr A_p0).add (((rdD p1.Cells x1558 0)).toNat * 4)).add 1), (.int .i64 ((rdD p0 (rdD p1.Cells x1558 0) z_Tile).E))), (7, ⟨g1387, 2, none⟩, (.slice A_p1_Cells p1.Cells.length c_p1_Cells)), (10, ⟨g1387, 0, none⟩, (.int .i64 p1.Width)), (15, ⟨g1387, 0, none⟩, (.int .i64 p1.Width)), (19, ((adr A_p1_Cells).add ((w64 ((w64 ((w64 (Int.tdiv x1558 p1.Width)) * p1.Width)) + (Int.tmod (w64 ((Int.tmod x1558 p1.Width) + 1)) p1.Width))).toNat * 1)), (.int .i64 (rdD p1.Cells (w64 ((w64 ((w64 (Int.tdiv x1558 p1.Width)) * p1.Width)) + (Int.tmod (w64 ((Int.tmod x1558 p1.Width) + 1)) p1.Width))) 0))), (22, (((adr A_p0).add (((rdD p1.Cells (w64 ((w64 ((w64 (Int.tdiv x1558 p1.Width)) * p1.Width)) + (Int.tmod (w64 ((Int.tmod x1558 p1.Width) + 1)) p1.Width))) 0)).toNat * 4)).add 3), (.int .i64 ((rdD p0 (rdD p1.Cells (w64 ((w64 ((w64 (Int.tdiv x1558 p1.Width)) * p1.Width)) + (Int.tmod (w64 ((Int.tmod x1558 p1.Width) + 1)) p1.Width))) 0) z_Tile).W)))] (fun fb => by kernel_rfl) rfl ⟨rowR.adr (hS1594.rd 0).1 h1598.1 h1598.2, h1571, rowR.adr (hS1594.rd 1).1 h1599.1 h1599.2, rowR.adr (hS1594.rd 0).1 h1600.1 h1600.2, trivial⟩ rfl ?_
            refine WL.done rfl ?_
            refine WX.next ?_
            rcases br_some hx1588 with ⟨h1601, hx1588⟩ | ⟨h1601, hx1588⟩
            · refine WC.condT2 (fun fb => by kernel_rfl) h1601 ?_
              refine WC.seq ?_
              refine WC.region ?_
              refine seg 1 [] [6] [(6, (.bool false))] [] (fun fb => by kernel_rfl) rfl trivial ?_
              refine WL.done rfl ?_
              refine WX.next ?_
              refine WC.ret ?_
              injection hx1588 with hx1588
              subst hx1588
              injection hl1564 with hl1564
              subst hl1564
              injection hf with hf
              subst hf
              exact WX.thenR (WX.blockR (WX.thenR (WX.thenR (WX.blockR (WX.thenR (WX.ret_ [] (.bool false) [] (fun fb => by kernel_rfl) trivial ⟨_, rfl, rfl, hS1594.keep⟩))))))
            refine WC.condF2 (fun fb => by kernel_rfl) h1601 ?_
            refine WC.skip ?_
            injection hx1588 with hx1588
            exact WX.to Kx1587 () [0, 2, 4, 8, 9, 10, 12, 13, 14] rfl ⟨(hS1594.subR [0, 1]).sub [0] (by decide), hx1588.symm⟩
          refine WC.condF2 (fun fb => by kernel_rfl) h1589 ?_
          refine WC.skip ?_
          injection hx1588 with hx1588
          exact WX.to Kx1587 () [0, 2, 4, 8, 9, 10, 12, 13, 14] rfl ⟨(hS1569.subR [0, 1]).sub [0] (by decide), hx1588.symm⟩
        rintro y1605 w1602 ⟨hS1603, hq1604⟩
        subst hq1604
        have hl1564 := sum_inr hl1564
        refine WX.next ?_
        refine WC.seq ?_
        refine WC.region ?_
        refine seg 6 [.v (.int .i64 p1.Height)] [0, 2, 4, 8, 9, 10, 12, 13, 14, 64] [(0, (.slice A_p0 p0.length c_p0)), (2, (.bool p2)), (4, (.pointer (some ⟨g1387, 0, none⟩))), (8, (.int .i64 (rdD p1.Cells x1558 0))), (9, (.int .i64 (Int.tmod x1558 p1.Width))), (10, (.int .i64 (w64 (Int.tdiv x1558 p1.Width)))), (12, (.slice A_p1_Cells p1.Cells.length c_p1_Cells)), (13, (.int .i64 (p1.Cells.length : Int))), (14, (.int .i64 x1558)), (64, (.bool (decide (w64 ((w64 (Int.tdiv x1558 p1.Width)) + 1) < p1.Height))))] [.cell ⟨g1387, 1, none⟩ (.int .i64 p1.Height)] (fun fb => by kernel_rfl) rfl ⟨hS1603.cell 0 rfl 1 rfl, trivial⟩ ?_
        refine WL.cutV (T := Bool) 8 (fun t => [(66, (.bool t)), (0, (.slice A_p0 p0.length c_p0)), (2, (.bool p2)), (4, (.pointer (some ⟨g1387, 0, none⟩))), (8, (.int .i64 (rdD p1.Cells x1558 0))), (9, (.int .i64 (Int.tmod x1558 p1.Width))), (10, (.int .i64 (w64 (Int.tdiv x1558 p1.Width)))), (12, (.slice A_p1_Cells p1.Cells.length c_p1_Cells)), (13, (.int .i64 (p1.Cells.length : Int))), (14, (.int .i64 x1558))]) (fun t => t = ((decide (w64 ((w64 (Int.tdiv x1558 p1.Width)) + 1) < p1.Height)) || p2)) (fun K => ?_) ?_
        ·
          rcases Bool.eq_false_or_eq_true (decide (w64 ((w64 (Int.tdiv x1558 p1.Width)) + 1) < p1.Height)) with h1607 | h1607
          ·
            refine WL.setB 64 h1607 rfl ?_
            refine seg 8 [] [0, 2, 4, 8, 9, 10, 12, 13, 14, 66] [(0, (.slice A_p0 p0.length c_p0)), (2, (.bool p2)), (4, (.pointer (some ⟨g1387, 0, none⟩))), (8, (.int .i64 (rdD p1.Cells x1558 0))), (9, (.int .i64 (Int.tmod x1558 p1.Width))), (10, (.int .i64 (w64 (Int.tdiv x1558 p1.Width)))), (12, (.slice A_p1_Cells p1.Cells.length c_p1_Cells)), (13, (.int .i64 (p1.Cells.length : Int))), (14, (.int .i64 x1558)), (66, (.bool true))] [] (fun fb => by kernel_rfl) rfl trivial ?_
            exact WL.toV K true [66, 0, 2, 4, 8, 9, 10, 12, 13, 14] rfl (by first | (rw [h1607]; done) | (rw [h1607]; rfl))
          refine WL.setB 64 h1607 rfl ?_
          refine seg 8 [] [0, 2, 4, 8, 9, 10, 12, 13, 14, 66] [(0, (.slice A_p0 p0.length c_p0)), (2, (.bool p2)), (4, (.pointer (some ⟨g1387, 0, none⟩))), (8, (.int .i64 (rdD p1.Cells x1558 0))), (9, (.int .i64 (Int.tmod x1558 p1.Width))), (10, (.int .i64 (w64 (Int.tdiv x1558 p1.Width)))), (12, (.slice A_p1_Cells p1.Cells.length c_p1_Cells)), (13, (.int .i64 (p1.Cells.length : Int))), (14, (.int .i64 x1558)), (66, (.bool p2))] [] (fun fb => by kernel_rfl) rfl trivial ?_
          exact WL.toV K p2 [66, 0, 2, 4, 8, 9, 10, 12, 13, 14] rfl (by first | (rw [h1607]; done) | (rw [h1607]; rfl))
        rintro b1608 rfl
        refine WL.done rfl ?_
        refine WX.next ?_
        obtain ⟨x1625, hx1626, hl1564⟩ := bind_some hl1564
        refine WC.cutN (T := Unit) (fun t => [(0, (.slice A_p0 p0.length c_p0)), (2, (.bool p2)), (4, (.pointer (some ⟨g1387, 0, none⟩))), (12, (.slice A_p1_Cells p1.Cells.length c_p1_Cells)), (13, (.int .i64 (p1.Cells.length : Int))), (14, (.int .i64 x1558))]) (fun t w1 => St NoS w w1 [rowR enc_Tile A_p0 c_p0 p0, rowR encInt A_p1_Cells c_p1_Cells p1.Cells] [blk g1387 (.cells #[(.int .i64 p1.Width), (.int .i64 p1.Height), (.slice A_p1_Cells p1.Cells.length c_p1_Cells)] 35 (0, 0))] ∧ x1625 = .inr t) (fun Kx1625 => ?_) ?_
        ·
          rcases br_some hx1626 with ⟨h1627, hx1626⟩ | ⟨h1627, hx1626⟩
          · refine WC.condT2 (fun fb => by kernel_rfl) h1627 ?_
            refine WC.seq ?_
            obtain ⟨h1638, hx1626⟩ := as_some hx1626
            obtain ⟨h1639, hx1626⟩ := as_some hx1626
            obtain ⟨h1640, hx1626⟩ := as_some hx1626
            obtain ⟨h1641, hx1626⟩ := as_some hx1626
            refine WC.regionD ([(4, ((adr A_p0).add (((rdD p1.Cells x1558 0)).toNat * 4)), (.int .i64 ((rdD p0 (rdD p1.Cells x1558 0) z_Tile).N))), (7, ⟨g1387, 2, none⟩, (.slice A_p1_Cells p1.Cells.length c_p1_Cells)), (11, ⟨g1387, 1, none⟩, (.int .i64 p1.Height)), (14, ⟨g1387, 0, none⟩, (.int .i64 p1.Width)), (19, ((adr A_p1_Cells).add ((w64 ((w64 ((Int.tmod (w64 ((w64 (Int.tdiv x1558 p1.Width)) + 1)) p1.Height) * p1.Width)) + (Int.tmod x1558 p1.Width))).toNat * 1)), (.int .i64 (rdD p1.Cells (w64 ((w64 ((Int.tmod (w64 ((w64 (Int.tdiv x1558 p1.Width)) + 1)) p1.Height) * p1.Width)) + (Int.tmod x1558 p1.Width))) 0))), (22, (((adr A_p0).add (((rdD p1.Cells (w64 ((w64 ((Int.tmod (w64 ((w64 (Int.tdiv x1558 p1.Width)) + 1)) p1.Height) * p1.Width)) + (Int.tmod x1558 p1.Width))) 0)).toNat * 4)).add 2), (.int .i64 ((rdD p0 (rdD p1.Cells (w64 ((w64 ((Int.tmod (w64 ((w64 (Int.tdiv x1558 p1.Width)) + 1)) p1.Height) * p1.Width)) + (Int.tmod x1558 p1.Width))) 0) z_Tile).S)))], [0, 1, 2, 3, 4, 5, 6, 7, 8, 9, 10, 11, 12, 13, 14, 15, 16, 17, 18, 19, 20, 21, 22, 23], [[], [], [0, 1], [0, 1, 2], [0, 1, 2, 3], [], [], [6], [], [8], [], [10], [8, 9, 10, 11], [], [13], [8, 9, 10, 11, 12, 13, 14], [], [8, 9, 10, 11, 12, 13, 14, 15, 16], [6, 7, 8, 9, 10, 11, 12, 13, 14, 15, 16, 17], [6, 7, 8, 9, 10, 11, 12, 13, 14, 15, 16, 17, 18], [5, 6, 7, 8, 9, 10, 11, 12, 13, 14, 15, 16, 17, 18, 19], [5, 6, 7, 8, 9, 10, 11, 12, 13, 14, 15, 16, 17, 18, 19, 20], [5, 6, 7, 8, 9, 10, 11, 12, 13, 14, 15, 16, 17, 18, 19, 20, 21], [0, 1, 2, 3, 4, 5, 6, 7, 8, 9, 10, 11, 12, 13, 14, 15, 16, 17, 18, 19, 20, 21, 22]]) [[0, 1, 2, 3, 4, 5, 6, 7, 8, 9, 10, 11, 12, 13, 14, 15, 16, 17, 18, 19, 20, 21, 22, 23]] (by kernel_rfl) (by kernel_rfl) (NoPanic.seq (NoPanic.block (NoPanic.seq (NoPanic.seq (NoPanic.block (NoPanic.seq (NoPanic.body))))))) ?_
            have hS1633 := hS1603.drew
            revert hS1633
            generalize World.drew w1602 = w1632
            intro hS1633
            refine ⟨⟨rowR.cell (hS1633.rd 0).1 z_Tile h1638.1 h1638.2 0 rfl, hS1633.cell 0 rfl 2 rfl, hS1633.cell 0 rfl 1 rfl, hS1633.cell 0 rfl 0 rfl, rowR.cell (hS1633.rd 1).1 0 h1640.1 h1640.2 0 rfl, rowR.cell (hS1633.rd 0).1 z_Tile h1641.1 h1641.2 2 rfl, trivial⟩, forallC ?_ (forallN)⟩
            refine segF 24 [.v (.int .i64 ((rdD p0 (rdD p1.Cells x1558 0) z_Tile).N)), .v (.slice A_p1_Cells p1.Cells.length c_p1_Cells), .v (.int .i64 p1.Height), .v (.int .i64 p1.Width), .v (.int .i64 (rdD p1.Cells (w64 ((w64 ((Int.tmod (w64 ((w64 (Int.tdiv x1558 p1.Width)) + 1)) p1.Height) * p1.Width)) + (Int.tmod x1558 p1.Width))) 0)), .v (.int .i64 ((rdD p0 (rdD p1.Cells (w64 ((w64 ((Int.tmod (w64 ((w64 (Int.tdiv x1558 p1.Width)) + 1)) p1.Height) * p1.Width)) + (Int.tmod x1558 p1.Width))) 0) z_Tile).S))] [0, 2, 4, 12, 13, 14, 90] [(0, (.slice A_p0 p0.length c_p0)), (2, (.bool p2)), (4, (.pointer (some ⟨g1387, 0, none⟩))), (12, (.slice A_p1_Cells p1.Cells.length c_p1_Cells)), (13, (.int .i64 (p1.Cells.length : Int))), (14, (.int .i64 x1558)), (90, (.bool (((rdD p0 (rdD p1.Cells x1558 0) z_Tile).N) != ((rdD p0 (rdD p1.Cells (w64 ((w64 ((Int.tmod (w64 ((w64 (Int.tdiv x1558 p1.Width)) + 1)) p1.Height) * p1.Width)) + (Int.tmod x1558 p1.Width))) 0) z_Tile).S))))] [.idx A_p0 (rdD p1.Cells x1558 0) p0.length, .ne p1.Height, .idx A_p1_Cells (w64 ((w64 ((Int.tmod (w64 ((w64 (Int.tdiv x1558 p1.Width)) + 1)) p1.Height) * p1.Width)) + (Int.tmod x1558 p1.Width))) p1.Cells.length, .idx A_p0 (rdD p1.Cells (w64 ((w64 ((Int.tmod (w64 ((w64 (Int.tdiv x1558 p1.Width)) + 1)) p1.Height) * p1.Width)) + (Int.tmod x1558 p1.Width))) 0) p0.length] [0, 1, 2, 3, 4, 5] [(4, ((adr A_p0).add (((rdD p1.Cells x1558 0)).toNat * 4)), (.int .i64 ((rdD p0 (rdD p1.Cells x1558 0) z_Tile).N))), (7, ⟨g1387, 2, none⟩, (.slice A_p1_Cells p1.Cells.length c_p1_Cells)), (11, ⟨g1387, 1, none⟩, (.int .i64 p1.Height)), (14, ⟨g1387, 0, none⟩, (.int .i64 p1.Width)), (19, ((adr A_p1_Cells).add ((w64 ((w64 ((Int.tmod (w64 ((w64 (Int.tdiv x1558 p1.Width)) + 1)) p1.Height) * p1.Width)) + (Int.tmod x1558 p1.Width))).toNat * 1)), (.int .i64 (rdD p1.Cells (w64 ((w64 ((Int.tmod (w64 ((w64 (Int.tdiv x1558 p1.Width)) + 1)) p1.Height) * p1.Width)) + (Int.tmod x1558 p1.Width))) 0))), (22, (((adr A_p0).add (((rdD p1.Cells (w64 ((w64 ((Int.tmod (w64 ((w64 (Int.tdiv x1558 p1.Width)) + 1)) p1.Height) * p1.Width)) + (Int.tmod x1558 p1.Width))) 0)).toNat * 4)).add 2), (.int .i64 ((rdD p0 (rdD p1.Cells (w64 ((w64 ((Int.tmod (w64 ((w64 (Int.tdiv x1558 p1.Width)) + 1)) p1.Height) * p1.Width)) + (Int.tmod x1558 p1.Width))) 0) z_Tile).S)))] (fun fb => by kernel_rfl) rfl ⟨rowR.adr (hS1633.rd 0).1 h1638.1 h1638.2, h1639, rowR.adr (hS1633.rd 1).1 h1640.1 h1640.2, rowR.adr (hS1633.rd 0).1 h1641.1 h1641.2, trivial⟩ rfl ?_
            refine WL.done rfl ?_
            refine WX.next ?_
            rcases br_some hx1626 with ⟨h1642, hx1626⟩ | ⟨h1642, hx1626⟩
            · refine WC.condT2 (fun fb => by kernel_rfl) h1642 ?_
              refine WC.seq ?_
              refine WC.region ?_
              refine seg 1 [] [6] [(6, (.bool false))] [] (fun fb => by kernel_rfl) rfl trivial ?_
              refine WL.done rfl ?_
              refine WX.next ?_
              refine WC.ret ?_
              injection hx1626 with hx1626
              subst hx1626
              injection hl1564 with hl1564
              subst hl1564
              injection hf with hf
              subst hf
              exact WX.blockR (WX.thenR (WX.thenR (WX.blockR (WX.thenR (WX.ret_ [] (.bool false) [] (fun fb => by kernel_rfl) trivial ⟨_, rfl, rfl, hS1633.keep⟩)))))
            refine WC.condF2 (fun fb => by kernel_rfl) h1642 ?_
            refine WC.skip ?_
            injection hx1626 with hx1626
            exact WX.to Kx1625 () [0, 2, 4, 12, 13, 14] rfl ⟨(hS1633.subR [0, 1]).sub [0] (by decide), hx1626.symm⟩
          refine WC.condF2 (fun fb => by kernel_rfl) h1627 ?_
          refine WC.skip ?_
          injection hx1626 with hx1626
          exact WX.to Kx1625 () [0, 2, 4, 12, 13, 14] rfl ⟨(hS1603.subR [0, 1]).sub [0] (by decide), hx1626.symm⟩
        rintro y1646 w1643 ⟨hS1644, hq1645⟩
        subst hq1645
        have hl1564 := sum_inr hl1564
        refine WX.blockN (WX.next ?_)
        refine WC.region ?_
        refine seg 2 [] [0, 2, 4, 12, 13, 14] [(0, (.slice A_p0 p0.length c_p0)), (2, (.bool p2)), (4, (.pointer (some ⟨g1387, 0, none⟩))), (12, (.slice A_p1_Cells p1.Cells.length c_p1_Cells)), (13, (.int .i64 (p1.Cells.length : Int))), (14, (.int .i64 (w64 (x1558 + 1))))] [] (fun fb => by kernel_rfl) rfl trivial ?_
        refine WL.done rfl ?_
        exact WX.again k1561 (Nat.lt_succ_self _) (w64 (x1558 + 1)) [0, 2, 4, 12, 13, 14] rfl ⟨(hS1644.subR [0, 1]).sub [0] (by decide), hl1564⟩
      refine WC.condF2 (fun fb => by kernel_rfl) h1565 ?_
      refine WC.exit ?_
      injection hl1564 with hl1564
      exact WX.thenX (WX.thenX (WX.blockHere (WX.to Kx1559 () [] rfl ⟨(hS1563.subR [0, 1]).sub [] (by decide), hl1564.symm⟩)))
  rintro y1651 w1648 ⟨hS1649, hq1650⟩
  subst hq1650
  have hf := sum_inr hf
  refine WX.next ?_
  refine WC.seq ?_
  refine WC.region ?_
  refine seg 1 [] [6] [(6, (.bool true))] [] (fun fb => by kernel_rfl) rfl trivial ?_
  refine WL.done rfl ?_
  refine WX.next ?_
  refine WC.ret ?_
  injection hf with hf
  subst hf
  exact WX.ret_ [] (.bool true) [] (fun fb => by kernel_rfl) trivial ⟨_, rfl, rfl, hS1649.keep⟩
theorem tile_Repeats_calls (k : Nat) (p0 : List Tile) (p1 : Pattern) (A_p0 : Option Addr) (c_p0 : Nat) (A_p1_Cells : Option Addr) (c_p1_Cells : Nat) (r : Bool) (w : World) (hR0 : RO NoS w (rowR enc_Tile A_p0 c_p0 p0)) (hR1 : RO NoS w (rowR encInt A_p1_Cells c_p1_Cells p1.Cells)) (hf : tile_Repeats k p0 p1 = some r) :
    CallsR Tryd.prog 16 #[(.slice A_p0 p0.length c_p0), (.agg #[(.int .i64 p1.Width), (.int .i64 p1.Height), (.slice A_p1_Cells p1.Cells.length c_p1_Cells)])] w (fun v w' => v = (.bool r) ∧ Keeps NoS w w') := by
  have hS : St NoS w w [rowR enc_Tile A_p0 c_p0 p0, rowR encInt A_p1_Cells c_p1_Cells p1.Cells] [] := St.init (ro_cons hR0 (ro_cons hR1 (ro_nil _ _)))
  refine enter 13 Tryd.func16 rfl Tryd.ntmps16 rfl ?_
  unfold tile_Repeats at hf
  refine WC.seq ?_
  refine WC.region ?_
  refine WL.new hS 3 [] (fun g => (.pointer (some ⟨g, 0, none⟩))) (.cells #[(.int .i64 p1.Width), (.int .i64 p1.Height), (.slice A_p1_Cells p1.Cells.length c_p1_Cells)] 35 (0, 0)) [] (fun fb g => by kernel_rfl) trivial (fun g1269 w1270 hS1271 => ?_)
  refine ⟨trivial, ?_⟩
  refine seg 2 [] [0, 3] [(0, (.slice A_p0 p0.length c_p0)), (3, (.pointer (some ⟨g1269, 0, none⟩)))] [] (fun fb => by kernel_rfl) rfl trivial ?_
  refine WL.done rfl ?_
  refine WX.next ?_
  refine WC.seq ?_
  refine WC.region ?_
  refine seg 2 [.v (.int .i64 p1.Width), .v (.int .i64 p1.Height), .v (.slice A_p1_Cells p1.Cells.length c_p1_Cells)] [0, 3, 5, 6] [(0, (.slice A_p0 p0.length c_p0)), (3, (.pointer (some ⟨g1269, 0, none⟩))), (5, (.slice A_p0 p0.length c_p0)), (6, (.agg #[(.int .i64 p1.Width), (.int .i64 p1.Height), (.slice A_p1_Cells p1.Cells.length c_p1_Cells)]))] [.cell ⟨g1269, 0, none⟩ (.int .i64 p1.Width), .cell ⟨g1269, 1, none⟩ (.int .i64 p1.Height), .cell ⟨g1269, 2, none⟩ (.slice A_p1_Cells p1.Cells.length c_p1_Cells)] (fun fb => by kernel_rfl) rfl ⟨hS1271.cell 0 rfl 0 rfl, hS1271.cell 0 rfl 1 rfl, hS1271.cell 0 rfl 2 rfl, trivial⟩ ?_
  obtain ⟨t1382, ht1383, hf⟩ := bind_some hf
  refine WL.call (some 7) 44 #[(.slice A_p0 p0.length c_p0), (.agg #[(.int .i64 p1.Width), (.int .i64 p1.Height), (.slice A_p1_Cells p1.Cells.length c_p1_Cells)])] (fun fb => by kernel_rfl) (tile_of_calls _ p0 p1 A_p0 c_p0 A_p1_Cells c_p1_Cells t1382 _ (hS1271.rd 0) (hS1271.rd 1) ht1383) (fun v w1384 hR1385 => ?_)
  obtain ⟨rfl, hk_⟩ := hR1385
  have hS1386 := hS1271.keepN hk_
  refine ⟨trivial, ?_⟩
  refine seg 4 [] [0, 3, 8] [(0, (.slice A_p0 p0.length c_p0)), (3, (.pointer (some ⟨g1269, 0, none⟩))), (8, (.bool t1382))] [] (fun fb => by kernel_rfl) rfl trivial ?_
  obtain ⟨x1659, hx1660, hf⟩ := bind_some hf
  refine WL.cutW (T := Bool) 8 (fun t => [(12, (.bool t))]) (fun t w1 => (St NoS w w1 [rowR enc_Tile A_p0 c_p0 p0, rowR encInt A_p1_Cells c_p1_Cells p1.Cells] [] ∧ x1659 = t) ∧ CellsOK [] w1) (fun K => ?_) ?_
  ·
    rcases br_some hx1660 with ⟨h1661, hx1660⟩ | ⟨h1661, hx1660⟩
    ·
      refine WL.setB 8 h1661 rfl ?_
      refine seg 6 [.v (.int .i64 p1.Width), .v (.int .i64 p1.Height), .v (.slice A_p1_Cells p1.Cells.length c_p1_Cells)] [8, 9, 10] [(8, (.bool true)), (9, (.slice A_p0 p0.length c_p0)), (10, (.agg #[(.int .i64 p1.Width), (.int .i64 p1.Height), (.slice A_p1_Cells p1.Cells.length c_p1_Cells)]))] [.cell ⟨g1269, 0, none⟩ (.int .i64 p1.Width), .cell ⟨g1269, 1, none⟩ (.int .i64 p1.Height), .cell ⟨g1269, 2, none⟩ (.slice A_p1_Cells p1.Cells.length c_p1_Cells)] (fun fb => by kernel_rfl) rfl ⟨hS1386.cell 0 rfl 0 rfl, hS1386.cell 0 rfl 1 rfl, hS1386.cell 0 rfl 2 rfl, trivial⟩ ?_
      obtain ⟨t1662, ht1663, hx1660⟩ := bind_some hx1660
      refine WL.call (some 11) 45 #[(.slice A_p0 p0.length c_p0), (.agg #[(.int .i64 p1.Width), (.int .i64 p1.Height), (.slice A_p1_Cells p1.Cells.length c_p1_Cells)]), (.bool true)] (fun fb => by kernel_rfl) (tile_joins_calls _ p0 p1 true A_p0 c_p0 A_p1_Cells c_p1_Cells t1662 _ (hS1386.rd 0) (hS1386.rd 1) ht1663) (fun v w1664 hR1665 => ?_)
      obtain ⟨rfl, hk_⟩ := hR1665
      have hS1666 := hS1386.keepN hk_
      refine ⟨trivial, ?_⟩
      refine seg 8 [] [12] [(12, (.bool t1662))] [] (fun fb => by kernel_rfl) rfl trivial ?_
      injection hx1660 with hx1660
      exact WL.to K t1662 [12] rfl ⟨⟨(hS1666.subR [0, 1]).sub [] (by decide), hx1660.symm⟩, trivial⟩
    refine WL.setB 8 h1661 rfl ?_
    refine seg 8 [] [12] [(12, (.bool false))] [] (fun fb => by kernel_rfl) rfl trivial ?_
    injection hx1660 with hx1660
    exact WL.to K false [12] rfl ⟨⟨(hS1386.subR [0, 1]).sub [] (by decide), hx1660.symm⟩, trivial⟩
  rintro y1667 w1669 ⟨⟨hS1670, hq1668⟩, hF1671⟩
  subst hq1668
  refine seg 9 [] [4] [(4, (.bool x1659))] [] (fun fb => by kernel_rfl) rfl trivial ?_
  refine WL.done rfl ?_
  refine WX.next ?_
  refine WC.ret ?_
  injection hf with hf
  subst hf
  exact WX.ret_ [] (.bool x1659) [] (fun fb => by kernel_rfl) trivial ⟨_, rfl, rfl, hS1670.keep⟩
theorem tile_Fits_calls (k : Nat) (p0 : List Tile) (p1 : Pattern) (A_p0 : Option Addr) (c_p0 : Nat) (A_p1_Cells : Option Addr) (c_p1_Cells : Nat) (r : Bool) (w : World) (hR0 : RO NoS w (rowR enc_Tile A_p0 c_p0 p0)) (hR1 : RO NoS w (rowR encInt A_p1_Cells c_p1_Cells p1.Cells)) (hf : tile_Fits k p0 p1 = some r) :
    CallsR Tryd.prog 14 #[(.slice A_p0 p0.length c_p0), (.agg #[(.int .i64 p1.Width), (.int .i64 p1.Height), (.slice A_p1_Cells p1.Cells.length c_p1_Cells)])] w (fun v w' => v = (.bool r) ∧ Keeps NoS w w') := by
  have hS : St NoS w w [rowR enc_Tile A_p0 c_p0 p0, rowR encInt A_p1_Cells c_p1_Cells p1.Cells] [] := St.init (ro_cons hR0 (ro_cons hR1 (ro_nil _ _)))
  refine enter 13 Tryd.func14 rfl Tryd.ntmps14 rfl ?_
  unfold tile_Fits at hf
  refine WC.seq ?_
  refine WC.region ?_
  refine WL.new hS 3 [] (fun g => (.pointer (some ⟨g, 0, none⟩))) (.cells #[(.int .i64 p1.Width), (.int .i64 p1.Height), (.slice A_p1_Cells p1.Cells.length c_p1_Cells)] 35 (0, 0)) [] (fun fb g => by kernel_rfl) trivial (fun g1720 w1721 hS1722 => ?_)
  refine ⟨trivial, ?_⟩
  refine seg 2 [] [0, 3] [(0, (.slice A_p0 p0.length c_p0)), (3, (.pointer (some ⟨g1720, 0, none⟩)))] [] (fun fb => by kernel_rfl) rfl trivial ?_
  refine WL.done rfl ?_
  refine WX.next ?_
  refine WC.seq ?_
  refine WC.region ?_
  refine seg 2 [.v (.int .i64 p1.Width), .v (.int .i64 p1.Height), .v (.slice A_p1_Cells p1.Cells.length c_p1_Cells)] [0, 3, 5, 6] [(0, (.slice A_p0 p0.length c_p0)), (3, (.pointer (some ⟨g1720, 0, none⟩))), (5, (.slice A_p0 p0.length c_p0)), (6, (.agg #[(.int .i64 p1.Width), (.int .i64 p1.Height), (.slice A_p1_Cells p1.Cells.length c_p1_Cells)]))] [.cell ⟨g1720, 0, none⟩ (.int .i64 p1.Width), .cell ⟨g1720, 1, none⟩ (.int .i64 p1.Height), .cell ⟨g1720, 2, none⟩ (.slice A_p1_Cells p1.Cells.length c_p1_Cells)] (fun fb => by kernel_rfl) rfl ⟨hS1722.cell 0 rfl 0 rfl, hS1722.cell 0 rfl 1 rfl, hS1722.cell 0 rfl 2 rfl, trivial⟩ ?_
  obtain ⟨t1724, ht1725, hf⟩ := bind_some hf
  refine WL.call (some 7) 44 #[(.slice A_p0 p0.length c_p0), (.agg #[(.int .i64 p1.Width), (.int .i64 p1.Height), (.slice A_p1_Cells p1.Cells.length c_p1_Cells)])] (fun fb => by kernel_rfl) (tile_of_calls _ p0 p1 A_p0 c_p0 A_p1_Cells c_p1_Cells t1724 _ (hS1722.rd 0) (hS1722.rd 1) ht1725) (fun v w1726 hR1727 => ?_)
  obtain ⟨rfl, hk_⟩ := hR1727
  have hS1728 := hS1722.keepN hk_
  refine ⟨trivial, ?_⟩
  refine seg 4 [] [0, 3, 8] [(0, (.slice A_p0 p0.length c_p0)), (3, (.pointer (some ⟨g1720, 0, none⟩))), (8, (.bool t1724))] [] (fun fb => by kernel_rfl) rfl trivial ?_
  obtain ⟨x1735, hx1736, hf⟩ := bind_some hf
  refine WL.cutW (T := Bool) 8 (fun t => [(12, (.bool t))]) (fun t w1 => (St NoS w w1 [rowR enc_Tile A_p0 c_p0 p0, rowR encInt A_p1_Cells c_p1_Cells p1.Cells] [] ∧ x1735 = t) ∧ CellsOK [] w1) (fun K => ?_) ?_
  ·
    rcases br_some hx1736 with ⟨h1737, hx1736⟩ | ⟨h1737, hx1736⟩
    ·
      refine WL.setB 8 h1737 rfl ?_
      refine seg 6 [.v (.int .i64 p1.Width), .v (.int .i64 p1.Height), .v (.slice A_p1_Cells p1.Cells.length c_p1_Cells)] [8, 9, 10] [(8, (.bool true)), (9, (.slice A_p0 p0.length c_p0)), (10, (.agg #[(.int .i64 p1.Width), (.int .i64 p1.Height), (.slice A_p1_Cells p1.Cells.length c_p1_Cells)]))] [.cell ⟨g1720, 0, none⟩ (.int .i64 p1.Width), .cell ⟨g1720, 1, none⟩ (.int .i64 p1.Height), .cell ⟨g1720, 2, none⟩ (.slice A_p1_Cells p1.Cells.length c_p1_Cells)] (fun fb => by kernel_rfl) rfl ⟨hS1728.cell 0 rfl 0 rfl, hS1728.cell 0 rfl 1 rfl, hS1728.cell 0 rfl 2 rfl, trivial⟩ ?_
      obtain ⟨t1738, ht1739, hx1736⟩ := bind_some hx1736
      refine WL.call (some 11) 45 #[(.slice A_p0 p0.length c_p0), (.agg #[(.int .i64 p1.Width), (.int .i64 p1.Height), (.slice A_p1_Cells p1.Cells.length c_p1_Cells)]), (.bool false)] (fun fb => by kernel_rfl) (tile_joins_calls _ p0 p1 false A_p0 c_p0 A_p1_Cells c_p1_Cells t1738 _ (hS1728.rd 0) (hS1728.rd 1) ht1739) (fun v w1740 hR1741 => ?_)
      obtain ⟨rfl, hk_⟩ := hR1741
      have hS1742 := hS1728.keepN hk_
      refine ⟨trivial, ?_⟩
      refine seg 8 [] [12] [(12, (.bool t1738))] [] (fun fb => by kernel_rfl) rfl trivial ?_
      injection hx1736 with hx1736
      exact WL.to K t1738 [12] rfl ⟨⟨(hS1742.subR [0, 1]).sub [] (by decide), hx1736.symm⟩, trivial⟩
    refine WL.setB 8 h1737 rfl ?_
    refine seg 8 [] [12] [(12, (.bool false))] [] (fun fb => by kernel_rfl) rfl trivial ?_
    injection hx1736 with hx1736
    exact WL.to K false [12] rfl ⟨⟨(hS1728.subR [0, 1]).sub [] (by decide), hx1736.symm⟩, trivial⟩
  rintro y1743 w1745 ⟨⟨hS1746, hq1744⟩, hF1747⟩
  subst hq1744
  refine seg 9 [] [4] [(4, (.bool x1735))] [] (fun fb => by kernel_rfl) rfl trivial ?_
  refine WL.done rfl ?_
  refine WX.next ?_
  refine WC.ret ?_
  injection hf with hf
  subst hf
  exact WX.ret_ [] (.bool x1735) [] (fun fb => by kernel_rfl) trivial ⟨_, rfl, rfl, hS1746.keep⟩
theorem law01_awake_calls (k : Nat)  (mG : Int) (r : Bool) (w : World) (hR0 : RO NoS w (cel ⟨2, 0, none⟩ (.int .i64 mG))) (hf : law01_awake k = some r) :
    CallsR Tryd.prog 8 #[] w (fun v w' => v = (.bool r) ∧ Keeps NoS w w') := by
  have hS : St NoS w w [cel ⟨2, 0, none⟩ (.int .i64 mG)] [] := St.init (ro_cons hR0 (ro_nil _ _))
  refine enter 55 Tryd.func8 rfl Tryd.ntmps8 rfl ?_
  unfold law01_awake at hf
  refine WC.seq ?_
  refine WC.region ?_
  refine seg 1 [] [] [] [] (fun fb => by kernel_rfl) rfl trivial ?_
  refine WL.done rfl ?_
  refine WX.next ?_
  refine WC.seq ?_
  refine WC.region ?_
  obtain ⟨t1217, ht1218, hf⟩ := bind_some hf
  refine WL.call (some 9) 9 #[(.string (⟨#[48, 46, 49, 46, 48, 46, 49]⟩ : ByteArray))] (fun fb => by kernel_rfl) (tile_Parse_calls _ (⟨#[48, 46, 49, 46, 48, 46, 49]⟩ : ByteArray) mG t1217 _ (hS.rd 0) ht1218) (fun v w1219 hR1220 => ?_)
  obtain ⟨A1222, c1223, rfl, hk_⟩ := hR1220
  have hS1221 : St NoS w w1219 [cel ⟨2, 0, none⟩ (.int .i64 mG)] [rowO 62 enc_Tile A1222 c1223 t1217.1] := hS.call hk_ [] [] (fun g hg => hg.elim) (by simp) (by decide)
  refine ⟨trivial, ?_⟩
  refine seg 6 [] [1, 2] [(1, (.slice A1222 t1217.1.length c1223)), (2, (.int .i64 t1217.2))] [] (fun fb => by kernel_rfl) rfl trivial ?_
  refine WL.done rfl ?_
  refine WX.next ?_
  refine WC.seq ?_
  refine WC.region ?_
  obtain ⟨t1224, ht1225, hf⟩ := bind_some hf
  refine WL.call (some 13) 9 #[(.string (⟨#[48, 46, 49, 46, 49, 46, 48, 32, 49, 46, 48, 46, 48, 46, 49]⟩ : ByteArray))] (fun fb => by kernel_rfl) (tile_Parse_calls _ (⟨#[48, 46, 49, 46, 49, 46, 48, 32, 49, 46, 48, 46, 48, 46, 49]⟩ : ByteArray) mG t1224 _ (hS1221.rd 0) ht1225) (fun v w1226 hR1227 => ?_)
  obtain ⟨A1229, c1230, rfl, hk_⟩ := hR1227
  have hS1228 : St NoS w w1226 [cel ⟨2, 0, none⟩ (.int .i64 mG)] [rowO 62 enc_Tile A1229 c1230 t1224.1, rowO 62 enc_Tile A1222 c1223 t1217.1] := hS1221.call hk_ [] [0] (fun g hg => hg.elim) (by simp) (by decide)
  refine ⟨trivial, ?_⟩
  refine seg 6 [] [1, 2, 3, 4] [(1, (.slice A1222 t1217.1.length c1223)), (2, (.int .i64 t1217.2)), (3, (.slice A1229 t1224.1.length c1230)), (4, (.int .i64 t1224.2))] [] (fun fb => by kernel_rfl) rfl trivial ?_
  refine WL.done rfl ?_
  refine WX.next ?_
  refine WC.seq ?_
  refine WC.region ?_
  refine WL.new hS1228 16 [] (fun g => (.slice (some ⟨g, 0, none⟩) 4 4)) (.cells #[(.int .i64 0), (.int .i64 1), (.int .i64 1), (.int .i64 0)] 3 (0, 0)) [] (fun fb g => by kernel_rfl) trivial (fun g1231 w1232 hS1233 => ?_)
  refine ⟨trivial, ?_⟩
  have hS1235 : St NoS w w1232 [cel ⟨2, 0, none⟩ (.int .i64 mG)] [rowO 3 encInt (some ⟨g1231, 0, none⟩) 4 [0, 1, 1, 0], rowO 62 enc_Tile A1229 c1230 t1224.1, rowO 62 enc_Tile A1222 c1223 t1217.1] := hS1233.map1 0 _ (fun h => rowO.ofBlk h rfl (Nat.le_of_ble_eq_true (by kernel_rfl))) (fun _ h => by obtain ⟨_, h1, h2⟩ := h; injection h1 with h1; subst h1; exact h2) [1, 2] (by decide) (by decide)
  refine seg 2 [] [1, 2, 3, 4, 17] [(1, (.slice A1222 t1217.1.length c1223)), (2, (.int .i64 t1217.2)), (3, (.slice A1229 t1224.1.length c1230)), (4, (.int .i64 t1224.2)), (17, (.agg #[(.int .i64 2), (.int .i64 2), (.slice (some ⟨g1231, 0, none⟩) [0, 1, 1, 0].length 4)]))] [] (fun fb => by kernel_rfl) rfl trivial ?_
  refine WL.new hS1235 5 [] (fun g => (.pointer (some ⟨g, 0, none⟩))) (.cells #[(.int .i64 0), (.int .i64 0), (.slice none 0 0)] 35 (0, 0)) [] (fun fb g => by kernel_rfl) trivial (fun g1236 w1237 hS1238 => ?_)
  refine ⟨trivial, ?_⟩
  refine WL.store hS1238 0 rfl [(0, (.int .i64 2)), (1, (.int .i64 2)), (2, (.slice (some ⟨g1231, 0, none⟩) [0, 1, 1, 0].length 4))] #[(.int .i64 2), (.int .i64 2), (.slice (some ⟨g1231, 0, none⟩) [0, 1, 1, 0].length 4)] (fun fb => by kernel_rfl) (by kernel_rfl) rfl [1, 2, 3] (by decide) (by decide) (fun w1240 hS1241 => ?_)
  refine ⟨trivial, ?_⟩
  refine WL.done rfl ?_
  refine WX.next ?_
  refine WC.seq ?_
  refine WC.region ?_
  refine seg 1 [] [1, 2, 3, 4, 5, 19] [(1, (.slice A1222 t1217.1.length c1223)), (2, (.int .i64 t1217.2)), (3, (.slice A1229 t1224.1.length c1230)), (4, (.int .i64 t1224.2)), (5, (.pointer (some ⟨g1236, 0, none⟩))), (19, (.slice A1229 t1224.1.length c1230))] [] (fun fb => by kernel_rfl) rfl trivial ?_
  obtain ⟨t1253, ht1254, hf⟩ := bind_some hf
  refine WL.call (some 20) 11 #[(.slice A1229 t1224.1.length c1230)] (fun fb => by kernel_rfl) (tile_Text_calls _ t1224.1 A1229 c1230 t1253 _ (hS1241.ow 2).ofO ht1254) (fun v w1255 hR1256 => ?_)
  obtain ⟨rfl, hk_⟩ := hR1256
  have hS1257 := hS1241.keepN hk_
  refine ⟨trivial, ?_⟩
  refine seg 7 [] [1, 2, 3, 4, 5, 6, 7] [(1, (.slice A1222 t1217.1.length c1223)), (2, (.int .i64 t1217.2)), (3, (.slice A1229 t1224.1.length c1230)), (4, (.int .i64 t1224.2)), (5, (.pointer (some ⟨g1236, 0, none⟩))), (6, (.string t1253.1)), (7, (.int .i64 t1253.2))] [] (fun fb => by kernel_rfl) rfl trivial ?_
  refine WL.done rfl ?_
  refine WX.next ?_
  refine WC.seq ?_
  refine WC.region ?_
  refine seg 3 [] [1, 3, 4, 5, 6, 7, 25] [(1, (.slice A1222 t1217.1.length c1223)), (3, (.slice A1229 t1224.1.length c1230)), (4, (.int .i64 t1224.2)), (5, (.pointer (some ⟨g1236, 0, none⟩))), (6, (.string t1253.1)), (7, (.int .i64 t1253.2)), (25, (.bool (t1217.2 == 0)))] [] (fun fb => by kernel_rfl) rfl trivial ?_
  refine WL.cutV (T := Bool) 6 (fun t => [(28, (.bool t)), (1, (.slice A1222 t1217.1.length c1223)), (3, (.slice A1229 t1224.1.length c1230)), (5, (.pointer (some ⟨g1236, 0, none⟩))), (6, (.string t1253.1)), (7, (.int .i64 t1253.2))]) (fun t => t = ((t1217.2 == 0) && (t1224.2 == 0))) (fun K => ?_) ?_
  ·
    rcases Bool.eq_false_or_eq_true (t1217.2 == 0) with h1258 | h1258
    ·
      refine WL.setB 25 h1258 rfl ?_
      refine seg 6 [] [1, 3, 5, 6, 7, 28] [(1, (.slice A1222 t1217.1.length c1223)), (3, (.slice A1229 t1224.1.length c1230)), (5, (.pointer (some ⟨g1236, 0, none⟩))), (6, (.string t1253.1)), (7, (.int .i64 t1253.2)), (28, (.bool (t1224.2 == 0)))] [] (fun fb => by kernel_rfl) rfl trivial ?_
      exact WL.toV K (t1224.2 == 0) [28, 1, 3, 5, 6, 7] rfl (by first | (rw [h1258]; done) | (rw [h1258]; rfl))
    refine WL.setB 25 h1258 rfl ?_
    refine seg 6 [] [1, 3, 5, 6, 7, 28] [(1, (.slice A1222 t1217.1.length c1223)), (3, (.slice A1229 t1224.1.length c1230)), (5, (.pointer (some ⟨g1236, 0, none⟩))), (6, (.string t1253.1)), (7, (.int .i64 t1253.2)), (28, (.bool false))] [] (fun fb => by kernel_rfl) rfl trivial ?_
    exact WL.toV K false [28, 1, 3, 5, 6, 7] rfl (by first | (rw [h1258]; done) | (rw [h1258]; rfl))
  rintro b1259 rfl
  refine seg 7 [] [1, 3, 5, 6, 7, 29] [(1, (.slice A1222 t1217.1.length c1223)), (3, (.slice A1229 t1224.1.length c1230)), (5, (.pointer (some ⟨g1236, 0, none⟩))), (6, (.string t1253.1)), (7, (.int .i64 t1253.2)), (29, (.bool ((t1217.2 == 0) && (t1224.2 == 0))))] [] (fun fb => by kernel_rfl) rfl trivial ?_
  refine WL.cutV (T := Bool) 10 (fun t => [(32, (.bool t)), (1, (.slice A1222 t1217.1.length c1223)), (3, (.slice A1229 t1224.1.length c1230)), (5, (.pointer (some ⟨g1236, 0, none⟩))), (6, (.string t1253.1))]) (fun t => t = (((t1217.2 == 0) && (t1224.2 == 0)) && (t1253.2 == 0))) (fun K => ?_) ?_
  ·
    rcases Bool.eq_false_or_eq_true ((t1217.2 == 0) && (t1224.2 == 0)) with h1260 | h1260
    ·
      refine WL.setB 29 h1260 rfl ?_
      refine seg 10 [] [1, 3, 5, 6, 32] [(1, (.slice A1222 t1217.1.length c1223)), (3, (.slice A1229 t1224.1.length c1230)), (5, (.pointer (some ⟨g1236, 0, none⟩))), (6, (.string t1253.1)), (32, (.bool (t1253.2 == 0)))] [] (fun fb => by kernel_rfl) rfl trivial ?_
      exact WL.toV K (t1253.2 == 0) [32, 1, 3, 5, 6] rfl (by first | (rw [h1260]; done) | (rw [h1260]; rfl))
    refine WL.setB 29 h1260 rfl ?_
    refine seg 10 [] [1, 3, 5, 6, 32] [(1, (.slice A1222 t1217.1.length c1223)), (3, (.slice A1229 t1224.1.length c1230)), (5, (.pointer (some ⟨g1236, 0, none⟩))), (6, (.string t1253.1)), (32, (.bool false))] [] (fun fb => by kernel_rfl) rfl trivial ?_
    exact WL.toV K false [32, 1, 3, 5, 6] rfl (by first | (rw [h1260]; done) | (rw [h1260]; rfl))
  rintro b1261 rfl
  refine seg 11 [] [1, 3, 5, 6, 33] [(1, (.slice A1222 t1217.1.length c1223)), (3, (.slice A1229 t1224.1.length c1230)), (5, (.pointer (some ⟨g1236, 0, none⟩))), (6, (.string t1253.1)), (33, (.bool (((t1217.2 == 0) && (t1224.2 == 0)) && (t1253.2 == 0))))] [] (fun fb => by kernel_rfl) rfl trivial ?_
  refine WL.cutV (T := Bool) 14 (fun t => [(36, (.bool t)), (1, (.slice A1222 t1217.1.length c1223)), (3, (.slice A1229 t1224.1.length c1230)), (5, (.pointer (some ⟨g1236, 0, none⟩)))]) (fun t => t = ((((t1217.2 == 0) && (t1224.2 == 0)) && (t1253.2 == 0)) && (strEq t1253.1 (⟨#[48, 46, 49, 46, 49, 46, 48, 32, 49, 46, 48, 46, 48, 46, 49]⟩ : ByteArray)))) (fun K => ?_) ?_
  ·
    rcases Bool.eq_false_or_eq_true (((t1217.2 == 0) && (t1224.2 == 0)) && (t1253.2 == 0)) with h1262 | h1262
    ·
      refine WL.setB 33 h1262 rfl ?_
      refine seg 12 [] [1, 3, 5, 33, 34] [(1, (.slice A1222 t1217.1.length c1223)), (3, (.slice A1229 t1224.1.length c1230)), (5, (.pointer (some ⟨g1236, 0, none⟩))), (33, (.bool true)), (34, (.string t1253.1))] [] (fun fb => by kernel_rfl) rfl trivial ?_
      refine seg 13 [] [1, 3, 5, 33, 35] [(1, (.slice A1222 t1217.1.length c1223)), (3, (.slice A1229 t1224.1.length c1230)), (5, (.pointer (some ⟨g1236, 0, none⟩))), (33, (.bool true)), (35, (.bool (t1253.1.toList == (⟨#[48, 46, 49, 46, 49, 46, 48, 32, 49, 46, 48, 46, 48, 46, 49]⟩ : ByteArray).toList)))] [] (fun fb => by kernel_rfl) rfl trivial ?_
      refine WL.setB 35 (strEq_raw t1253.1 (⟨#[48, 46, 49, 46, 49, 46, 48, 32, 49, 46, 48, 46, 48, 46, 49]⟩ : ByteArray)) rfl ?_
      refine seg 14 [] [1, 3, 5, 36] [(1, (.slice A1222 t1217.1.length c1223)), (3, (.slice A1229 t1224.1.length c1230)), (5, (.pointer (some ⟨g1236, 0, none⟩))), (36, (.bool (strEq t1253.1 (⟨#[48, 46, 49, 46, 49, 46, 48, 32, 49, 46, 48, 46, 48, 46, 49]⟩ : ByteArray))))] [] (fun fb => by kernel_rfl) rfl trivial ?_
      exact WL.toV K (strEq t1253.1 (⟨#[48, 46, 49, 46, 49, 46, 48, 32, 49, 46, 48, 46, 48, 46, 49]⟩ : ByteArray)) [36, 1, 3, 5] rfl (by first | (rw [h1262]; done) | (rw [h1262]; rfl))
    refine WL.setB 33 h1262 rfl ?_
    refine seg 14 [] [1, 3, 5, 36] [(1, (.slice A1222 t1217.1.length c1223)), (3, (.slice A1229 t1224.1.length c1230)), (5, (.pointer (some ⟨g1236, 0, none⟩))), (36, (.bool false))] [] (fun fb => by kernel_rfl) rfl trivial ?_
    exact WL.toV K false [36, 1, 3, 5] rfl (by first | (rw [h1262]; done) | (rw [h1262]; rfl))
  rintro b1263 rfl
  refine seg 15 [] [1, 3, 5, 37] [(1, (.slice A1222 t1217.1.length c1223)), (3, (.slice A1229 t1224.1.length c1230)), (5, (.pointer (some ⟨g1236, 0, none⟩))), (37, (.bool ((((t1217.2 == 0) && (t1224.2 == 0)) && (t1253.2 == 0)) && (strEq t1253.1 (⟨#[48, 46, 49, 46, 49, 46, 48, 32, 49, 46, 48, 46, 48, 46, 49]⟩ : ByteArray)))))] [] (fun fb => by kernel_rfl) rfl trivial ?_
  obtain ⟨x1678, hx1679, hf⟩ := bind_some hf
  refine WL.cutW (T := Bool) 20 (fun t => [(3, (.slice A1229 t1224.1.length c1230)), (5, (.pointer (some ⟨g1236, 0, none⟩))), (42, (.bool t))]) (fun t w1 => (St NoS w w1 [cel ⟨2, 0, none⟩ (.int .i64 mG)] [rowO 62 enc_Tile A1229 c1230 t1224.1, blk g1236 (.cells #[(.int .i64 2), (.int .i64 2), (.slice (some ⟨g1231, 0, none⟩) [0, 1, 1, 0].length 4)] 35 (0, 0)), rowO 3 encInt (some ⟨g1231, 0, none⟩) 4 [0, 1, 1, 0]] ∧ x1678 = t) ∧ CellsOK [] w1) (fun K => ?_) ?_
  ·
    rcases br_some hx1679 with ⟨h1680, hx1679⟩ | ⟨h1680, hx1679⟩
    ·
      refine WL.setB 37 h1680 rfl ?_
      refine seg 16 [] [3, 5, 37, 38] [(3, (.slice A1229 t1224.1.length c1230)), (5, (.pointer (some ⟨g1236, 0, none⟩))), (37, (.bool true)), (38, (.slice A1222 t1217.1.length c1223))] [] (fun fb => by kernel_rfl) rfl trivial ?_
      refine WL.new hS1257 39 [] (fun g => (.slice (some ⟨g, 0, none⟩) 1 1)) (.cells #[(.int .i64 0)] 3 (0, 0)) [] (fun fb g => by kernel_rfl) trivial (fun g1681 w1682 hS1683 => ?_)
      refine ⟨trivial, ?_⟩
      have hS1685 : St NoS w w1682 [cel ⟨2, 0, none⟩ (.int .i64 mG)] [rowO 3 encInt (some ⟨g1681, 0, none⟩) 1 [0], blk g1236 (.cells #[(.int .i64 2), (.int .i64 2), (.slice (some ⟨g1231, 0, none⟩) [0, 1, 1, 0].length 4)] 35 (0, 0)), rowO 3 encInt (some ⟨g1231, 0, none⟩) 4 [0, 1, 1, 0], rowO 62 enc_Tile A1229 c1230 t1224.1, rowO 62 enc_Tile A1222 c1223 t1217.1] := hS1683.map1 0 _ (fun h => rowO.ofBlk h rfl (Nat.le_of_ble_eq_true (by kernel_rfl))) (fun _ h => by obtain ⟨_, h1, h2⟩ := h; injection h1 with h1; subst h1; exact h2) [1, 2, 3, 4] (by decide) (by decide)
      refine seg 18 [] [3, 5, 37, 38, 40] [(3, (.slice A1229 t1224.1.length c1230)), (5, (.pointer (some ⟨g1236, 0, none⟩))), (37, (.bool true)), (38, (.slice A1222 t1217.1.length c1223)), (40, (.agg #[(.int .i64 1), (.int .i64 1), (.slice (some ⟨g1681, 0, none⟩) [0].length 1)]))] [] (fun fb => by kernel_rfl) rfl trivial ?_
      obtain ⟨t1686, ht1687, hx1679⟩ := bind_some hx1679
      refine WL.call (some 41) 16 #[(.slice A1222 t1217.1.length c1223), (.agg #[(.int .i64 1), (.int .i64 1), (.slice (some ⟨g1681, 0, none⟩) [0].length 1)])] (fun fb => by kernel_rfl) (tile_Repeats_calls _ t1217.1 (Pattern.mk 1 1 [0]) A1222 c1223 (some ⟨g1681, 0, none⟩) 1 t1686 _ (hS1685.ow 4).ofO (hS1685.ow 0).ofO ht1687) (fun v w1688 hR1689 => ?_)
      obtain ⟨rfl, hk_⟩ := hR1689
      have hS1690 := hS1685.keepN hk_
      refine ⟨trivial, ?_⟩
      refine seg 20 [] [3, 5, 42] [(3, (.slice A1229 t1224.1.length c1230)), (5, (.pointer (some ⟨g1236, 0, none⟩))), (42, (.bool t1686))] [] (fun fb => by kernel_rfl) rfl trivial ?_
      injection hx1679 with hx1679
      exact WL.to K t1686 [3, 5, 42] rfl ⟨⟨(hS1690.subR [0]).sub [3, 1, 2] (by decide), hx1679.symm⟩, trivial⟩
    refine WL.setB 37 h1680 rfl ?_
    refine seg 20 [] [3, 5, 42] [(3, (.slice A1229 t1224.1.length c1230)), (5, (.pointer (some ⟨g1236, 0, none⟩))), (42, (.bool false))] [] (fun fb => by kernel_rfl) rfl trivial ?_
    injection hx1679 with hx1679
    exact WL.to K false [3, 5, 42] rfl ⟨⟨(hS1257.subR [0]).sub [2, 0, 1] (by decide), hx1679.symm⟩, trivial⟩
  rintro y1691 w1693 ⟨⟨hS1694, hq1692⟩, hF1695⟩
  subst hq1692
  refine seg 21 [] [3, 5, 43] [(3, (.slice A1229 t1224.1.length c1230)), (5, (.pointer (some ⟨g1236, 0, none⟩))), (43, (.bool x1678))] [] (fun fb => by kernel_rfl) rfl trivial ?_
  obtain ⟨x1702, hx1703, hf⟩ := bind_some hf
  refine WL.cutW (T := Bool) 25 (fun t => [(3, (.slice A1229 t1224.1.length c1230)), (47, (.bool t))]) (fun t w1 => (St NoS w w1 [cel ⟨2, 0, none⟩ (.int .i64 mG)] [rowO 62 enc_Tile A1229 c1230 t1224.1] ∧ x1702 = t) ∧ CellsOK [] w1) (fun K => ?_) ?_
  ·
    rcases br_some hx1703 with ⟨h1704, hx1703⟩ | ⟨h1704, hx1703⟩
    ·
      refine WL.setB 43 h1704 rfl ?_
      refine seg 23 [.v (.int .i64 2), .v (.int .i64 2), .v (.slice (some ⟨g1231, 0, none⟩) [0, 1, 1, 0].length 4)] [3, 43, 44, 45] [(3, (.slice A1229 t1224.1.length c1230)), (43, (.bool true)), (44, (.slice A1229 t1224.1.length c1230)), (45, (.agg #[(.int .i64 2), (.int .i64 2), (.slice (some ⟨g1231, 0, none⟩) [0, 1, 1, 0].length 4)]))] [.cell ⟨g1236, 0, none⟩ (.int .i64 2), .cell ⟨g1236, 1, none⟩ (.int .i64 2), .cell ⟨g1236, 2, none⟩ (.slice (some ⟨g1231, 0, none⟩) [0, 1, 1, 0].length 4)] (fun fb => by kernel_rfl) rfl ⟨hS1694.cell 1 rfl 0 rfl, hS1694.cell 1 rfl 1 rfl, hS1694.cell 1 rfl 2 rfl, trivial⟩ ?_
      obtain ⟨t1705, ht1706, hx1703⟩ := bind_some hx1703
      refine WL.call (some 46) 16 #[(.slice A1229 t1224.1.length c1230), (.agg #[(.int .i64 2), (.int .i64 2), (.slice (some ⟨g1231, 0, none⟩) [0, 1, 1, 0].length 4)])] (fun fb => by kernel_rfl) (tile_Repeats_calls _ t1224.1 (Pattern.mk 2 2 [0, 1, 1, 0]) A1229 c1230 (some ⟨g1231, 0, none⟩) 4 t1705 _ (hS1694.ow 0).ofO (hS1694.ow 2).ofO ht1706) (fun v w1707 hR1708 => ?_)
      obtain ⟨rfl, hk_⟩ := hR1708
      have hS1709 := hS1694.keepN hk_
      refine ⟨trivial, ?_⟩
      refine seg 25 [] [3, 47] [(3, (.slice A1229 t1224.1.length c1230)), (47, (.bool t1705))] [] (fun fb => by kernel_rfl) rfl trivial ?_
      injection hx1703 with hx1703
      exact WL.to K t1705 [3, 47] rfl ⟨⟨(hS1709.subR [0]).sub [0] (by decide), hx1703.symm⟩, trivial⟩
    refine WL.setB 43 h1704 rfl ?_
    refine seg 25 [] [3, 47] [(3, (.slice A1229 t1224.1.length c1230)), (47, (.bool false))] [] (fun fb => by kernel_rfl) rfl trivial ?_
    injection hx1703 with hx1703
    exact WL.to K false [3, 47] rfl ⟨⟨(hS1694.subR [0]).sub [0] (by decide), hx1703.symm⟩, trivial⟩
  rintro y1710 w1712 ⟨⟨hS1713, hq1711⟩, hF1714⟩
  subst hq1711
  refine seg 26 [] [3, 48] [(3, (.slice A1229 t1224.1.length c1230)), (48, (.bool x1702))] [] (fun fb => by kernel_rfl) rfl trivial ?_
  obtain ⟨x1754, hx1755, hf⟩ := bind_some hf
  refine WL.cutW (T := Bool) 32 (fun t => [(54, (.bool t))]) (fun t w1 => (St NoS w w1 [cel ⟨2, 0, none⟩ (.int .i64 mG)] [] ∧ x1754 = t) ∧ CellsOK [] w1) (fun K => ?_) ?_
  ·
    rcases br_some hx1755 with ⟨h1756, hx1755⟩ | ⟨h1756, hx1755⟩
    ·
      refine WL.setB 48 h1756 rfl ?_
      refine seg 27 [] [48, 49] [(48, (.bool true)), (49, (.slice A1229 t1224.1.length c1230))] [] (fun fb => by kernel_rfl) rfl trivial ?_
      refine WL.new hS1713 50 [] (fun g => (.slice (some ⟨g, 0, none⟩) 2 2)) (.cells #[(.int .i64 0), (.int .i64 0)] 3 (0, 0)) [] (fun fb g => by kernel_rfl) trivial (fun g1757 w1758 hS1759 => ?_)
      refine ⟨trivial, ?_⟩
      have hS1761 : St NoS w w1758 [cel ⟨2, 0, none⟩ (.int .i64 mG)] [rowO 3 encInt (some ⟨g1757, 0, none⟩) 2 [0, 0], rowO 62 enc_Tile A1229 c1230 t1224.1] := hS1759.map1 0 _ (fun h => rowO.ofBlk h rfl (Nat.le_of_ble_eq_true (by kernel_rfl))) (fun _ h => by obtain ⟨_, h1, h2⟩ := h; injection h1 with h1; subst h1; exact h2) [1] (by decide) (by decide)
      refine seg 29 [] [48, 49, 51] [(48, (.bool true)), (49, (.slice A1229 t1224.1.length c1230)), (51, (.agg #[(.int .i64 2), (.int .i64 1), (.slice (some ⟨g1757, 0, none⟩) [0, 0].length 2)]))] [] (fun fb => by kernel_rfl) rfl trivial ?_
      obtain ⟨t1762, ht1763, hx1755⟩ := bind_some hx1755
      refine WL.call (some 52) 14 #[(.slice A1229 t1224.1.length c1230), (.agg #[(.int .i64 2), (.int .i64 1), (.slice (some ⟨g1757, 0, none⟩) [0, 0].length 2)])] (fun fb => by kernel_rfl) (tile_Fits_calls _ t1224.1 (Pattern.mk 2 1 [0, 0]) A1229 c1230 (some ⟨g1757, 0, none⟩) 2 t1762 _ (hS1761.ow 1).ofO (hS1761.ow 0).ofO ht1763) (fun v w1764 hR1765 => ?_)
      obtain ⟨rfl, hk_⟩ := hR1765
      have hS1766 := hS1761.keepN hk_
      refine ⟨trivial, ?_⟩
      refine seg 32 [] [54] [(54, (.bool (!t1762)))] [] (fun fb => by kernel_rfl) rfl trivial ?_
      injection hx1755 with hx1755
      exact WL.to K (!t1762) [54] rfl ⟨⟨(hS1766.subR [0]).sub [] (by decide), hx1755.symm⟩, trivial⟩
    refine WL.setB 48 h1756 rfl ?_
    refine seg 32 [] [54] [(54, (.bool false))] [] (fun fb => by kernel_rfl) rfl trivial ?_
    injection hx1755 with hx1755
    exact WL.to K false [54] rfl ⟨⟨(hS1713.subR [0]).sub [] (by decide), hx1755.symm⟩, trivial⟩
  rintro y1767 w1769 ⟨⟨hS1770, hq1768⟩, hF1771⟩
  subst hq1768
  refine seg 33 [] [0] [(0, (.bool x1754))] [] (fun fb => by kernel_rfl) rfl trivial ?_
  refine WL.done rfl ?_
  refine WX.next ?_
  refine WC.ret ?_
  injection hf with hf
  subst hf
  exact WX.ret_ [] (.bool x1754) [] (fun fb => by kernel_rfl) trivial ⟨_, rfl, rfl, hS1770.keep⟩
theorem tile_changes_calls   (r : A3_Change) (w : World)  (hf : tile_changes = some r) :
    CallsR Tryd.prog 64 #[] w (fun v w' => v = (.agg #[(.func (.func 79) #[] #[]), (.func (.func 80) #[] #[]), (.func (.func 81) #[] #[]), (.func (.func 82) #[] #[]), (.func (.func 80) #[] #[]), (.func (.func 83) #[] #[]), (.func (.func 84) #[] #[]), (.func (.func 85) #[] #[]), (.func (.func 86) #[] #[])]) ∧ Keeps NoS w w') := by
  have hS : St NoS w w [] [] := St.init (ro_nil _ _)
  refine enter 5 Tryd.func64 rfl Tryd.ntmps64 rfl ?_
  unfold tile_changes at hf
  refine WC.seq ?_
  refine WC.region ?_
  refine WL.new hS 0 [] (fun g => (.pointer (some ⟨g, 0, none⟩))) (.cells #[.nilFunc, .nilFunc, .nilFunc, .nilFunc, .nilFunc, .nilFunc, .nilFunc, .nilFunc, .nilFunc] 84 (0, 0)) [] (fun fb g => by kernel_rfl) trivial (fun g1802 w1803 hS1804 => ?_)
  refine ⟨trivial, ?_⟩
  refine WL.done rfl ?_
  refine WX.next ?_
  refine WC.seq ?_
  refine WC.region ?_
  refine seg 4 [] [0, 4] [(0, (.pointer (some ⟨g1802, 0, none⟩))), (4, (.agg #[(.func (.func 79) #[] #[]), (.func (.func 80) #[] #[]), (.func (.func 81) #[] #[]), (.func (.func 82) #[] #[]), (.func (.func 80) #[] #[]), (.func (.func 83) #[] #[]), (.func (.func 84) #[] #[]), (.func (.func 85) #[] #[]), (.func (.func 86) #[] #[])]))] [] (fun fb => by kernel_rfl) rfl trivial ?_
  refine WL.store hS1804 0 rfl [(0, (.func (.func 79) #[] #[])), (1, (.func (.func 80) #[] #[])), (2, (.func (.func 81) #[] #[])), (3, (.func (.func 82) #[] #[])), (4, (.func (.func 80) #[] #[])), (5, (.func (.func 83) #[] #[])), (6, (.func (.func 84) #[] #[])), (7, (.func (.func 85) #[] #[])), (8, (.func (.func 86) #[] #[]))] #[(.func (.func 79) #[] #[]), (.func (.func 80) #[] #[]), (.func (.func 81) #[] #[]), (.func (.func 82) #[] #[]), (.func (.func 80) #[] #[]), (.func (.func 83) #[] #[]), (.func (.func 84) #[] #[]), (.func (.func 85) #[] #[]), (.func (.func 86) #[] #[])] (fun fb => by kernel_rfl) (by kernel_rfl) rfl [] (by decide) (by decide) (fun w1806 hS1807 => ?_)
  refine ⟨trivial, ?_⟩
  refine WL.done rfl ?_
  refine WX.next ?_
  refine WC.ret ?_
  injection hf with hf
  subst hf
  exact WX.ret_ [.v (.func (.func 79) #[] #[]), .v (.func (.func 80) #[] #[]), .v (.func (.func 81) #[] #[]), .v (.func (.func 82) #[] #[]), .v (.func (.func 80) #[] #[]), .v (.func (.func 83) #[] #[]), .v (.func (.func 84) #[] #[]), .v (.func (.func 85) #[] #[]), .v (.func (.func 86) #[] #[])] (.agg #[(.func (.func 79) #[] #[]), (.func (.func 80) #[] #[]), (.func (.func 81) #[] #[]), (.func (.func 82) #[] #[]), (.func (.func 80) #[] #[]), (.func (.func 83) #[] #[]), (.func (.func 84) #[] #[]), (.func (.func 85) #[] #[]), (.func (.func 86) #[] #[])]) [.cell ⟨g1802, 0, none⟩ (.func (.func 79) #[] #[]), .cell ⟨g1802, 1, none⟩ (.func (.func 80) #[] #[]), .cell ⟨g1802, 2, none⟩ (.func (.func 81) #[] #[]), .cell ⟨g1802, 3, none⟩ (.func (.func 82) #[] #[]), .cell ⟨g1802, 4, none⟩ (.func (.func 80) #[] #[]), .cell ⟨g1802, 5, none⟩ (.func (.func 83) #[] #[]), .cell ⟨g1802, 6, none⟩ (.func (.func 84) #[] #[]), .cell ⟨g1802, 7, none⟩ (.func (.func 85) #[] #[]), .cell ⟨g1802, 8, none⟩ (.func (.func 86) #[] #[])] (fun fb => by kernel_rfl) ⟨hS1807.cell 0 rfl 0 rfl, hS1807.cell 0 rfl 1 rfl, hS1807.cell 0 rfl 2 rfl, hS1807.cell 0 rfl 3 rfl, hS1807.cell 0 rfl 4 rfl, hS1807.cell 0 rfl 5 rfl, hS1807.cell 0 rfl 6 rfl, hS1807.cell 0 rfl 7 rfl, hS1807.cell 0 rfl 8 rfl, trivial⟩ ⟨_, rfl, rfl, hS1807.keep⟩
theorem tile_same_calls (p0 : Int) (p1 : Int)  (r : Int × Int) (w : World)  (hf : tile_same p0 p1 = some r) :
    CallsR Tryd.prog 80 #[(.int .i64 p0), (.int .i64 p1)] w (fun v w' => v = (.tuple #[(.int .i64 r.1), (.int .i64 r.2)]) ∧ Keeps NoS w w') := by
  have hS : St NoS w w [] [] := St.init (ro_nil _ _)
  refine enter 8 Tryd.func80 rfl Tryd.ntmps80 rfl ?_
  unfold tile_same at hf
  refine WC.seq ?_
  refine WC.region ?_
  refine seg 2 [] [0, 1] [(0, (.int .i64 p0)), (1, (.int .i64 p1))] [] (fun fb => by kernel_rfl) rfl trivial ?_
  refine WL.done rfl ?_
  refine WX.next ?_
  refine WC.seq ?_
  refine WC.region ?_
  refine seg 4 [] [4, 5] [(4, (.int .i64 p0)), (5, (.int .i64 p1))] [] (fun fb => by kernel_rfl) rfl trivial ?_
  refine WL.done rfl ?_
  refine WX.next ?_
  refine WC.ret ?_
  injection hf with hf
  subst hf
  exact WX.ret_ [] (.tuple #[(.int .i64 p0), (.int .i64 p1)]) [] (fun fb => by kernel_rfl) trivial ⟨_, rfl, rfl, hS.keep⟩
theorem tile_changes_2_calls (p0 : Pattern) (p1 : Int) (p2 : Int) (A_p0_Cells : Option Addr) (c_p0_Cells : Nat) (r : Int × Int) (w : World) (hR0 : RO NoS w (rowR encInt A_p0_Cells c_p0_Cells p0.Cells)) (hf : tile_changes_2 p0 p1 p2 = some r) :
    CallsR Tryd.prog 81 #[(.agg #[(.int .i64 p0.Width), (.int .i64 p0.Height), (.slice A_p0_Cells p0.Cells.length c_p0_Cells)]), (.int .i64 p1), (.int .i64 p2)] w (fun v w' => v = (.tuple #[(.int .i64 r.1), (.int .i64 r.2)]) ∧ Keeps NoS w w') := by
  have hS : St NoS w w [rowR encInt A_p0_Cells c_p0_Cells p0.Cells] [] := St.init (ro_cons hR0 (ro_nil _ _))
  refine enter 14 Tryd.func81 rfl Tryd.ntmps81 rfl ?_
  unfold tile_changes_2 at hf
  refine WC.seq ?_
  refine WC.region ?_
  refine WL.new hS 3 [] (fun g => (.pointer (some ⟨g, 0, none⟩))) (.cells #[(.int .i64 p0.Width), (.int .i64 p0.Height), (.slice A_p0_Cells p0.Cells.length c_p0_Cells)] 35 (0, 0)) [] (fun fb g => by kernel_rfl) trivial (fun g1834 w1835 hS1836 => ?_)
  refine ⟨trivial, ?_⟩
  refine seg 3 [] [1, 2, 3] [(1, (.int .i64 p1)), (2, (.int .i64 p2)), (3, (.pointer (some ⟨g1834, 0, none⟩)))] [] (fun fb => by kernel_rfl) rfl trivial ?_
  refine WL.done rfl ?_
  refine WX.next ?_
  refine WC.seq ?_
  refine WC.region ?_
  refine seg 8 [.v (.int .i64 p0.Width)] [6, 7] [(6, (.int .i64 (w64 ((w64 (p0.Width - 1)) - p1)))), (7, (.int .i64 p2))] [.cell ⟨g1834, 0, none⟩ (.int .i64 p0.Width)] (fun fb => by kernel_rfl) rfl ⟨hS1836.cell 0 rfl 0 rfl, trivial⟩ ?_
  refine WL.done rfl ?_
  refine WX.next ?_
  refine WC.ret ?_
  injection hf with hf
  subst hf
  exact WX.ret_ [] (.tuple #[(.int .i64 (w64 ((w64 (p0.Width - 1)) - p1))), (.int .i64 p2)]) [] (fun fb => by kernel_rfl) trivial ⟨_, rfl, rfl, hS1836.keep⟩
theorem tile_changedPattern_at0_calls (k : Nat) (p0 : Pattern) (A_p0_Cells : Option Addr) (c_p0_Cells : Nat) (r : Pattern × Int) (w : World) (hR0 : RO NoS w (rowR encInt A_p0_Cells c_p0_Cells p0.Cells)) (hf : tile_changedPattern_at0 k p0 = some r) :
    CallsR Tryd.prog 53 #[(.agg #[(.int .i64 p0.Width), (.int .i64 p0.Height), (.slice A_p0_Cells p0.Cells.length c_p0_Cells)]), (.int .i64 0)] w (fun v w' => ∃ (A1_ : Option Addr), ∃ (c1_ : Nat), v = (.tuple #[(.agg #[(.int .i64 r.1.Width), (.int .i64 r.1.Height), (.slice A1_ r.1.Cells.length c1_)]), (.int .i64 r.2)]) ∧ St NoS w w' [] [rowO 3 encInt A1_ c1_ r.1.Cells]) := by
  have hS : St NoS w w [rowR encInt A_p0_Cells c_p0_Cells p0.Cells] [] := St.init (ro_cons hR0 (ro_nil _ _))
  refine enter 68 Tryd.func53 rfl Tryd.ntmps53 rfl ?_
  unfold tile_changedPattern_at0 at hf
  refine WC.seq ?_
  refine WC.region ?_
  refine WL.new hS 2 [] (fun g => (.pointer (some ⟨g, 0, none⟩))) (.cells #[(.int .i64 p0.Width), (.int .i64 p0.Height), (.slice A_p0_Cells p0.Cells.length c_p0_Cells)] 35 (0, 0)) [] (fun fb g => by kernel_rfl) trivial (fun g1785 w1786 hS1787 => ?_)
  refine ⟨trivial, ?_⟩
  refine WL.new hS1787 4 [] (fun g => (.pointer (some ⟨g, 0, none⟩))) (.cells #[(.int .i64 0), (.int .i64 0), (.slice none 0 0)] 35 (0, 0)) [] (fun fb g => by kernel_rfl) trivial (fun g1789 w1790 hS1791 => ?_)
  refine ⟨trivial, ?_⟩
  refine seg 3 [] [1, 2, 4] [(1, (.int .i64 0)), (2, (.pointer (some ⟨g1785, 0, none⟩))), (4, (.pointer (some ⟨g1789, 0, none⟩)))] [] (fun fb => by kernel_rfl) rfl trivial ?_
  refine WL.done rfl ?_
  refine WX.next ?_
  refine WC.seq ?_
  refine WC.seq ?_
  refine WC.region ?_
  refine seg 1 [.v (.int .i64 p0.Width), .v (.int .i64 p0.Height), .v (.slice A_p0_Cells p0.Cells.length c_p0_Cells)] [1, 2, 4, 12] [(1, (.int .i64 0)), (2, (.pointer (some ⟨g1785, 0, none⟩))), (4, (.pointer (some ⟨g1789, 0, none⟩))), (12, (.agg #[(.int .i64 p0.Width), (.int .i64 p0.Height), (.slice A_p0_Cells p0.Cells.length c_p0_Cells)]))] [.cell ⟨g1785, 0, none⟩ (.int .i64 p0.Width), .cell ⟨g1785, 1, none⟩ (.int .i64 p0.Height), .cell ⟨g1785, 2, none⟩ (.slice A_p0_Cells p0.Cells.length c_p0_Cells)] (fun fb => by kernel_rfl) rfl ⟨hS1791.cell 1 rfl 0 rfl, hS1791.cell 1 rfl 1 rfl, hS1791.cell 1 rfl 2 rfl, trivial⟩ ?_
  obtain ⟨t1793, ht1794, hf⟩ := bind_some hf
  refine WL.call (some 13) 54 #[(.agg #[(.int .i64 p0.Width), (.int .i64 p0.Height), (.slice A_p0_Cells p0.Cells.length c_p0_Cells)])] (fun fb => by kernel_rfl) (tile_Form_calls p0 A_p0_Cells c_p0_Cells t1793 _ (hS1791.rd 0) ht1794) (fun v w1795 hR1796 => ?_)
  obtain ⟨rfl, hk_⟩ := hR1796
  have hS1797 := hS1791.keepN hk_
  refine ⟨trivial, ?_⟩
  refine seg 3 [] [1, 2, 4, 14] [(1, (.int .i64 0)), (2, (.pointer (some ⟨g1785, 0, none⟩))), (4, (.pointer (some ⟨g1789, 0, none⟩))), (14, (.bool (!t1793)))] [] (fun fb => by kernel_rfl) rfl trivial ?_
  refine WL.done rfl ?_
  refine WX.next ?_
  rcases br_some hf with ⟨h1798, hf⟩ | ⟨h1798, hf⟩
  · refine WC.condT2 (fun fb => by kernel_rfl) h1798 ?_
    refine WC.seq ?_
    refine WC.region ?_
    refine seg 1 [] [4, 15] [(4, (.pointer (some ⟨g1789, 0, none⟩))), (15, (.agg #[(.int .i64 0), (.int .i64 0), (.slice none 0 0)]))] [] (fun fb => by kernel_rfl) rfl trivial ?_
    refine WL.store hS1797 0 rfl [(0, (.int .i64 0)), (1, (.int .i64 0)), (2, (.slice none 0 0))] #[(.int .i64 0), (.int .i64 0), (.slice none 0 0)] (fun fb => by kernel_rfl) (by kernel_rfl) rfl [1] (by decide) (by decide) (fun w1799 hS1800 => ?_)
    refine ⟨trivial, ?_⟩
    refine seg 3 [] [4, 5] [(4, (.pointer (some ⟨g1789, 0, none⟩))), (5, (.int .i64 1))] [] (fun fb => by kernel_rfl) rfl trivial ?_
    refine WL.done rfl ?_
    refine WX.next ?_
    refine WC.ret ?_
    have hS1801 := hS1800.nilrow 3 encInt
    injection hf with hf
    subst hf
    exact WX.thenR (WX.ret_ [.v (.int .i64 0), .v (.int .i64 0), .v (.slice none 0 0)] (.tuple #[(.agg #[(.int .i64 0), (.int .i64 0), (.slice none ([] : List Int).length 0)]), (.int .i64 1)]) [.cell ⟨g1789, 0, none⟩ (.int .i64 0), .cell ⟨g1789, 1, none⟩ (.int .i64 0), .cell ⟨g1789, 2, none⟩ (.slice none 0 0)] (fun fb => by kernel_rfl) ⟨hS1800.cell 0 rfl 0 rfl, hS1800.cell 0 rfl 1 rfl, hS1800.cell 0 rfl 2 rfl, trivial⟩ ⟨_, rfl, none, 0, rfl, (hS1801.sub [0] (by decide)).noR⟩)
  refine WC.condF2 (fun fb => by kernel_rfl) h1798 ?_
  refine WC.skip ?_
  refine WX.next ?_
  refine WC.seq ?_
  refine WC.region ?_
  obtain ⟨t1808, ht1809, hf⟩ := bind_some hf
  refine WL.call (some 16) 64 #[] (fun fb => by kernel_rfl) (tile_changes_calls t1808 _ ht1809) (fun v w1810 hR1811 => ?_)
  obtain ⟨rfl, hk_⟩ := hR1811
  have hS1812 := hS1797.keepN hk_
  refine ⟨trivial, ?_⟩
  refine seg 3 [] [2, 4, 18] [(2, (.pointer (some ⟨g1785, 0, none⟩))), (4, (.pointer (some ⟨g1789, 0, none⟩))), (18, (.agg #[(.func (.func 79) #[] #[]), (.func (.func 80) #[] #[]), (.func (.func 81) #[] #[])]))] [] (fun fb => by kernel_rfl) rfl trivial ?_
  refine WL.new hS1812 6 [] (fun g => (.pointer (some ⟨g, 0, none⟩))) (.cells #[.nilFunc, .nilFunc, .nilFunc] 83 (0, 0)) [] (fun fb g => by kernel_rfl) trivial (fun g1813 w1814 hS1815 => ?_)
  refine ⟨trivial, ?_⟩
  refine WL.store hS1815 0 rfl [(0, (.func (.func 79) #[] #[])), (1, (.func (.func 80) #[] #[])), (2, (.func (.func 81) #[] #[]))] #[(.func (.func 79) #[] #[]), (.func (.func 80) #[] #[]), (.func (.func 81) #[] #[])] (fun fb => by kernel_rfl) (by kernel_rfl) rfl [1, 2] (by decide) (by decide) (fun w1817 hS1818 => ?_)
  refine ⟨trivial, ?_⟩
  refine WL.done rfl ?_
  refine WX.next ?_
  refine WC.seq ?_
  refine WC.region ?_
  refine WL.new hS1818 7 [] (fun g => (.pointer (some ⟨g, 0, none⟩))) (.cells #[(.int .i64 0), (.int .i64 0), (.slice none 0 0)] 35 (0, 0)) [] (fun fb g => by kernel_rfl) trivial (fun g1819 w1820 hS1821 => ?_)
  refine ⟨trivial, ?_⟩
  refine WL.done rfl ?_
  refine WX.next ?_
  refine WC.seq ?_
  refine WC.region ?_
  refine seg 6 [.v (.func (.func 80) #[] #[]), .v (.int .i64 p0.Width), .v (.int .i64 p0.Height)] [2, 4, 6, 7, 21, 23, 25] [(2, (.pointer (some ⟨g1785, 0, none⟩))), (4, (.pointer (some ⟨g1789, 0, none⟩))), (6, (.pointer (some ⟨g1813, 0, none⟩))), (7, (.pointer (some ⟨g1819, 0, none⟩))), (21, (.func (.func 80) #[] #[])), (23, (.int .i64 p0.Width)), (25, (.int .i64 p0.Height))] [.cell ⟨g1813, 1, none⟩ (.func (.func 80) #[] #[]), .cell ⟨g1785, 0, none⟩ (.int .i64 p0.Width), .cell ⟨g1785, 1, none⟩ (.int .i64 p0.Height)] (fun fb => by kernel_rfl) rfl ⟨hS1821.cell 1 rfl 1 rfl, hS1821.cell 3 rfl 0 rfl, hS1821.cell 3 rfl 1 rfl, trivial⟩ ?_
  obtain ⟨t1823, ht1824, hf⟩ := bind_some hf
  refine WL.call (some 26) 80 #[(.int .i64 p0.Width), (.int .i64 p0.Height)] (fun fb => by kernel_rfl) (tile_same_calls p0.Width p0.Height t1823 _ ht1824) (fun v w1825 hR1826 => ?_)
  obtain ⟨rfl, hk_⟩ := hR1826
  have hS1827 := hS1821.keepN hk_
  refine ⟨trivial, ?_⟩
  refine seg 11 [] [2, 4, 6, 7, 27, 28, 29] [(2, (.pointer (some ⟨g1785, 0, none⟩))), (4, (.pointer (some ⟨g1789, 0, none⟩))), (6, (.pointer (some ⟨g1813, 0, none⟩))), (7, (.pointer (some ⟨g1819, 0, none⟩))), (27, (.int .i64 t1823.1)), (28, (.int .i64 t1823.2)), (29, (.pointer (some ⟨g1819, 0, none⟩)))] [] (fun fb => by kernel_rfl) rfl trivial ?_
  refine WL.store hS1827 0 rfl [(0, (.int .i64 t1823.1))] #[(.int .i64 t1823.1), (.int .i64 0), (.slice none 0 0)] (fun fb => by kernel_rfl) (by kernel_rfl) rfl [1, 2, 3] (by decide) (by decide) (fun w1828 hS1829 => ?_)
  refine ⟨trivial, ?_⟩
  refine seg 13 [] [2, 4, 6, 7, 28, 30] [(2, (.pointer (some ⟨g1785, 0, none⟩))), (4, (.pointer (some ⟨g1789, 0, none⟩))), (6, (.pointer (some ⟨g1813, 0, none⟩))), (7, (.pointer (some ⟨g1819, 0, none⟩))), (28, (.int .i64 t1823.2)), (30, (.pointer (some ⟨g1819, 1, none⟩)))] [] (fun fb => by kernel_rfl) rfl trivial ?_
  refine WL.store hS1829 0 rfl [(1, (.int .i64 t1823.2))] #[(.int .i64 t1823.1), (.int .i64 t1823.2), (.slice none 0 0)] (fun fb => by kernel_rfl) (by kernel_rfl) rfl [1, 2, 3] (by decide) (by decide) (fun w1830 hS1831 => ?_)
  refine ⟨trivial, ?_⟩
  refine WL.done rfl ?_
  refine WX.next ?_
  refine WC.seq ?_
  refine WC.seq ?_
  refine WC.region ?_
  refine seg 3 [.v (.int .i64 t1823.2)] [2, 4, 6, 7, 32, 33] [(2, (.pointer (some ⟨g1785, 0, none⟩))), (4, (.pointer (some ⟨g1789, 0, none⟩))), (6, (.pointer (some ⟨g1813, 0, none⟩))), (7, (.pointer (some ⟨g1819, 0, none⟩))), (32, (.int .i64 t1823.2)), (33, (.int .i64 0))] [.cell ⟨g1819, 1, none⟩ (.int .i64 t1823.2)] (fun fb => by kernel_rfl) rfl ⟨hS1831.cell 0 rfl 1 rfl, trivial⟩ ?_
  refine WL.done rfl ?_
  refine WX.next ?_
  have hS2099 := hS1831.nilrow 3 encInt
  obtain ⟨x2107, hx2108, hf⟩ := bind_some hf
  refine WC.cutN (T := (List Int) × (Option Addr) × Nat) (fun t => [(4, (.pointer (some ⟨g1789, 0, none⟩))), (7, (.pointer (some ⟨g1819, 0, none⟩)))]) (fun t w1 => St NoS w w1 [rowR encInt A_p0_Cells c_p0_Cells p0.Cells] [blk g1789 (.cells #[(.int .i64 0), (.int .i64 0), (.slice none 0 0)] 35 (0, 0)), blk g1819 (.cells #[(.int .i64 t1823.1), (.int .i64 t1823.2), (.slice t.2.1 t.1.length t.2.2)] 35 (0, 0)), rowO 3 encInt t.2.1 t.2.2 t.1] ∧ x2107 = t.1) (fun Kx2107 => ?_) ?_
  ·
    refine WC.block ?_
    refine WC.loop (T := ((List Int) × Int) × (Option Addr) × Nat) (fun t => [(2, (.pointer (some ⟨g1785, 0, none⟩))), (4, (.pointer (some ⟨g1789, 0, none⟩))), (6, (.pointer (some ⟨g1813, 0, none⟩))), (7, (.pointer (some ⟨g1819, 0, none⟩))), (32, (.int .i64 t1823.2)), (33, (.int .i64 t.1.2))]) (fun n t w1 => St NoS w w1 [rowR encInt A_p0_Cells c_p0_Cells p0.Cells] [blk g1785 (.cells #[(.int .i64 p0.Width), (.int .i64 p0.Height), (.slice A_p0_Cells p0.Cells.length c_p0_Cells)] 35 (0, 0)), blk g1789 (.cells #[(.int .i64 0), (.int .i64 0), (.slice none 0 0)] 35 (0, 0)), blk g1813 (.cells #[(.func (.func 79) #[] #[]), (.func (.func 80) #[] #[]), (.func (.func 81) #[] #[])] 83 (0, 0)), blk g1819 (.cells #[(.int .i64 t1823.1), (.int .i64 t1823.2), (.slice t.2.1 t.1.1.length t.2.2)] 35 (0, 0)), rowO 3 encInt t.2.1 t.2.2 t.1.1] ∧ tile_changedPattern_at0.l0 n t.1.1 t.1.2 p0 t1823 = some x2107) k ((([] : List Int), 0), none, 0) [2, 4, 6, 7, 32, 33] rfl ⟨(hS2099.subR [0]).sub [4, 3, 2, 1, 0] (by decide), hx2108⟩ ?_
    rintro k2109 ⟨⟨l2102, x2103⟩, A2100, c2101⟩ w2110 ⟨hS2111, hl2112⟩
    cases k2109 with
    | zero => rw [tile_changedPattern_at0.l0] at hl2112; cases hl2112
    | succ k2109 =>
      rw [tile_changedPattern_at0.l0] at hl2112
      refine WC.seq ?_
      refine WC.region ?_
      refine seg 1 [] [2, 4, 6, 7, 32, 33, 34] [(2, (.pointer (some ⟨g1785, 0, none⟩))), (4, (.pointer (some ⟨g1789, 0, none⟩))), (6, (.pointer (some ⟨g1813, 0, none⟩))), (7, (.pointer (some ⟨g1819, 0, none⟩))), (32, (.int .i64 t1823.2)), (33, (.int .i64 x2103)), (34, (.bool (decide (x2103 < t1823.2))))] [] (fun fb => by kernel_rfl) rfl trivial ?_
      refine WL.done rfl ?_
      refine WX.next ?_
      refine WC.seq ?_
      rcases br_some hl2112 with ⟨h2113, hl2112⟩ | ⟨h2113, hl2112⟩
      · refine WC.condT2 (fun fb => by kernel_rfl) h2113 ?_
        refine WC.skip ?_
        refine WX.next ?_
        refine WC.seq ?_
        refine WC.block ?_
        refine WC.seq ?_
        refine WC.region ?_
        refine seg 2 [] [2, 4, 6, 7, 8, 32, 33] [(2, (.pointer (some ⟨g1785, 0, none⟩))), (4, (.pointer (some ⟨g1789, 0, none⟩))), (6, (.pointer (some ⟨g1813, 0, none⟩))), (7, (.pointer (some ⟨g1819, 0, none⟩))), (8, (.int .i64 x2103)), (32, (.int .i64 t1823.2)), (33, (.int .i64 x2103))] [] (fun fb => by kernel_rfl) rfl trivial ?_
        refine WL.done rfl ?_
        refine WX.next ?_
        refine WC.seq ?_
        refine WC.region ?_
        refine seg 3 [.v (.int .i64 t1823.1)] [2, 4, 6, 7, 8, 32, 33, 37, 38] [(2, (.pointer (some ⟨g1785, 0, none⟩))), (4, (.pointer (some ⟨g1789, 0, none⟩))), (6, (.pointer (some ⟨g1813, 0, none⟩))), (7, (.pointer (some ⟨g1819, 0, none⟩))), (8, (.int .i64 x2103)), (32, (.int .i64 t1823.2)), (33, (.int .i64 x2103)), (37, (.int .i64 t1823.1)), (38, (.int .i64 0))] [.cell ⟨g1819, 0, none⟩ (.int .i64 t1823.1)] (fun fb => by kernel_rfl) rfl ⟨hS2111.cell 3 rfl 0 rfl, trivial⟩ ?_
        refine WL.done rfl ?_
        refine WX.next ?_
        obtain ⟨x2195, hx2196, hl2112⟩ := bind_some hl2112
        refine WC.cutN (T := (List Int) × (Option Addr) × Nat) (fun t => [(2, (.pointer (some ⟨g1785, 0, none⟩))), (4, (.pointer (some ⟨g1789, 0, none⟩))), (6, (.pointer (some ⟨g1813, 0, none⟩))), (7, (.pointer (some ⟨g1819, 0, none⟩))), (32, (.int .i64 t1823.2)), (33, (.int .i64 x2103))]) (fun t w1 => St NoS w w1 [rowR encInt A_p0_Cells c_p0_Cells p0.Cells] [blk g1785 (.cells #[(.int .i64 p0.Width), (.int .i64 p0.Height), (.slice A_p0_Cells p0.Cells.length c_p0_Cells)] 35 (0, 0)), blk g1789 (.cells #[(.int .i64 0), (.int .i64 0), (.slice none 0 0)] 35 (0, 0)), blk g1813 (.cells #[(.func (.func 79) #[] #[]), (.func (.func 80) #[] #[]), (.func (.func 81) #[] #[])] 83 (0, 0)), blk g1819 (.cells #[(.int .i64 t1823.1), (.int .i64 t1823.2), (.slice t.2.1 t.1.length t.2.2)] 35 (0, 0)), rowO 3 encInt t.2.1 t.2.2 t.1] ∧ x2195 = t.1) (fun Kx2195 => ?_) ?_
        ·
          refine WC.block ?_
          refine WC.loop (T := ((List Int) × Int) × (Option Addr) × Nat) (fun t => [(2, (.pointer (some ⟨g1785, 0, none⟩))), (4, (.pointer (some ⟨g1789, 0, none⟩))), (6, (.pointer (some ⟨g1813, 0, none⟩))), (7, (.pointer (some ⟨g1819, 0, none⟩))), (8, (.int .i64 x2103)), (32, (.int .i64 t1823.2)), (33, (.int .i64 x2103)), (37, (.int .i64 t1823.1)), (38, (.int .i64 t.1.2))]) (fun n t w1 => St NoS w w1 [rowR encInt A_p0_Cells c_p0_Cells p0.Cells] [blk g1785 (.cells #[(.int .i64 p0.Width), (.int .i64 p0.Height), (.slice A_p0_Cells p0.Cells.length c_p0_Cells)] 35 (0, 0)), blk g1789 (.cells #[(.int .i64 0), (.int .i64 0), (.slice none 0 0)] 35 (0, 0)), blk g1813 (.cells #[(.func (.func 79) #[] #[]), (.func (.func 80) #[] #[]), (.func (.func 81) #[] #[])] 83 (0, 0)), blk g1819 (.cells #[(.int .i64 t1823.1), (.int .i64 t1823.2), (.slice t.2.1 t.1.1.length t.2.2)] 35 (0, 0)), rowO 3 encInt t.2.1 t.2.2 t.1.1] ∧ tile_changedPattern_at0.l1 n t.1.1 t.1.2 p0 t1823 x2103 = some x2195) k2109 ((l2102, 0), A2100, c2101) [2, 4, 6, 7, 8, 32, 33, 37, 38] rfl ⟨(hS2111.subR [0]).sub [0, 1, 2, 3, 4] (by decide), hx2196⟩ ?_
          rintro k2197 ⟨⟨l2190, x2191⟩, A2188, c2189⟩ w2198 ⟨hS2199, hl2200⟩
          cases k2197 with
          | zero => rw [tile_changedPattern_at0.l1] at hl2200; cases hl2200
          | succ k2197 =>
            rw [tile_changedPattern_at0.l1] at hl2200
            refine WC.seq ?_
            refine WC.region ?_
            refine seg 1 [] [2, 4, 6, 7, 8, 32, 33, 37, 38, 39] [(2, (.pointer (some ⟨g1785, 0, none⟩))), (4, (.pointer (some ⟨g1789, 0, none⟩))), (6, (.pointer (some ⟨g1813, 0, none⟩))), (7, (.pointer (some ⟨g1819, 0, none⟩))), (8, (.int .i64 x2103)), (32, (.int .i64 t1823.2)), (33, (.int .i64 x2103)), (37, (.int .i64 t1823.1)), (38, (.int .i64 x2191)), (39, (.bool (decide (x2191 < t1823.1))))] [] (fun fb => by kernel_rfl) rfl trivial ?_
            refine WL.done rfl ?_
            refine WX.next ?_
            refine WC.seq ?_
            rcases br_some hl2200 with ⟨h2201, hl2200⟩ | ⟨h2201, hl2200⟩
            · refine WC.condT2 (fun fb => by kernel_rfl) h2201 ?_
              refine WC.skip ?_
              refine WX.next ?_
              refine WC.seq ?_
              refine WC.block ?_
              refine WC.seq ?_
              refine WC.region ?_
              refine seg 2 [] [2, 4, 6, 7, 8, 9, 32, 33, 37, 38] [(2, (.pointer (some ⟨g1785, 0, none⟩))), (4, (.pointer (some ⟨g1789, 0, none⟩))), (6, (.pointer (some ⟨g1813, 0, none⟩))), (7, (.pointer (some ⟨g1819, 0, none⟩))), (8, (.int .i64 x2103)), (9, (.int .i64 x2191)), (32, (.int .i64 t1823.2)), (33, (.int .i64 x2103)), (37, (.int .i64 t1823.1)), (38, (.int .i64 x2191))] [] (fun fb => by kernel_rfl) rfl trivial ?_
              refine WL.done rfl ?_
              refine WX.next ?_
              refine WC.seq ?_
              refine WC.region ?_
              refine seg 5 [.v (.func (.func 81) #[] #[]), .v (.int .i64 p0.Width), .v (.int .i64 p0.Height), .v (.slice A_p0_Cells p0.Cells.length c_p0_Cells)] [2, 4, 6, 7, 8, 32, 33, 37, 38, 43, 44, 45, 46] [(2, (.pointer (some ⟨g1785, 0, none⟩))), (4, (.pointer (some ⟨g1789, 0, none⟩))), (6, (.pointer (some ⟨g1813, 0, none⟩))), (7, (.pointer (some ⟨g1819, 0, none⟩))), (8, (.int .i64 x2103)), (32, (.int .i64 t1823.2)), (33, (.int .i64 x2103)), (37, (.int .i64 t1823.1)), (38, (.int .i64 x2191)), (43, (.func (.func 81) #[] #[])), (44, (.agg #[(.int .i64 p0.Width), (.int .i64 p0.Height), (.slice A_p0_Cells p0.Cells.length c_p0_Cells)])), (45, (.int .i64 x2191)), (46, (.int .i64 x2103))] [.cell ⟨g1813, 2, none⟩ (.func (.func 81) #[] #[]), .cell ⟨g1785, 0, none⟩ (.int .i64 p0.Width), .cell ⟨g1785, 1, none⟩ (.int .i64 p0.Height), .cell ⟨g1785, 2, none⟩ (.slice A_p0_Cells p0.Cells.length c_p0_Cells)] (fun fb => by kernel_rfl) rfl ⟨hS2199.cell 2 rfl 2 rfl, hS2199.cell 0 rfl 0 rfl, hS2199.cell 0 rfl 1 rfl, hS2199.cell 0 rfl 2 rfl, trivial⟩ ?_
              obtain ⟨t2202, ht2203, hl2200⟩ := bind_some hl2200
              refine WL.call (some 47) 81 #[(.agg #[(.int .i64 p0.Width), (.int .i64 p0.Height), (.slice A_p0_Cells p0.Cells.length c_p0_Cells)]), (.int .i64 x2191), (.int .i64 x2103)] (fun fb => by kernel_rfl) (tile_changes_2_calls p0 x2191 x2103 A_p0_Cells c_p0_Cells t2202 _ (hS2199.rd 0) ht2203) (fun v w2204 hR2205 => ?_)
              obtain ⟨rfl, hk_⟩ := hR2205
              have hS2206 := hS2199.keepN hk_
              refine ⟨trivial, ?_⟩
              refine seg 11 [] [2, 4, 6, 7, 8, 10, 11, 32, 33, 37, 38] [(2, (.pointer (some ⟨g1785, 0, none⟩))), (4, (.pointer (some ⟨g1789, 0, none⟩))), (6, (.pointer (some ⟨g1813, 0, none⟩))), (7, (.pointer (some ⟨g1819, 0, none⟩))), (8, (.int .i64 x2103)), (10, (.int .i64 t2202.1)), (11, (.int .i64 t2202.2)), (32, (.int .i64 t1823.2)), (33, (.int .i64 x2103)), (37, (.int .i64 t1823.1)), (38, (.int .i64 x2191))] [] (fun fb => by kernel_rfl) rfl trivial ?_
              refine WL.done rfl ?_
              refine WX.next ?_
              obtain ⟨h2223, hl2200⟩ := as_some hl2200
              refine WC.regionD ([(1, ⟨g1819, 2, none⟩, (.slice A2188 l2190.length c2189)), (3, ⟨g1785, 2, none⟩, (.slice A_p0_Cells p0.Cells.length c_p0_Cells)), (6, ⟨g1785, 0, none⟩, (.int .i64 p0.Width)), (11, ((adr A_p0_Cells).add ((w64 ((w64 (t2202.2 * p0.Width)) + t2202.1)).toNat * 1)), (.int .i64 (rdD p0.Cells (w64 ((w64 (t2202.2 * p0.Width)) + t2202.1)) 0)))], [0, 1, 2, 3, 4, 5, 6, 7, 8, 9, 10, 11, 14], [[], [0], [], [2], [], [], [5], [4, 5, 6], [], [4, 5, 6, 7, 8], [2, 3, 4, 5, 6, 7, 8, 9], [2, 3, 4, 5, 6, 7, 8, 9, 10], [2, 3, 4, 5, 6, 7, 8, 9, 10, 11], [0, 1, 2, 3, 4, 5, 6, 7, 8, 9, 10, 11, 12], [0, 1, 2, 3, 4, 5, 6, 7, 8, 9, 10, 11, 12, 13], [0, 1, 2, 3, 4, 5, 6, 7, 8, 9, 10, 11, 12, 13, 14]]) [[0, 1, 2, 3, 4, 5, 6, 7, 8, 9, 10, 11, 12, 13, 14, 15]] (by kernel_rfl) (by kernel_rfl) (NoPanic.block (NoPanic.seq (NoPanic.seq (NoPanic.block (NoPanic.block (NoPanic.seq (NoPanic.seq (NoPanic.block (NoPanic.seq (NoPanic.body)))))))))) ?_
              have hS2221 := hS2206.drew
              revert hS2221
              generalize World.drew w2204 = w2220
              intro hS2221
              refine ⟨⟨hS2221.cell 3 rfl 2 rfl, hS2221.cell 0 rfl 2 rfl, hS2221.cell 0 rfl 0 rfl, rowR.cell (hS2221.rd 0).1 0 h2223.1 h2223.2 0 rfl, trivial⟩, forallC ?_ (forallN)⟩
              refine segF 12 [.v (.slice A2188 l2190.length c2189), .v (.slice A_p0_Cells p0.Cells.length c_p0_Cells), .v (.int .i64 p0.Width), .v (.int .i64 (rdD p0.Cells (w64 ((w64 (t2202.2 * p0.Width)) + t2202.1)) 0))] [2, 4, 6, 7, 8, 32, 33, 37, 38, 51, 61] [(2, (.pointer (some ⟨g1785, 0, none⟩))), (4, (.pointer (some ⟨g1789, 0, none⟩))), (6, (.pointer (some ⟨g1813, 0, none⟩))), (7, (.pointer (some ⟨g1819, 0, none⟩))), (8, (.int .i64 x2103)), (32, (.int .i64 t1823.2)), (33, (.int .i64 x2103)), (37, (.int .i64 t1823.1)), (38, (.int .i64 x2191)), (51, (.slice A2188 l2190.length c2189)), (61, (.int .i64 (rdD p0.Cells (w64 ((w64 (t2202.2 * p0.Width)) + t2202.1)) 0)))] [.idx A_p0_Cells (w64 ((w64 (t2202.2 * p0.Width)) + t2202.1)) p0.Cells.length] [0, 1, 2, 3] [(1, ⟨g1819, 2, none⟩, (.slice A2188 l2190.length c2189)), (3, ⟨g1785, 2, none⟩, (.slice A_p0_Cells p0.Cells.length c_p0_Cells)), (6, ⟨g1785, 0, none⟩, (.int .i64 p0.Width)), (11, ((adr A_p0_Cells).add ((w64 ((w64 (t2202.2 * p0.Width)) + t2202.1)).toNat * 1)), (.int .i64 (rdD p0.Cells (w64 ((w64 (t2202.2 * p0.Width)) + t2202.1)) 0)))] (fun fb => by kernel_rfl) rfl ⟨rowR.adr (hS2221.rd 0).1 h2223.1 h2223.2, trivial⟩ rfl ?_
              refine WL.new hS2221 62 [] (fun g => (.slice (some ⟨g, 0, none⟩) 1 1)) (.cells #[(.int .i64 (rdD p0.Cells (w64 ((w64 (t2202.2 * p0.Width)) + t2202.1)) 0))] 3 (0, 0)) [] (fun fb g => by kernel_rfl) trivial (fun g2224 w2225 hS2226 => ?_)
              refine ⟨⟨hS2226.cell 4 rfl 2 rfl, trivial⟩, ?_⟩
              have hS2228 : St NoS w w2225 [rowR encInt A_p0_Cells c_p0_Cells p0.Cells] [rowO 3 encInt (some ⟨g2224, 0, none⟩) 1 [(rdD p0.Cells (w64 ((w64 (t2202.2 * p0.Width)) + t2202.1)) 0)], blk g1785 (.cells #[(.int .i64 p0.Width), (.int .i64 p0.Height), (.slice A_p0_Cells p0.Cells.length c_p0_Cells)] 35 (0, 0)), blk g1789 (.cells #[(.int .i64 0), (.int .i64 0), (.slice none 0 0)] 35 (0, 0)), blk g1813 (.cells #[(.func (.func 79) #[] #[]), (.func (.func 80) #[] #[]), (.func (.func 81) #[] #[])] 83 (0, 0)), blk g1819 (.cells #[(.int .i64 t1823.1), (.int .i64 t1823.2), (.slice A2188 l2190.length c2189)] 35 (0, 0)), rowO 3 encInt A2188 c2189 l2190] := hS2226.map1 0 _ (fun h => rowO.ofBlk h rfl (Nat.le_of_ble_eq_true (by kernel_rfl))) (fun _ h => by obtain ⟨_, h1, h2⟩ := h; injection h1 with h1; subst h1; exact h2) [1, 2, 3, 4, 5] (by decide) (by decide)
              obtain ⟨h2229, hl2200⟩ := as_some hl2200
              refine WL.append hS2228 5 (d := 63) (tS := 33) (z := (.int .i64 0)) (bytes := 8) (c2 := 1) rfl (fun fb => by kernel_rfl) (rowO.rd (hS2228.own 0).1) (by kernel_rfl) (by kernel_rfl) rfl (by decide) h2229 (by decide) [0, 1, 2, 3, 4] (by decide) (by decide) (fun A2230 c2231 w2232 hS2233 => ?_)
              refine ⟨trivial, ?_⟩
              refine seg 15 [] [2, 4, 6, 7, 8, 32, 33, 37, 38, 63, 64] [(2, (.pointer (some ⟨g1785, 0, none⟩))), (4, (.pointer (some ⟨g1789, 0, none⟩))), (6, (.pointer (some ⟨g1813, 0, none⟩))), (7, (.pointer (some ⟨g1819, 0, none⟩))), (8, (.int .i64 x2103)), (32, (.int .i64 t1823.2)), (33, (.int .i64 x2103)), (37, (.int .i64 t1823.1)), (38, (.int .i64 x2191)), (63, (.slice A2230 (l2190 ++ [(rdD p0.Cells (w64 ((w64 (t2202.2 * p0.Width)) + t2202.1)) 0)]).length c2231)), (64, (.pointer (some ⟨g1819, 2, none⟩)))] [] (fun fb => by kernel_rfl) rfl trivial ?_
              refine WL.store hS2233 5 rfl [(2, (.slice A2230 (l2190 ++ [(rdD p0.Cells (w64 ((w64 (t2202.2 * p0.Width)) + t2202.1)) 0)]).length c2231))] #[(.int .i64 t1823.1), (.int .i64 t1823.2), (.slice A2230 (l2190 ++ [(rdD p0.Cells (w64 ((w64 (t2202.2 * p0.Width)) + t2202.1)) 0)]).length c2231)] (fun fb => by kernel_rfl) (by kernel_rfl) rfl [0, 1, 2, 3, 4] (by decide) (by decide) (fun w2234 hS2235 => ?_)
              refine ⟨trivial, ?_⟩
              refine WL.done rfl ?_
              refine WX.blockN (WX.next ?_)
              refine WC.region ?_
              refine seg 2 [] [2, 4, 6, 7, 8, 32, 33, 37, 38] [(2, (.pointer (some ⟨g1785, 0, none⟩))), (4, (.pointer (some ⟨g1789, 0, none⟩))), (6, (.pointer (some ⟨g1813, 0, none⟩))), (7, (.pointer (some ⟨g1819, 0, none⟩))), (8, (.int .i64 x2103)), (32, (.int .i64 t1823.2)), (33, (.int .i64 x2103)), (37, (.int .i64 t1823.1)), (38, (.int .i64 (w64 (x2191 + 1))))] [] (fun fb => by kernel_rfl) rfl trivial ?_
              refine WL.done rfl ?_
              exact WX.again k2197 (Nat.lt_succ_self _) ((l2190 ++ [(rdD p0.Cells (w64 ((w64 (t2202.2 * p0.Width)) + t2202.1)) 0)], w64 (x2191 + 1)), A2230, c2231) [2, 4, 6, 7, 8, 32, 33, 37, 38] rfl ⟨(hS2235.subR [0]).sub [3, 4, 5, 0, 1] (by decide), hl2200⟩
            refine WC.condF2 (fun fb => by kernel_rfl) h2201 ?_
            refine WC.exit ?_
            injection hl2200 with hl2200
            exact WX.thenX (WX.thenX (WX.blockHere (WX.to Kx2195 (l2190, A2188, c2189) [2, 4, 6, 7, 32, 33] rfl ⟨(hS2199.subR [0]).sub [0, 1, 2, 3, 4] (by decide), hl2200.symm⟩)))
        rintro ⟨y2239, A2192, c2193⟩ w2236 ⟨hS2237, hq2238⟩
        subst hq2238
        refine WX.blockN (WX.next ?_)
        refine WC.region ?_
        refine seg 2 [] [2, 4, 6, 7, 32, 33] [(2, (.pointer (some ⟨g1785, 0, none⟩))), (4, (.pointer (some ⟨g1789, 0, none⟩))), (6, (.pointer (some ⟨g1813, 0, none⟩))), (7, (.pointer (some ⟨g1819, 0, none⟩))), (32, (.int .i64 t1823.2)), (33, (.int .i64 (w64 (x2103 + 1))))] [] (fun fb => by kernel_rfl) rfl trivial ?_
        refine WL.done rfl ?_
        exact WX.again k2109 (Nat.lt_succ_self _) ((x2195, w64 (x2103 + 1)), A2192, c2193) [2, 4, 6, 7, 32, 33] rfl ⟨(hS2237.subR [0]).sub [0, 1, 2, 3, 4] (by decide), hl2112⟩
      refine WC.condF2 (fun fb => by kernel_rfl) h2113 ?_
      refine WC.exit ?_
      injection hl2112 with hl2112
      exact WX.thenX (WX.thenX (WX.blockHere (WX.to Kx2107 (l2102, A2100, c2101) [4, 7] rfl ⟨(hS2111.subR [0]).sub [1, 3, 4] (by decide), hl2112.symm⟩)))
  rintro ⟨y2243, A2104, c2105⟩ w2240 ⟨hS2241, hq2242⟩
  subst hq2242
  refine WX.next ?_
  refine WC.seq ?_
  refine WC.region ?_
  refine seg 1 [.v (.int .i64 t1823.1), .v (.int .i64 t1823.2), .v (.slice A2104 x2107.length c2105)] [4, 67] [(4, (.pointer (some ⟨g1789, 0, none⟩))), (67, (.agg #[(.int .i64 t1823.1), (.int .i64 t1823.2), (.slice A2104 x2107.length c2105)]))] [.cell ⟨g1819, 0, none⟩ (.int .i64 t1823.1), .cell ⟨g1819, 1, none⟩ (.int .i64 t1823.2), .cell ⟨g1819, 2, none⟩ (.slice A2104 x2107.length c2105)] (fun fb => by kernel_rfl) rfl ⟨hS2241.cell 1 rfl 0 rfl, hS2241.cell 1 rfl 1 rfl, hS2241.cell 1 rfl 2 rfl, trivial⟩ ?_
  refine WL.store hS2241 0 rfl [(0, (.int .i64 t1823.1)), (1, (.int .i64 t1823.2)), (2, (.slice A2104 x2107.length c2105))] #[(.int .i64 t1823.1), (.int .i64 t1823.2), (.slice A2104 x2107.length c2105)] (fun fb => by kernel_rfl) (by kernel_rfl) rfl [1, 2] (by decide) (by decide) (fun w2244 hS2245 => ?_)
  refine ⟨trivial, ?_⟩
  refine seg 3 [] [4, 5] [(4, (.pointer (some ⟨g1789, 0, none⟩))), (5, (.int .i64 0))] [] (fun fb => by kernel_rfl) rfl trivial ?_
  refine WL.done rfl ?_
  refine WX.next ?_
  refine WC.ret ?_
  injection hf with hf
  subst hf
  exact WX.ret_ [.v (.int .i64 t1823.1), .v (.int .i64 t1823.2), .v (.slice A2104 x2107.length c2105)] (.tuple #[(.agg #[(.int .i64 t1823.1), (.int .i64 t1823.2), (.slice A2104 x2107.length c2105)]), (.int .i64 0)]) [.cell ⟨g1789, 0, none⟩ (.int .i64 t1823.1), .cell ⟨g1789, 1, none⟩ (.int .i64 t1823.2), .cell ⟨g1789, 2, none⟩ (.slice A2104 x2107.length c2105)] (fun fb => by kernel_rfl) ⟨hS2245.cell 0 rfl 0 rfl, hS2245.cell 0 rfl 1 rfl, hS2245.cell 0 rfl 2 rfl, trivial⟩ ⟨_, rfl, A2104, c2105, rfl, (hS2245.sub [2] (by decide)).noR⟩
theorem tile_MirrorPattern_calls (k : Nat) (p0 : Pattern) (A_p0_Cells : Option Addr) (c_p0_Cells : Nat) (r : Pattern × Int) (w : World) (hR0 : RO NoS w (rowR encInt A_p0_Cells c_p0_Cells p0.Cells)) (hf : tile_MirrorPattern k p0 = some r) :
    CallsR Tryd.prog 28 #[(.agg #[(.int .i64 p0.Width), (.int .i64 p0.Height), (.slice A_p0_Cells p0.Cells.length c_p0_Cells)])] w (fun v w' => ∃ (A1_ : Option Addr), ∃ (c1_ : Nat), v = (.tuple #[(.agg #[(.int .i64 r.1.Width), (.int .i64 r.1.Height), (.slice A1_ r.1.Cells.length c1_)]), (.int .i64 r.2)]) ∧ St NoS w w' [] [rowO 3 encInt A1_ c1_ r.1.Cells]) := by
  have hS : St NoS w w [rowR encInt A_p0_Cells c_p0_Cells p0.Cells] [] := St.init (ro_cons hR0 (ro_nil _ _))
  refine enter 8 Tryd.func28 rfl Tryd.ntmps28 rfl ?_
  unfold tile_MirrorPattern at hf
  refine WC.seq ?_
  refine WC.region ?_
  refine WL.new hS 1 [] (fun g => (.pointer (some ⟨g, 0, none⟩))) (.cells #[(.int .i64 p0.Width), (.int .i64 p0.Height), (.slice A_p0_Cells p0.Cells.length c_p0_Cells)] 35 (0, 0)) [] (fun fb g => by kernel_rfl) trivial (fun g1777 w1778 hS1779 => ?_)
  refine ⟨trivial, ?_⟩
  refine WL.new hS1779 2 [] (fun g => (.pointer (some ⟨g, 0, none⟩))) (.cells #[(.int .i64 0), (.int .i64 0), (.slice none 0 0)] 35 (0, 0)) [] (fun fb g => by kernel_rfl) trivial (fun g1781 w1782 hS1783 => ?_)
  refine ⟨trivial, ?_⟩
  refine seg 3 [] [1, 2] [(1, (.pointer (some ⟨g1777, 0, none⟩))), (2, (.pointer (some ⟨g1781, 0, none⟩)))] [] (fun fb => by kernel_rfl) rfl trivial ?_
  refine WL.done rfl ?_
  refine WX.next ?_
  refine WC.seq ?_
  refine WC.region ?_
  refine seg 1 [.v (.int .i64 p0.Width), .v (.int .i64 p0.Height), .v (.slice A_p0_Cells p0.Cells.length c_p0_Cells)] [2, 4] [(2, (.pointer (some ⟨g1781, 0, none⟩))), (4, (.agg #[(.int .i64 p0.Width), (.int .i64 p0.Height), (.slice A_p0_Cells p0.Cells.length c_p0_Cells)]))] [.cell ⟨g1777, 0, none⟩ (.int .i64 p0.Width), .cell ⟨g1777, 1, none⟩ (.int .i64 p0.Height), .cell ⟨g1777, 2, none⟩ (.slice A_p0_Cells p0.Cells.length c_p0_Cells)] (fun fb => by kernel_rfl) rfl ⟨hS1783.cell 1 rfl 0 rfl, hS1783.cell 1 rfl 1 rfl, hS1783.cell 1 rfl 2 rfl, trivial⟩ ?_
  obtain ⟨t2246, ht2247, hf⟩ := bind_some hf
  refine WL.call (some 5) 53 #[(.agg #[(.int .i64 p0.Width), (.int .i64 p0.Height), (.slice A_p0_Cells p0.Cells.length c_p0_Cells)]), (.int .i64 0)] (fun fb => by kernel_rfl) (tile_changedPattern_at0_calls _ p0 A_p0_Cells c_p0_Cells t2246 _ (hS1783.rd 0) ht2247) (fun v w2248 hR2249 => ?_)
  obtain ⟨A2251, c2252, rfl, hk_⟩ := hR2249
  have hS2250 : St NoS w w2248 [rowR encInt A_p0_Cells c_p0_Cells p0.Cells] [rowO 3 encInt A2251 c2252 t2246.1.Cells, blk g1781 (.cells #[(.int .i64 0), (.int .i64 0), (.slice none 0 0)] 35 (0, 0)), blk g1777 (.cells #[(.int .i64 p0.Width), (.int .i64 p0.Height), (.slice A_p0_Cells p0.Cells.length c_p0_Cells)] 35 (0, 0))] := hS1783.call hk_ [] [0, 1] (fun g hg => hg.elim) (by simp) (by decide)
  refine ⟨trivial, ?_⟩
  refine seg 4 [] [2, 6, 7] [(2, (.pointer (some ⟨g1781, 0, none⟩))), (6, (.agg #[(.int .i64 t2246.1.Width), (.int .i64 t2246.1.Height), (.slice A2251 t2246.1.Cells.length c2252)])), (7, (.int .i64 t2246.2))] [] (fun fb => by kernel_rfl) rfl trivial ?_
  refine WL.store hS2250 1 rfl [(0, (.int .i64 t2246.1.Width)), (1, (.int .i64 t2246.1.Height)), (2, (.slice A2251 t2246.1.Cells.length c2252))] #[(.int .i64 t2246.1.Width), (.int .i64 t2246.1.Height), (.slice A2251 t2246.1.Cells.length c2252)] (fun fb => by kernel_rfl) (by kernel_rfl) rfl [0, 2] (by decide) (by decide) (fun w2253 hS2254 => ?_)
  refine ⟨trivial, ?_⟩
  refine seg 6 [] [2, 3] [(2, (.pointer (some ⟨g1781, 0, none⟩))), (3, (.int .i64 t2246.2))] [] (fun fb => by kernel_rfl) rfl trivial ?_
  refine WL.done rfl ?_
  refine WX.next ?_
  refine WC.ret ?_
  injection hf with hf
  subst hf
  exact WX.ret_ [.v (.int .i64 t2246.1.Width), .v (.int .i64 t2246.1.Height), .v (.slice A2251 t2246.1.Cells.length c2252)] (.tuple #[(.agg #[(.int .i64 t2246.1.Width), (.int .i64 t2246.1.Height), (.slice A2251 t2246.1.Cells.length c2252)]), (.int .i64 t2246.2)]) [.cell ⟨g1781, 0, none⟩ (.int .i64 t2246.1.Width), .cell ⟨g1781, 1, none⟩ (.int .i64 t2246.1.Height), .cell ⟨g1781, 2, none⟩ (.slice A2251 t2246.1.Cells.length c2252)] (fun fb => by kernel_rfl) ⟨hS2254.cell 0 rfl 0 rfl, hS2254.cell 0 rfl 1 rfl, hS2254.cell 0 rfl 2 rfl, trivial⟩ ⟨_, rfl, A2251, c2252, rfl, (hS2254.sub [1] (by decide)).noR⟩
theorem tile_changes_4_calls (p0 : Pattern) (p1 : Int) (p2 : Int) (A_p0_Cells : Option Addr) (c_p0_Cells : Nat) (r : Int × Int) (w : World) (hR0 : RO NoS w (rowR encInt A_p0_Cells c_p0_Cells p0.Cells)) (hf : tile_changes_4 p0 p1 p2 = some r) :
    CallsR Tryd.prog 83 #[(.agg #[(.int .i64 p0.Width), (.int .i64 p0.Height), (.slice A_p0_Cells p0.Cells.length c_p0_Cells)]), (.int .i64 p1), (.int .i64 p2)] w (fun v w' => v = (.tuple #[(.int .i64 r.1), (.int .i64 r.2)]) ∧ Keeps NoS w w') := by
  have hS : St NoS w w [rowR encInt A_p0_Cells c_p0_Cells p0.Cells] [] := St.init (ro_cons hR0 (ro_nil _ _))
  refine enter 14 Tryd.func83 rfl Tryd.ntmps83 rfl ?_
  unfold tile_changes_4 at hf
  refine WC.seq ?_
  refine WC.region ?_
  refine WL.new hS 3 [] (fun g => (.pointer (some ⟨g, 0, none⟩))) (.cells #[(.int .i64 p0.Width), (.int .i64 p0.Height), (.slice A_p0_Cells p0.Cells.length c_p0_Cells)] 35 (0, 0)) [] (fun fb g => by kernel_rfl) trivial (fun g2319 w2320 hS2321 => ?_)
  refine ⟨trivial, ?_⟩
  refine seg 3 [] [1, 2, 3] [(1, (.int .i64 p1)), (2, (.int .i64 p2)), (3, (.pointer (some ⟨g2319, 0, none⟩)))] [] (fun fb => by kernel_rfl) rfl trivial ?_
  refine WL.done rfl ?_
  refine WX.next ?_
  refine WC.seq ?_
  refine WC.regionD ([(2, ⟨g2319, 1, none⟩, (.int .i64 p0.Height))], [0, 1, 2, 3, 4, 5, 6, 7], [[], [], [1], [1, 2], [], [1, 2, 3, 4], [0], [0, 1, 2, 3, 4, 5, 6]]) [[0, 1, 2, 3, 4, 5, 6, 7]] (by kernel_rfl) (by kernel_rfl) (NoPanic.seq (NoPanic.body)) ?_
  have hS2324 := hS2321.drew
  revert hS2324
  generalize World.drew w2320 = w2323
  intro hS2324
  refine ⟨⟨hS2324.cell 0 rfl 1 rfl, trivial⟩, forallC ?_ (forallN)⟩
  refine segF 8 [.v (.int .i64 p0.Height)] [6, 7] [(6, (.int .i64 p1)), (7, (.int .i64 (w64 ((w64 (p0.Height - 1)) - p2))))] [] [0] [(2, ⟨g2319, 1, none⟩, (.int .i64 p0.Height))] (fun fb => by kernel_rfl) rfl trivial rfl ?_
  refine WL.done rfl ?_
  refine WX.next ?_
  refine WC.ret ?_
  injection hf with hf
  subst hf
  exact WX.ret_ [] (.tuple #[(.int .i64 p1), (.int .i64 (w64 ((w64 (p0.Height - 1)) - p2)))]) [] (fun fb => by kernel_rfl) trivial ⟨_, rfl, rfl, hS2324.keep⟩
end Gp
