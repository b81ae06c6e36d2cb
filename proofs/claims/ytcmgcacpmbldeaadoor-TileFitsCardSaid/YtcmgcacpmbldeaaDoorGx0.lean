/- Walks: each function of the program computes its plain function. -/
import Derived.Test.YtcmgcacpmbldeaaDoorGp
set_option linter.unusedVariables false
set_option linter.unusedSimpArgs false
namespace Gp
open Go Gw Go.Proofs
theorem law01_wide_calls (p0 : List Tile) (A_p0 : Option Addr) (c_p0 : Nat) (r : Bool) (w : World) (hR0 : RO NoS w (rowR enc_Tile A_p0 c_p0 p0)) (hf : law01_wide p0 = some r) :
    CallsR Tryd.prog 13 #[(.slice A_p0 p0.length c_p0)] w (fun v w' => v = (.bool r) ∧ Keeps NoS w w') := by
  have hS : St NoS w w [rowR enc_Tile A_p0 c_p0 p0] [] := St.init (ro_cons hR0 (ro_nil _ _))
  refine enter 6 Tryd.func13 rfl Tryd.ntmps13 rfl ?_
  unfold law01_wide at hf
  refine WC.seq ?_
  refine WC.region ?_
  refine seg 1 [] [0] [(0, (.slice A_p0 p0.length c_p0))] [] (fun fb => by kernel_rfl) rfl trivial ?_
  refine WL.done rfl ?_
  refine WX.next ?_
  refine WC.seq ?_
  refine WC.region ?_
  refine seg 4 [] [2] [(2, (.bool (decide ((p0.length : Int) > 1100))))] [] (fun fb => by kernel_rfl) rfl trivial ?_
  refine WL.done rfl ?_
  refine WX.next ?_
  refine WC.ret ?_
  injection hf with hf
  subst hf
  exact WX.ret_ [] (.bool (decide ((p0.length : Int) > 1100))) [] (fun fb => by kernel_rfl) trivial ⟨_, rfl, rfl, hS.keep⟩
theorem tile_colour_1_calls (p0 : Int)  (r : Bool) (w : World)  (hf : tile_colour_1 p0 = some r) :
    CallsR Tryd.prog 65 #[(.int .i64 p0)] w (fun v w' => v = (.bool r) ∧ Keeps NoS w w') := by
  have hS : St NoS w w [] [] := St.init (ro_nil _ _)
  refine enter 9 Tryd.func65 rfl Tryd.ntmps65 rfl ?_
  unfold tile_colour_1 at hf
  refine WC.seq ?_
  refine WC.region ?_
  refine seg 1 [] [0] [(0, (.int .i64 p0))] [] (fun fb => by kernel_rfl) rfl trivial ?_
  refine WL.done rfl ?_
  refine WX.next ?_
  refine WC.seq ?_
  refine WC.region ?_
  refine seg 3 [] [0, 5] [(0, (.int .i64 p0)), (5, (.bool (decide (p0 < 0))))] [] (fun fb => by kernel_rfl) rfl trivial ?_
  refine WL.cutV (T := Bool) 6 (fun t => [(8, (.bool t))]) (fun t => t = ((decide (p0 < 0)) || (decide (p0 ≥ 1000)))) (fun K => ?_) ?_
  ·
    rcases Bool.eq_false_or_eq_true (decide (p0 < 0)) with h421 | h421
    ·
      refine WL.setB 5 h421 rfl ?_
      refine seg 6 [] [8] [(8, (.bool true))] [] (fun fb => by kernel_rfl) rfl trivial ?_
      exact WL.toV K true [8] rfl (by first | (rw [h421]; done) | (rw [h421]; rfl))
    refine WL.setB 5 h421 rfl ?_
    refine seg 6 [] [8] [(8, (.bool (decide (p0 ≥ 1000))))] [] (fun fb => by kernel_rfl) rfl trivial ?_
    exact WL.toV K (decide (p0 ≥ 1000)) [8] rfl (by first | (rw [h421]; done) | (rw [h421]; rfl))
  rintro b422 rfl
  refine seg 7 [] [2] [(2, (.bool ((decide (p0 < 0)) || (decide (p0 ≥ 1000)))))] [] (fun fb => by kernel_rfl) rfl trivial ?_
  refine WL.done rfl ?_
  refine WX.next ?_
  refine WC.ret ?_
  injection hf with hf
  subst hf
  exact WX.ret_ [] (.bool ((decide (p0 < 0)) || (decide (p0 ≥ 1000)))) [] (fun fb => by kernel_rfl) trivial ⟨_, rfl, rfl, hS.keep⟩
theorem slices_IndexFunc_int_int_with_tile_colour_1_calls (k : Nat) (p0 : List Int) (A_p0 : Option Addr) (c_p0 : Nat) (r : Int) (w : World) (hR0 : RO NoS w (rowR encInt A_p0 c_p0 p0)) (hf : slices_IndexFunc_int_int_with_tile_colour_1 k p0 = some r) :
    CallsR Tryd.prog 78 #[(.slice A_p0 p0.length c_p0), (.func (.func 65) #[] #[])] w (fun v w' => v = (.int .i64 r) ∧ Keeps NoS w w') := by
  have hS : St NoS w w [rowR encInt A_p0 c_p0 p0] [] := St.init (ro_cons hR0 (ro_nil _ _))
  refine enter 19 Tryd.func78 rfl Tryd.ntmps78 rfl ?_
  unfold slices_IndexFunc_int_int_with_tile_colour_1 at hf
  refine WC.seq ?_
  refine WC.region ?_
  refine seg 1 [] [0, 1] [(0, (.slice A_p0 p0.length c_p0)), (1, (.func (.func 65) #[] #[]))] [] (fun fb => by kernel_rfl) rfl trivial ?_
  refine WL.done rfl ?_
  refine WX.next ?_
  refine WC.seq ?_
  refine WC.seq ?_
  refine WC.region ?_
  refine seg 3 [] [0, 1, 7, 8] [(0, (.slice A_p0 p0.length c_p0)), (1, (.func (.func 65) #[] #[])), (7, (.int .i64 (p0.length : Int))), (8, (.int .i64 0))] [] (fun fb => by kernel_rfl) rfl trivial ?_
  refine WL.done rfl ?_
  refine WX.next ?_
  obtain ⟨x439, hx440, hf⟩ := bind_some hf
  refine WC.cutN (T := Unit) (fun t => []) (fun t w1 => St NoS w w1 [rowR encInt A_p0 c_p0 p0] [] ∧ x439 = .inr t) (fun Kx439 => ?_) ?_
  ·
    refine WC.block ?_
    refine WC.loop (T := Int) (fun t => [(0, (.slice A_p0 p0.length c_p0)), (1, (.func (.func 65) #[] #[])), (7, (.int .i64 (p0.length : Int))), (8, (.int .i64 t))]) (fun n t w1 => St NoS w w1 [rowR encInt A_p0 c_p0 p0] [] ∧ slices_IndexFunc_int_int_with_tile_colour_1.l0 n t p0 = some x439) k 0 [0, 1, 7, 8] rfl ⟨(hS.subR [0]).sub [] (by decide), hx440⟩ ?_
    rintro k441 x438 w442 ⟨hS443, hl444⟩
    cases k441 with
    | zero => rw [slices_IndexFunc_int_int_with_tile_colour_1.l0] at hl444; cases hl444
    | succ k441 =>
      rw [slices_IndexFunc_int_int_with_tile_colour_1.l0] at hl444
      refine WC.seq ?_
      refine WC.region ?_
      refine seg 1 [] [0, 1, 7, 8, 9] [(0, (.slice A_p0 p0.length c_p0)), (1, (.func (.func 65) #[] #[])), (7, (.int .i64 (p0.length : Int))), (8, (.int .i64 x438)), (9, (.bool (decide (x438 < (p0.length : Int)))))] [] (fun fb => by kernel_rfl) rfl trivial ?_
      refine WL.done rfl ?_
      refine WX.next ?_
      refine WC.seq ?_
      rcases br_some hl444 with ⟨h445, hl444⟩ | ⟨h445, hl444⟩
      · refine WC.condT2 (fun fb => by kernel_rfl) h445 ?_
        refine WC.skip ?_
        refine WX.next ?_
        refine WC.seq ?_
        refine WC.block ?_
        refine WC.seq ?_
        refine WC.region ?_
        refine seg 2 [] [0, 1, 5, 7, 8] [(0, (.slice A_p0 p0.length c_p0)), (1, (.func (.func 65) #[] #[])), (5, (.int .i64 x438)), (7, (.int .i64 (p0.length : Int))), (8, (.int .i64 x438))] [] (fun fb => by kernel_rfl) rfl trivial ?_
        refine WL.done rfl ?_
        refine WX.next ?_
        refine WC.seq ?_
        refine WC.region ?_
        refine seg 3 [] [0, 1, 5, 7, 8, 11, 12, 13] [(0, (.slice A_p0 p0.length c_p0)), (1, (.func (.func 65) #[] #[])), (5, (.int .i64 x438)), (7, (.int .i64 (p0.length : Int))), (8, (.int .i64 x438)), (11, (.func (.func 65) #[] #[])), (12, (.slice A_p0 p0.length c_p0)), (13, (.int .i64 x438))] [] (fun fb => by kernel_rfl) rfl trivial ?_
        obtain ⟨h446, hl444⟩ := as_some hl444
        refine seg 5 [.v (.int .i64 (rdD p0 x438 0))] [0, 1, 5, 7, 8, 11, 15] [(0, (.slice A_p0 p0.length c_p0)), (1, (.func (.func 65) #[] #[])), (5, (.int .i64 x438)), (7, (.int .i64 (p0.length : Int))), (8, (.int .i64 x438)), (11, (.func (.func 65) #[] #[])), (15, (.int .i64 (rdD p0 x438 0)))] [.idx A_p0 x438 p0.length, .cell ((adr A_p0).add ((x438).toNat * 1)) (.int .i64 (rdD p0 x438 0))] (fun fb => by kernel_rfl) rfl ⟨rowR.adr (hS443.rd 0).1 h446.1 h446.2, rowR.cell (hS443.rd 0).1 0 h446.1 h446.2 0 rfl, trivial⟩ ?_
        obtain ⟨t447, ht448, hl444⟩ := bind_some hl444
        refine WL.call (some 16) 65 #[(.int .i64 (rdD p0 x438 0))] (fun fb => by kernel_rfl) (tile_colour_1_calls (rdD p0 x438 0) t447 _ ht448) (fun v w449 hR450 => ?_)
        obtain ⟨rfl, hk_⟩ := hR450
        have hS451 := hS443.keepN hk_
        refine ⟨trivial, ?_⟩
        refine WL.done rfl ?_
        refine WX.next ?_
        rcases br_some hl444 with ⟨h452, hl444⟩ | ⟨h452, hl444⟩
        · refine WC.condT2 (fun fb => by kernel_rfl) h452 ?_
          refine WC.seq ?_
          refine WC.region ?_
          refine seg 2 [] [4] [(4, (.int .i64 x438))] [] (fun fb => by kernel_rfl) rfl trivial ?_
          refine WL.done rfl ?_
          refine WX.next ?_
          refine WC.ret ?_
          injection hl444 with hl444
          subst hl444
          injection hf with hf
          subst hf
          exact WX.blockR (WX.thenR (WX.thenR (WX.blockR (WX.thenR (WX.ret_ [] (.int .i64 x438) [] (fun fb => by kernel_rfl) trivial ⟨_, rfl, rfl, hS451.keep⟩)))))
        refine WC.condF2 (fun fb => by kernel_rfl) h452 ?_
        refine WC.skip ?_
        refine WX.blockN (WX.next ?_)
        refine WC.region ?_
        refine seg 2 [] [0, 1, 7, 8] [(0, (.slice A_p0 p0.length c_p0)), (1, (.func (.func 65) #[] #[])), (7, (.int .i64 (p0.length : Int))), (8, (.int .i64 (w64 (x438 + 1))))] [] (fun fb => by kernel_rfl) rfl trivial ?_
        refine WL.done rfl ?_
        exact WX.again k441 (Nat.lt_succ_self _) (w64 (x438 + 1)) [0, 1, 7, 8] rfl ⟨(hS451.subR [0]).sub [] (by decide), hl444⟩
      refine WC.condF2 (fun fb => by kernel_rfl) h445 ?_
      refine WC.exit ?_
      injection hl444 with hl444
      exact WX.thenX (WX.thenX (WX.blockHere (WX.to Kx439 () [] rfl ⟨(hS443.subR [0]).sub [] (by decide), hl444.symm⟩)))
  rintro y456 w453 ⟨hS454, hq455⟩
  subst hq455
  have hf := sum_inr hf
  refine WX.next ?_
  refine WC.seq ?_
  refine WC.region ?_
  refine seg 1 [] [4] [(4, (.int .i64 (-1)))] [] (fun fb => by kernel_rfl) rfl trivial ?_
  refine WL.done rfl ?_
  refine WX.next ?_
  refine WC.ret ?_
  injection hf with hf
  subst hf
  exact WX.ret_ [] (.int .i64 (-1)) [] (fun fb => by kernel_rfl) trivial ⟨_, rfl, rfl, hS454.keep⟩
theorem slices_ContainsFunc_int_int_with_tile_colour_1_calls (k : Nat) (p0 : List Int) (A_p0 : Option Addr) (c_p0 : Nat) (r : Bool) (w : World) (hR0 : RO NoS w (rowR encInt A_p0 c_p0 p0)) (hf : slices_ContainsFunc_int_int_with_tile_colour_1 k p0 = some r) :
    CallsR Tryd.prog 62 #[(.slice A_p0 p0.length c_p0), (.func (.func 65) #[] #[])] w (fun v w' => v = (.bool r) ∧ Keeps NoS w w') := by
  have hS : St NoS w w [rowR encInt A_p0 c_p0 p0] [] := St.init (ro_cons hR0 (ro_nil _ _))
  refine enter 9 Tryd.func62 rfl Tryd.ntmps62 rfl ?_
  unfold slices_ContainsFunc_int_int_with_tile_colour_1 at hf
  refine WC.seq ?_
  refine WC.region ?_
  refine seg 1 [] [0, 1] [(0, (.slice A_p0 p0.length c_p0)), (1, (.func (.func 65) #[] #[]))] [] (fun fb => by kernel_rfl) rfl trivial ?_
  refine WL.done rfl ?_
  refine WX.next ?_
  refine WC.seq ?_
  refine WC.region ?_
  refine seg 2 [] [5, 6] [(5, (.slice A_p0 p0.length c_p0)), (6, (.func (.func 65) #[] #[]))] [] (fun fb => by kernel_rfl) rfl trivial ?_
  obtain ⟨t458, ht459, hf⟩ := bind_some hf
  refine WL.call (some 7) 78 #[(.slice A_p0 p0.length c_p0), (.func (.func 65) #[] #[])] (fun fb => by kernel_rfl) (slices_IndexFunc_int_int_with_tile_colour_1_calls _ p0 A_p0 c_p0 t458 _ (hS.rd 0) ht459) (fun v w460 hR461 => ?_)
  obtain ⟨rfl, hk_⟩ := hR461
  have hS462 := hS.keepN hk_
  refine ⟨trivial, ?_⟩
  refine seg 5 [] [4] [(4, (.bool (decide (t458 ≥ 0))))] [] (fun fb => by kernel_rfl) rfl trivial ?_
  refine WL.done rfl ?_
  refine WX.next ?_
  refine WC.ret ?_
  injection hf with hf
  subst hf
  exact WX.ret_ [] (.bool (decide (t458 ≥ 0))) [] (fun fb => by kernel_rfl) trivial ⟨_, rfl, rfl, hS462.keep⟩
theorem tile_colour_calls (k : Nat) (p0 : List Int) (A_p0 : Option Addr) (c_p0 : Nat) (r : Bool) (w : World) (hR0 : RO NoS w (rowR encInt A_p0 c_p0 p0)) (hf : tile_colour k p0 = some r) :
    CallsR Tryd.prog 51 #[(.slice A_p0 p0.length c_p0)] w (fun v w' => v = (.bool r) ∧ Keeps NoS w w') := by
  have hS : St NoS w w [rowR encInt A_p0 c_p0 p0] [] := St.init (ro_cons hR0 (ro_nil _ _))
  refine enter 6 Tryd.func51 rfl Tryd.ntmps51 rfl ?_
  unfold tile_colour at hf
  refine WC.seq ?_
  refine WC.region ?_
  refine seg 1 [] [0] [(0, (.slice A_p0 p0.length c_p0))] [] (fun fb => by kernel_rfl) rfl trivial ?_
  refine WL.done rfl ?_
  refine WX.next ?_
  refine WC.seq ?_
  refine WC.region ?_
  refine seg 1 [] [3] [(3, (.slice A_p0 p0.length c_p0))] [] (fun fb => by kernel_rfl) rfl trivial ?_
  obtain ⟨t463, ht464, hf⟩ := bind_some hf
  refine WL.call (some 4) 62 #[(.slice A_p0 p0.length c_p0), (.func (.func 65) #[] #[])] (fun fb => by kernel_rfl) (slices_ContainsFunc_int_int_with_tile_colour_1_calls _ p0 A_p0 c_p0 t463 _ (hS.rd 0) ht464) (fun v w465 hR466 => ?_)
  obtain ⟨rfl, hk_⟩ := hR466
  have hS467 := hS.keepN hk_
  refine ⟨trivial, ?_⟩
  refine seg 4 [] [2] [(2, (.bool (!t463)))] [] (fun fb => by kernel_rfl) rfl trivial ?_
  refine WL.done rfl ?_
  refine WX.next ?_
  refine WC.ret ?_
  injection hf with hf
  subst hf
  exact WX.ret_ [] (.bool (!t463)) [] (fun fb => by kernel_rfl) trivial ⟨_, rfl, rfl, hS467.keep⟩
theorem tile_Valid_key62 : KeyK Tryd.prog 62 (aggI ints_Tile) := KeyK.struct (n := 4) (by kernel_rfl) ints_Tile (fun _ => rfl) (fun x y h => by cases x; cases y; simp only [ints_Tile, List.cons.injEq, and_true] at h; obtain ⟨rfl, rfl, rfl, rfl⟩ := h; rfl)
theorem tile_Valid_calls (k : Nat) (p0 : List Tile) (A_p0 : Option Addr) (c_p0 : Nat) (r : Bool) (w : World) (hR0 : RO NoS w (rowR enc_Tile A_p0 c_p0 p0)) (hf : tile_Valid k p0 = some r) :
    CallsR Tryd.prog 22 #[(.slice A_p0 p0.length c_p0)] w (fun v w' => v = (.bool r) ∧ Keeps NoS w w') := by
  have hS : St NoS w w [rowR enc_Tile A_p0 c_p0 p0] [] := St.init (ro_cons hR0 (ro_nil _ _))
  refine enter 35 Tryd.func22 rfl Tryd.ntmps22 rfl ?_
  unfold tile_Valid at hf
  refine WC.seq ?_
  refine WC.region ?_
  refine seg 1 [] [0] [(0, (.slice A_p0 p0.length c_p0))] [] (fun fb => by kernel_rfl) rfl trivial ?_
  refine WL.done rfl ?_
  refine WX.next ?_
  refine WC.seq ?_
  refine WC.seq ?_
  refine WC.region ?_
  refine seg 3 [] [0, 8] [(0, (.slice A_p0 p0.length c_p0)), (8, (.bool (decide ((p0.length : Int) > 1000))))] [] (fun fb => by kernel_rfl) rfl trivial ?_
  refine WL.done rfl ?_
  refine WX.next ?_
  rcases br_some hf with ⟨h402, hf⟩ | ⟨h402, hf⟩
  · refine WC.condT2 (fun fb => by kernel_rfl) h402 ?_
    refine WC.seq ?_
    refine WC.region ?_
    refine seg 1 [] [2] [(2, (.bool false))] [] (fun fb => by kernel_rfl) rfl trivial ?_
    refine WL.done rfl ?_
    refine WX.next ?_
    refine WC.ret ?_
    injection hf with hf
    subst hf
    exact WX.thenR (WX.ret_ [] (.bool false) [] (fun fb => by kernel_rfl) trivial ⟨_, rfl, rfl, hS.keep⟩)
  refine WC.condF2 (fun fb => by kernel_rfl) h402 ?_
  refine WC.skip ?_
  refine WX.next ?_
  refine WC.seq ?_
  refine WC.region ?_
  refine WL.new hS 9 [] (fun g => (.map (some g))) (mapObj (aggI ints_Tile) vB ([] : List (Tile × Bool))) [] (fun fb g => by kernel_rfl) trivial (fun g403 w404 hS405 => ?_)
  refine ⟨trivial, ?_⟩
  refine seg 2 [] [0, 3] [(0, (.slice A_p0 p0.length c_p0)), (3, (.map (some g403)))] [] (fun fb => by kernel_rfl) rfl trivial ?_
  refine WL.done rfl ?_
  refine WX.next ?_
  refine WC.seq ?_
  refine WC.seq ?_
  refine WC.region ?_
  refine seg 3 [] [3, 10, 11, 12] [(3, (.map (some g403))), (10, (.slice A_p0 p0.length c_p0)), (11, (.int .i64 (p0.length : Int))), (12, (.int .i64 0))] [] (fun fb => by kernel_rfl) rfl trivial ?_
  refine WL.done rfl ?_
  refine WX.next ?_
  obtain ⟨x539, hx540, hf⟩ := bind_some hf
  refine WC.cutN (T := Unit) (fun t => []) (fun t w1 => St NoS w w1 [rowR enc_Tile A_p0 c_p0 p0] [] ∧ x539 = .inr t) (fun Kx539 => ?_) ?_
  ·
    refine WC.block ?_
    refine WC.loop (T := (List (Tile × Bool)) × Int) (fun t => [(3, (.map (some g403))), (10, (.slice A_p0 p0.length c_p0)), (11, (.int .i64 (p0.length : Int))), (12, (.int .i64 t.2))]) (fun n t w1 => St NoS w w1 [rowR enc_Tile A_p0 c_p0 p0] [blk g403 (mapObj (aggI ints_Tile) vB t.1)] ∧ tile_Valid.l0 n t.1 t.2 p0 = some x539) k (([] : List (Tile × Bool)), 0) [3, 10, 11, 12] rfl ⟨(hS405.subR [0]).sub [0] (by decide), hx540⟩ ?_
    rintro k541 ⟨l537, x538⟩ w542 ⟨hS543, hl544⟩
    cases k541 with
    | zero => rw [tile_Valid.l0] at hl544; cases hl544
    | succ k541 =>
      rw [tile_Valid.l0] at hl544
      refine WC.seq ?_
      refine WC.region ?_
      refine seg 1 [] [3, 10, 11, 12, 13] [(3, (.map (some g403))), (10, (.slice A_p0 p0.length c_p0)), (11, (.int .i64 (p0.length : Int))), (12, (.int .i64 x538)), (13, (.bool (decide (x538 < (p0.length : Int)))))] [] (fun fb => by kernel_rfl) rfl trivial ?_
      refine WL.done rfl ?_
      refine WX.next ?_
      refine WC.seq ?_
      rcases br_some hl544 with ⟨h545, hl544⟩ | ⟨h545, hl544⟩
      · refine WC.condT2 (fun fb => by kernel_rfl) h545 ?_
        refine WC.skip ?_
        refine WX.next ?_
        refine WC.seq ?_
        refine WC.block ?_
        refine WC.seq ?_
        refine WC.region ?_
        obtain ⟨h546, hl544⟩ := as_some hl544
        refine seg 2 [.v (.int .i64 ((rdD p0 x538 z_Tile).N)), .v (.int .i64 ((rdD p0 x538 z_Tile).E)), .v (.int .i64 ((rdD p0 x538 z_Tile).S)), .v (.int .i64 ((rdD p0 x538 z_Tile).W))] [3, 10, 11, 12, 15] [(3, (.map (some g403))), (10, (.slice A_p0 p0.length c_p0)), (11, (.int .i64 (p0.length : Int))), (12, (.int .i64 x538)), (15, (.agg #[(.int .i64 ((rdD p0 x538 z_Tile).N)), (.int .i64 ((rdD p0 x538 z_Tile).E)), (.int .i64 ((rdD p0 x538 z_Tile).S)), (.int .i64 ((rdD p0 x538 z_Tile).W))]))] [.idx A_p0 x538 p0.length, .cell ((adr A_p0).add ((x538).toNat * 4)) (.int .i64 ((rdD p0 x538 z_Tile).N)), .cell (((adr A_p0).add ((x538).toNat * 4)).add 1) (.int .i64 ((rdD p0 x538 z_Tile).E)), .cell (((adr A_p0).add ((x538).toNat * 4)).add 2) (.int .i64 ((rdD p0 x538 z_Tile).S)), .cell (((adr A_p0).add ((x538).toNat * 4)).add 3) (.int .i64 ((rdD p0 x538 z_Tile).W))] (fun fb => by kernel_rfl) rfl ⟨rowR.adr (hS543.rd 0).1 h546.1 h546.2, rowR.cell (hS543.rd 0).1 z_Tile h546.1 h546.2 0 rfl, rowR.cell (hS543.rd 0).1 z_Tile h546.1 h546.2 1 rfl, rowR.cell (hS543.rd 0).1 z_Tile h546.1 h546.2 2 rfl, rowR.cell (hS543.rd 0).1 z_Tile h546.1 h546.2 3 rfl, trivial⟩ ?_
        refine WL.new hS543 5 [] (fun g => (.pointer (some ⟨g, 0, none⟩))) (.cells #[(.int .i64 0), (.int .i64 0), (.int .i64 0), (.int .i64 0)] 62 (0, 0)) [] (fun fb g => by kernel_rfl) trivial (fun g547 w548 hS549 => ?_)
        refine ⟨trivial, ?_⟩
        refine WL.store hS549 0 rfl [(0, (.int .i64 ((rdD p0 x538 z_Tile).N))), (1, (.int .i64 ((rdD p0 x538 z_Tile).E))), (2, (.int .i64 ((rdD p0 x538 z_Tile).S))), (3, (.int .i64 ((rdD p0 x538 z_Tile).W)))] #[(.int .i64 ((rdD p0 x538 z_Tile).N)), (.int .i64 ((rdD p0 x538 z_Tile).E)), (.int .i64 ((rdD p0 x538 z_Tile).S)), (.int .i64 ((rdD p0 x538 z_Tile).W))] (fun fb => by kernel_rfl) (by kernel_rfl) rfl [1] (by decide) (by decide) (fun w551 hS552 => ?_)
        refine ⟨trivial, ?_⟩
        refine WL.done rfl ?_
        refine WX.next ?_
        refine WC.seq ?_
        refine WC.seq ?_
        refine WC.region ?_
        refine seg 2 [.v (.int .i64 ((rdD p0 x538 z_Tile).N)), .v (.int .i64 ((rdD p0 x538 z_Tile).E)), .v (.int .i64 ((rdD p0 x538 z_Tile).S)), .v (.int .i64 ((rdD p0 x538 z_Tile).W))] [3, 5, 10, 11, 12, 16, 17] [(3, (.map (some g403))), (5, (.pointer (some ⟨g547, 0, none⟩))), (10, (.slice A_p0 p0.length c_p0)), (11, (.int .i64 (p0.length : Int))), (12, (.int .i64 x538)), (16, (.map (some g403))), (17, (.agg #[(.int .i64 ((rdD p0 x538 z_Tile).N)), (.int .i64 ((rdD p0 x538 z_Tile).E)), (.int .i64 ((rdD p0 x538 z_Tile).S)), (.int .i64 ((rdD p0 x538 z_Tile).W))]))] [.cell ⟨g547, 0, none⟩ (.int .i64 ((rdD p0 x538 z_Tile).N)), .cell ⟨g547, 1, none⟩ (.int .i64 ((rdD p0 x538 z_Tile).E)), .cell ⟨g547, 2, none⟩ (.int .i64 ((rdD p0 x538 z_Tile).S)), .cell ⟨g547, 3, none⟩ (.int .i64 ((rdD p0 x538 z_Tile).W))] (fun fb => by kernel_rfl) rfl ⟨hS552.cell 0 rfl 0 rfl, hS552.cell 0 rfl 1 rfl, hS552.cell 0 rfl 2 rfl, hS552.cell 0 rfl 3 rfl, trivial⟩ ?_
        refine WL.lookup (hS552.own 1).1 (rdD p0 x538 z_Tile) (d := 18) (c := false) (t := 68) (kT := 62) (eT := 4) (z := false) (kE := (aggI ints_Tile)) (vE := vB) (l := l537) (.bool (mget (rdD p0 x538 z_Tile) false l537)) (fun fb => by kernel_rfl) tile_Valid_key62 (by kernel_rfl) (fun _ => by kernel_rfl) rfl ?_
        refine ⟨trivial, ?_⟩
        refine seg 4 [] [3, 5, 10, 11, 12, 19] [(3, (.map (some g403))), (5, (.pointer (some ⟨g547, 0, none⟩))), (10, (.slice A_p0 p0.length c_p0)), (11, (.int .i64 (p0.length : Int))), (12, (.int .i64 x538)), (19, (.bool (mget (rdD p0 x538 z_Tile) false l537)))] [] (fun fb => by kernel_rfl) rfl trivial ?_
        obtain ⟨x564, hx565, hl544⟩ := bind_some hl544
        refine WL.cutW (T := Bool) 16 (fun t => [(3, (.map (some g403))), (5, (.pointer (some ⟨g547, 0, none⟩))), (10, (.slice A_p0 p0.length c_p0)), (11, (.int .i64 (p0.length : Int))), (12, (.int .i64 x538)), (31, (.bool t))]) (fun t w1 => (St NoS w w1 [rowR enc_Tile A_p0 c_p0 p0] [blk g403 (mapObj (aggI ints_Tile) vB l537), blk g547 (.cells #[(.int .i64 ((rdD p0 x538 z_Tile).N)), (.int .i64 ((rdD p0 x538 z_Tile).E)), (.int .i64 ((rdD p0 x538 z_Tile).S)), (.int .i64 ((rdD p0 x538 z_Tile).W))] 62 (0, 0))] ∧ x564 = t) ∧ CellsOK [] w1) (fun K => ?_) ?_
        ·
          rcases br_some hx565 with ⟨h566, hx565⟩ | ⟨h566, hx565⟩
          ·
            refine WL.setB 19 h566 rfl ?_
            refine seg 16 [] [3, 5, 10, 11, 12, 31] [(3, (.map (some g403))), (5, (.pointer (some ⟨g547, 0, none⟩))), (10, (.slice A_p0 p0.length c_p0)), (11, (.int .i64 (p0.length : Int))), (12, (.int .i64 x538)), (31, (.bool true))] [] (fun fb => by kernel_rfl) rfl trivial ?_
            injection hx565 with hx565
            exact WL.to K true [3, 5, 10, 11, 12, 31] rfl ⟨⟨(hS552.subR [0]).sub [1, 0] (by decide), hx565.symm⟩, trivial⟩
          refine WL.setB 19 h566 rfl ?_
          refine seg 12 [.v (.int .i64 ((rdD p0 x538 z_Tile).N)), .v (.int .i64 ((rdD p0 x538 z_Tile).E)), .v (.int .i64 ((rdD p0 x538 z_Tile).S)), .v (.int .i64 ((rdD p0 x538 z_Tile).W))] [3, 5, 10, 11, 12, 19, 21, 23, 25, 27] [(3, (.map (some g403))), (5, (.pointer (some ⟨g547, 0, none⟩))), (10, (.slice A_p0 p0.length c_p0)), (11, (.int .i64 (p0.length : Int))), (12, (.int .i64 x538)), (19, (.bool false)), (21, (.int .i64 ((rdD p0 x538 z_Tile).N))), (23, (.int .i64 ((rdD p0 x538 z_Tile).E))), (25, (.int .i64 ((rdD p0 x538 z_Tile).S))), (27, (.int .i64 ((rdD p0 x538 z_Tile).W)))] [.cell ⟨g547, 0, none⟩ (.int .i64 ((rdD p0 x538 z_Tile).N)), .cell ⟨g547, 1, none⟩ (.int .i64 ((rdD p0 x538 z_Tile).E)), .cell ⟨g547, 2, none⟩ (.int .i64 ((rdD p0 x538 z_Tile).S)), .cell ⟨g547, 3, none⟩ (.int .i64 ((rdD p0 x538 z_Tile).W))] (fun fb => by kernel_rfl) rfl ⟨hS552.cell 0 rfl 0 rfl, hS552.cell 0 rfl 1 rfl, hS552.cell 0 rfl 2 rfl, hS552.cell 0 rfl 3 rfl, trivial⟩ ?_
          refine WL.new hS552 28 [] (fun g => (.slice (some ⟨g, 0, none⟩) 4 4)) (.cells #[(.int .i64 ((rdD p0 x538 z_Tile).N)), (.int .i64 ((rdD p0 x538 z_Tile).E)), (.int .i64 ((rdD p0 x538 z_Tile).S)), (.int .i64 ((rdD p0 x538 z_Tile).W))] 3 (0, 0)) [] (fun fb g => by kernel_rfl) trivial (fun g567 w568 hS569 => ?_)
          refine ⟨trivial, ?_⟩
          have hS571 : St NoS w w568 [rowR enc_Tile A_p0 c_p0 p0] [rowO 3 encInt (some ⟨g567, 0, none⟩) 4 [(rdD p0 x538 z_Tile).N, (rdD p0 x538 z_Tile).E, (rdD p0 x538 z_Tile).S, (rdD p0 x538 z_Tile).W], blk g547 (.cells #[(.int .i64 ((rdD p0 x538 z_Tile).N)), (.int .i64 ((rdD p0 x538 z_Tile).E)), (.int .i64 ((rdD p0 x538 z_Tile).S)), (.int .i64 ((rdD p0 x538 z_Tile).W))] 62 (0, 0)), blk g403 (mapObj (aggI ints_Tile) vB l537)] := hS569.map1 0 _ (fun h => rowO.ofBlk h rfl (Nat.le_of_ble_eq_true (by kernel_rfl))) (fun _ h => by obtain ⟨_, h1, h2⟩ := h; injection h1 with h1; subst h1; exact h2) [1, 2] (by decide) (by decide)
          obtain ⟨t572, ht573, hx565⟩ := bind_some hx565
          refine WL.call (some 29) 51 #[(.slice (some ⟨g567, 0, none⟩) [(rdD p0 x538 z_Tile).N, (rdD p0 x538 z_Tile).E, (rdD p0 x538 z_Tile).S, (rdD p0 x538 z_Tile).W].length 4)] (fun fb => by kernel_rfl) (tile_colour_calls _ [(rdD p0 x538 z_Tile).N, (rdD p0 x538 z_Tile).E, (rdD p0 x538 z_Tile).S, (rdD p0 x538 z_Tile).W] (some ⟨g567, 0, none⟩) 4 t572 _ (hS571.ow 0).ofO ht573) (fun v w574 hR575 => ?_)
          obtain ⟨rfl, hk_⟩ := hR575
          have hS576 := hS571.keepN hk_
          refine ⟨trivial, ?_⟩
          refine seg 16 [] [3, 5, 10, 11, 12, 31] [(3, (.map (some g403))), (5, (.pointer (some ⟨g547, 0, none⟩))), (10, (.slice A_p0 p0.length c_p0)), (11, (.int .i64 (p0.length : Int))), (12, (.int .i64 x538)), (31, (.bool (!t572)))] [] (fun fb => by kernel_rfl) rfl trivial ?_
          injection hx565 with hx565
          exact WL.to K (!t572) [3, 5, 10, 11, 12, 31] rfl ⟨⟨(hS576.subR [0]).sub [2, 1] (by decide), hx565.symm⟩, trivial⟩
        rintro y577 w579 ⟨⟨hS580, hq578⟩, hF581⟩
        subst hq578
        refine WL.done rfl ?_
        refine WX.next ?_
        rcases br_some hl544 with ⟨h582, hl544⟩ | ⟨h582, hl544⟩
        · refine WC.condT2 (fun fb => by kernel_rfl) h582 ?_
          refine WC.seq ?_
          refine WC.region ?_
          refine seg 1 [] [2] [(2, (.bool false))] [] (fun fb => by kernel_rfl) rfl trivial ?_
          refine WL.done rfl ?_
          refine WX.next ?_
          refine WC.ret ?_
          injection hl544 with hl544
          subst hl544
          injection hf with hf
          subst hf
          exact WX.thenR (WX.blockR (WX.thenR (WX.thenR (WX.blockR (WX.thenR (WX.ret_ [] (.bool false) [] (fun fb => by kernel_rfl) trivial ⟨_, rfl, rfl, hS580.keep⟩))))))
        refine WC.condF2 (fun fb => by kernel_rfl) h582 ?_
        refine WC.skip ?_
        refine WX.next ?_
        refine WC.region ?_
        refine seg 2 [.v (.int .i64 ((rdD p0 x538 z_Tile).N)), .v (.int .i64 ((rdD p0 x538 z_Tile).E)), .v (.int .i64 ((rdD p0 x538 z_Tile).S)), .v (.int .i64 ((rdD p0 x538 z_Tile).W))] [3, 10, 11, 12, 32, 33] [(3, (.map (some g403))), (10, (.slice A_p0 p0.length c_p0)), (11, (.int .i64 (p0.length : Int))), (12, (.int .i64 x538)), (32, (.map (some g403))), (33, (.agg #[(.int .i64 ((rdD p0 x538 z_Tile).N)), (.int .i64 ((rdD p0 x538 z_Tile).E)), (.int .i64 ((rdD p0 x538 z_Tile).S)), (.int .i64 ((rdD p0 x538 z_Tile).W))]))] [.cell ⟨g547, 0, none⟩ (.int .i64 ((rdD p0 x538 z_Tile).N)), .cell ⟨g547, 1, none⟩ (.int .i64 ((rdD p0 x538 z_Tile).E)), .cell ⟨g547, 2, none⟩ (.int .i64 ((rdD p0 x538 z_Tile).S)), .cell ⟨g547, 3, none⟩ (.int .i64 ((rdD p0 x538 z_Tile).W))] (fun fb => by kernel_rfl) rfl ⟨hS580.cell 1 rfl 0 rfl, hS580.cell 1 rfl 1 rfl, hS580.cell 1 rfl 2 rfl, hS580.cell 1 rfl 3 rfl, trivial⟩ ?_
        refine WL.mapput hS580 0 (t := 68) (kT := 62) (eT := 4) (kE := (aggI ints_Tile)) (vE := vB) (l := l537) rfl (rdD p0 x538 z_Tile) true (fun fb => by kernel_rfl) tile_Valid_key62 (by kernel_rfl) [1] (by decide) (by decide) (fun w583 hS584 => ?_)
        refine ⟨trivial, ?_⟩
        refine WL.done rfl ?_
        refine WX.blockN (WX.next ?_)
        refine WC.region ?_
        refine seg 2 [] [3, 10, 11, 12] [(3, (.map (some g403))), (10, (.slice A_p0 p0.length c_p0)), (11, (.int .i64 (p0.length : Int))), (12, (.int .i64 (w64 (x538 + 1))))] [] (fun fb => by kernel_rfl) rfl trivial ?_
        refine WL.done rfl ?_
        exact WX.again k541 (Nat.lt_succ_self _) (mput (rdD p0 x538 z_Tile) true l537, w64 (x538 + 1)) [3, 10, 11, 12] rfl ⟨(hS584.subR [0]).sub [0] (by decide), hl544⟩
      refine WC.condF2 (fun fb => by kernel_rfl) h545 ?_
      refine WC.exit ?_
      injection hl544 with hl544
      exact WX.thenX (WX.thenX (WX.blockHere (WX.to Kx539 () [] rfl ⟨(hS543.subR [0]).sub [] (by decide), hl544.symm⟩)))
  rintro y588 w585 ⟨hS586, hq587⟩
  subst hq587
  have hf := sum_inr hf
  refine WX.next ?_
  refine WC.seq ?_
  refine WC.region ?_
  refine seg 1 [] [2] [(2, (.bool true))] [] (fun fb => by kernel_rfl) rfl trivial ?_
  refine WL.done rfl ?_
  refine WX.next ?_
  refine WC.ret ?_
  injection hf with hf
  subst hf
  exact WX.ret_ [] (.bool true) [] (fun fb => by kernel_rfl) trivial ⟨_, rfl, rfl, hS586.keep⟩
theorem tile_write_calls (k : Nat) (p0 : List Tile) (A_p0 : Option Addr) (c_p0 : Nat) (r : ByteArray) (w : World) (hR0 : RO NoS w (rowR enc_Tile A_p0 c_p0 p0)) (hf : tile_write k p0 = some r) :
    CallsR Tryd.prog 43 #[(.slice A_p0 p0.length c_p0)] w (fun v w' => v = (.string r) ∧ Keeps NoS w w') := by
  have hS : St NoS w w [rowR enc_Tile A_p0 c_p0 p0] [] := St.init (ro_cons hR0 (ro_nil _ _))
  refine enter 41 Tryd.func43 rfl Tryd.ntmps43 rfl ?_
  unfold tile_write at hf
  refine WC.seq ?_
  refine WC.region ?_
  refine seg 1 [] [0] [(0, (.slice A_p0 p0.length c_p0))] [] (fun fb => by kernel_rfl) rfl trivial ?_
  refine WL.done rfl ?_
  refine WX.next ?_
  refine WC.seq ?_
  refine WC.region ?_
  refine seg 1 [] [0, 3] [(0, (.slice A_p0 p0.length c_p0)), (3, (.slice none 0 0))] [] (fun fb => by kernel_rfl) rfl trivial ?_
  refine WL.done rfl ?_
  refine WX.next ?_
  refine WC.seq ?_
  refine WC.seq ?_
  refine WC.region ?_
  refine seg 3 [] [3, 9, 10, 11] [(3, (.slice none 0 0)), (9, (.slice A_p0 p0.length c_p0)), (10, (.int .i64 (p0.length : Int))), (11, (.int .i64 0))] [] (fun fb => by kernel_rfl) rfl trivial ?_
  refine WL.done rfl ?_
  refine WX.next ?_
  have hS987 := hS.nilrow 9 encStr
  obtain ⟨x995, hx996, hf⟩ := bind_some hf
  refine WC.cutN (T := (List ByteArray) × (Option Addr) × Nat) (fun t => [(3, (.slice t.2.1 t.1.length t.2.2))]) (fun t w1 => St NoS w w1 [rowR enc_Tile A_p0 c_p0 p0] [rowO 9 encStr t.2.1 t.2.2 t.1] ∧ x995 = t.1) (fun Kx995 => ?_) ?_
  ·
    refine WC.block ?_
    refine WC.loop (T := ((List ByteArray) × Int) × (Option Addr) × Nat) (fun t => [(3, (.slice t.2.1 t.1.1.length t.2.2)), (9, (.slice A_p0 p0.length c_p0)), (10, (.int .i64 (p0.length : Int))), (11, (.int .i64 t.1.2))]) (fun n t w1 => St NoS w w1 [rowR enc_Tile A_p0 c_p0 p0] [rowO 9 encStr t.2.1 t.2.2 t.1.1] ∧ tile_write.l0 n t.1.1 t.1.2 p0 = some x995) k ((([] : List ByteArray), 0), none, 0) [3, 9, 10, 11] rfl ⟨(hS987.subR [0]).sub [0] (by decide), hx996⟩ ?_
    rintro k997 ⟨⟨l990, x991⟩, A988, c989⟩ w998 ⟨hS999, hl1000⟩
    cases k997 with
    | zero => rw [tile_write.l0] at hl1000; cases hl1000
    | succ k997 =>
      rw [tile_write.l0] at hl1000
      refine WC.seq ?_
      refine WC.region ?_
      refine seg 1 [] [3, 9, 10, 11, 12] [(3, (.slice A988 l990.length c989)), (9, (.slice A_p0 p0.length c_p0)), (10, (.int .i64 (p0.length : Int))), (11, (.int .i64 x991)), (12, (.bool (decide (x991 < (p0.length : Int)))))] [] (fun fb => by kernel_rfl) rfl trivial ?_
      refine WL.done rfl ?_
      refine WX.next ?_
      refine WC.seq ?_
      rcases br_some hl1000 with ⟨h1001, hl1000⟩ | ⟨h1001, hl1000⟩
      · refine WC.condT2 (fun fb => by kernel_rfl) h1001 ?_
        refine WC.skip ?_
        refine WX.next ?_
        refine WC.seq ?_
        refine WC.block ?_
        refine WC.seq ?_
        refine WC.region ?_
        obtain ⟨h1002, hl1000⟩ := as_some hl1000
        refine seg 2 [.v (.int .i64 ((rdD p0 x991 z_Tile).N)), .v (.int .i64 ((rdD p0 x991 z_Tile).E)), .v (.int .i64 ((rdD p0 x991 z_Tile).S)), .v (.int .i64 ((rdD p0 x991 z_Tile).W))] [3, 9, 10, 11, 14] [(3, (.slice A988 l990.length c989)), (9, (.slice A_p0 p0.length c_p0)), (10, (.int .i64 (p0.length : Int))), (11, (.int .i64 x991)), (14, (.agg #[(.int .i64 ((rdD p0 x991 z_Tile).N)), (.int .i64 ((rdD p0 x991 z_Tile).E)), (.int .i64 ((rdD p0 x991 z_Tile).S)), (.int .i64 ((rdD p0 x991 z_Tile).W))]))] [.idx A_p0 x991 p0.length, .cell ((adr A_p0).add ((x991).toNat * 4)) (.int .i64 ((rdD p0 x991 z_Tile).N)), .cell (((adr A_p0).add ((x991).toNat * 4)).add 1) (.int .i64 ((rdD p0 x991 z_Tile).E)), .cell (((adr A_p0).add ((x991).toNat * 4)).add 2) (.int .i64 ((rdD p0 x991 z_Tile).S)), .cell (((adr A_p0).add ((x991).toNat * 4)).add 3) (.int .i64 ((rdD p0 x991 z_Tile).W))] (fun fb => by kernel_rfl) rfl ⟨rowR.adr (hS999.rd 0).1 h1002.1 h1002.2, rowR.cell (hS999.rd 0).1 z_Tile h1002.1 h1002.2 0 rfl, rowR.cell (hS999.rd 0).1 z_Tile h1002.1 h1002.2 1 rfl, rowR.cell (hS999.rd 0).1 z_Tile h1002.1 h1002.2 2 rfl, rowR.cell (hS999.rd 0).1 z_Tile h1002.1 h1002.2 3 rfl, trivial⟩ ?_
        refine WL.new hS999 5 [] (fun g => (.pointer (some ⟨g, 0, none⟩))) (.cells #[(.int .i64 0), (.int .i64 0), (.int .i64 0), (.int .i64 0)] 62 (0, 0)) [] (fun fb g => by kernel_rfl) trivial (fun g1003 w1004 hS1005 => ?_)
        refine ⟨trivial, ?_⟩
        refine WL.store hS1005 0 rfl [(0, (.int .i64 ((rdD p0 x991 z_Tile).N))), (1, (.int .i64 ((rdD p0 x991 z_Tile).E))), (2, (.int .i64 ((rdD p0 x991 z_Tile).S))), (3, (.int .i64 ((rdD p0 x991 z_Tile).W)))] #[(.int .i64 ((rdD p0 x991 z_Tile).N)), (.int .i64 ((rdD p0 x991 z_Tile).E)), (.int .i64 ((rdD p0 x991 z_Tile).S)), (.int .i64 ((rdD p0 x991 z_Tile).W))] (fun fb => by kernel_rfl) (by kernel_rfl) rfl [1] (by decide) (by decide) (fun w1007 hS1008 => ?_)
        refine ⟨trivial, ?_⟩
        refine WL.done rfl ?_
        refine WX.next ?_
        refine WC.seq ?_
        refine WC.region ?_
        refine seg 1 [] [3, 5, 6, 9, 10, 11] [(3, (.slice A988 l990.length c989)), (5, (.pointer (some ⟨g1003, 0, none⟩))), (6, (.slice none 0 0)), (9, (.slice A_p0 p0.length c_p0)), (10, (.int .i64 (p0.length : Int))), (11, (.int .i64 x991))] [] (fun fb => by kernel_rfl) rfl trivial ?_
        refine WL.done rfl ?_
        refine WX.next ?_
        refine WC.seq ?_
        refine WC.seq ?_
        refine WC.region ?_
        refine seg 10 [.v (.int .i64 ((rdD p0 x991 z_Tile).N)), .v (.int .i64 ((rdD p0 x991 z_Tile).E)), .v (.int .i64 ((rdD p0 x991 z_Tile).S)), .v (.int .i64 ((rdD p0 x991 z_Tile).W))] [3, 6, 9, 10, 11, 23, 24] [(3, (.slice A988 l990.length c989)), (6, (.slice none 0 0)), (9, (.slice A_p0 p0.length c_p0)), (10, (.int .i64 (p0.length : Int))), (11, (.int .i64 x991)), (23, (.agg #[(.int .i64 ((rdD p0 x991 z_Tile).N)), (.int .i64 ((rdD p0 x991 z_Tile).E)), (.int .i64 ((rdD p0 x991 z_Tile).S)), (.int .i64 ((rdD p0 x991 z_Tile).W))])), (24, (.int .i64 0))] [.cell ⟨g1003, 0, none⟩ (.int .i64 ((rdD p0 x991 z_Tile).N)), .cell ⟨g1003, 1, none⟩ (.int .i64 ((rdD p0 x991 z_Tile).E)), .cell ⟨g1003, 2, none⟩ (.int .i64 ((rdD p0 x991 z_Tile).S)), .cell ⟨g1003, 3, none⟩ (.int .i64 ((rdD p0 x991 z_Tile).W))] (fun fb => by kernel_rfl) rfl ⟨hS1008.cell 0 rfl 0 rfl, hS1008.cell 0 rfl 1 rfl, hS1008.cell 0 rfl 2 rfl, hS1008.cell 0 rfl 3 rfl, trivial⟩ ?_
        refine WL.done rfl ?_
        refine WX.next ?_
        have hS1096 := hS1008.nilrow 9 encStr
        obtain ⟨x1104, hx1105, hl1000⟩ := bind_some hl1000
        refine WC.cutN (T := (List ByteArray) × (Option Addr) × Nat) (fun t => [(3, (.slice A988 l990.length c989)), (6, (.slice t.2.1 t.1.length t.2.2)), (9, (.slice A_p0 p0.length c_p0)), (10, (.int .i64 (p0.length : Int))), (11, (.int .i64 x991))]) (fun t w1 => St NoS w w1 [rowR enc_Tile A_p0 c_p0 p0] [rowO 9 encStr A988 c989 l990, rowO 9 encStr t.2.1 t.2.2 t.1] ∧ x1104 = t.1) (fun Kx1104 => ?_) ?_
        ·
          refine WC.block ?_
          refine WC.loop (T := ((List ByteArray) × Int) × (Option Addr) × Nat) (fun t => [(3, (.slice A988 l990.length c989)), (6, (.slice t.2.1 t.1.1.length t.2.2)), (9, (.slice A_p0 p0.length c_p0)), (10, (.int .i64 (p0.length : Int))), (11, (.int .i64 x991)), (23, (.agg #[(.int .i64 ((rdD p0 x991 z_Tile).N)), (.int .i64 ((rdD p0 x991 z_Tile).E)), (.int .i64 ((rdD p0 x991 z_Tile).S)), (.int .i64 ((rdD p0 x991 z_Tile).W))])), (24, (.int .i64 t.1.2))]) (fun n t w1 => St NoS w w1 [rowR enc_Tile A_p0 c_p0 p0] [rowO 9 encStr A988 c989 l990, rowO 9 encStr t.2.1 t.2.2 t.1.1] ∧ tile_write.l1 n t.1.1 t.1.2 p0 x991 = some x1104) k997 ((([] : List ByteArray), 0), none, 0) [3, 6, 9, 10, 11, 23, 24] rfl ⟨(hS1096.subR [0]).sub [2, 0] (by decide), hx1105⟩ ?_
          rintro k1106 ⟨⟨l1099, x1100⟩, A1097, c1098⟩ w1107 ⟨hS1108, hl1109⟩
          cases k1106 with
          | zero => rw [tile_write.l1] at hl1109; cases hl1109
          | succ k1106 =>
            rw [tile_write.l1] at hl1109
            refine WC.seq ?_
            refine WC.region ?_
            refine seg 1 [] [3, 6, 9, 10, 11, 23, 24, 25] [(3, (.slice A988 l990.length c989)), (6, (.slice A1097 l1099.length c1098)), (9, (.slice A_p0 p0.length c_p0)), (10, (.int .i64 (p0.length : Int))), (11, (.int .i64 x991)), (23, (.agg #[(.int .i64 ((rdD p0 x991 z_Tile).N)), (.int .i64 ((rdD p0 x991 z_Tile).E)), (.int .i64 ((rdD p0 x991 z_Tile).S)), (.int .i64 ((rdD p0 x991 z_Tile).W))])), (24, (.int .i64 x1100)), (25, (.bool (decide (x1100 < 4))))] [] (fun fb => by kernel_rfl) rfl trivial ?_
            refine WL.done rfl ?_
            refine WX.next ?_
            refine WC.seq ?_
            rcases br_some hl1109 with ⟨h1110, hl1109⟩ | ⟨h1110, hl1109⟩
            · refine WC.condT2 (fun fb => by kernel_rfl) h1110 ?_
              refine WC.skip ?_
              refine WX.next ?_
              refine WC.seq ?_
              refine WC.block ?_
              refine WC.seq ?_
              refine WC.region ?_
              rcases br_some hl1109 with ⟨h1111, hl1109⟩ | ⟨h1111, hl1109⟩
              ·
                refine WL.setI 24 (eq_of_beq h1111) rfl ?_
                refine seg 1 [] [3, 6, 9, 10, 11, 23, 24, 26] [(3, (.slice A988 l990.length c989)), (6, (.slice A1097 l1099.length c1098)), (9, (.slice A_p0 p0.length c_p0)), (10, (.int .i64 (p0.length : Int))), (11, (.int .i64 x991)), (23, (.agg #[(.int .i64 ((rdD p0 x991 z_Tile).N)), (.int .i64 ((rdD p0 x991 z_Tile).E)), (.int .i64 ((rdD p0 x991 z_Tile).S)), (.int .i64 ((rdD p0 x991 z_Tile).W))])), (24, (.int .i64 0)), (26, (.int .i64 ((rdD p0 x991 z_Tile).N)))] [] (fun fb => by kernel_rfl) rfl trivial ?_
                refine WL.setI 24 (eq_of_beq h1111).symm rfl ?_
                refine seg 2 [] [3, 6, 8, 9, 10, 11, 23, 24] [(3, (.slice A988 l990.length c989)), (6, (.slice A1097 l1099.length c1098)), (8, (.int .i64 ((rdD p0 x991 z_Tile).N))), (9, (.slice A_p0 p0.length c_p0)), (10, (.int .i64 (p0.length : Int))), (11, (.int .i64 x991)), (23, (.agg #[(.int .i64 ((rdD p0 x991 z_Tile).N)), (.int .i64 ((rdD p0 x991 z_Tile).E)), (.int .i64 ((rdD p0 x991 z_Tile).S)), (.int .i64 ((rdD p0 x991 z_Tile).W))])), (24, (.int .i64 x1100))] [] (fun fb => by kernel_rfl) rfl trivial ?_
                refine WL.done rfl ?_
                refine WX.next ?_
                refine WC.region ?_
                refine seg 2 [] [3, 9, 10, 11, 23, 24, 27, 28] [(3, (.slice A988 l990.length c989)), (9, (.slice A_p0 p0.length c_p0)), (10, (.int .i64 (p0.length : Int))), (11, (.int .i64 x991)), (23, (.agg #[(.int .i64 ((rdD p0 x991 z_Tile).N)), (.int .i64 ((rdD p0 x991 z_Tile).E)), (.int .i64 ((rdD p0 x991 z_Tile).S)), (.int .i64 ((rdD p0 x991 z_Tile).W))])), (24, (.int .i64 x1100)), (27, (.slice A1097 l1099.length c1098)), (28, (.int .i64 ((rdD p0 x991 z_Tile).N)))] [] (fun fb => by kernel_rfl) rfl trivial ?_
                obtain ⟨t1115, ht1116, hl1109⟩ := bind_some hl1109
                refine WL.call (some 29) 60 #[(.int .i64 ((rdD p0 x991 z_Tile).N))] (fun fb => by kernel_rfl) (itoa_calls Tryd.strconv_Itoa_small ((rdD p0 x991 z_Tile).N) t1115 _ ht1116) (fun v w1113 hR1112 => ?_)
                obtain ⟨rfl, hk_⟩ := hR1112
                have hS1114 := hS1108.keepN hk_
                refine ⟨trivial, ?_⟩
                refine WL.new hS1114 30 [] (fun g => (.slice (some ⟨g, 0, none⟩) 1 1)) (.cells #[(.string t1115)] 9 (0, 0)) [] (fun fb g => by kernel_rfl) trivial (fun g1117 w1118 hS1119 => ?_)
                refine ⟨trivial, ?_⟩
                have hS1121 : St NoS w w1118 [rowR enc_Tile A_p0 c_p0 p0] [rowO 9 encStr (some ⟨g1117, 0, none⟩) 1 [t1115], rowO 9 encStr A988 c989 l990, rowO 9 encStr A1097 c1098 l1099] := hS1119.map1 0 _ (fun h => rowO.ofBlk h rfl (Nat.le_of_ble_eq_true (by kernel_rfl))) (fun _ h => by obtain ⟨_, h1, h2⟩ := h; injection h1 with h1; subst h1; exact h2) [1, 2] (by decide) (by decide)
                obtain ⟨h1122, hl1109⟩ := as_some hl1109
                refine WL.append hS1121 2 (d := 31) (tS := 54) (z := (.string ByteArray.empty)) (bytes := 16) (c2 := 1) rfl (fun fb => by kernel_rfl) (rowO.rd (hS1121.own 0).1) (by kernel_rfl) (by kernel_rfl) rfl (by decide) h1122 (by decide) [0, 1] (by decide) (by decide) (fun A1123 c1124 w1125 hS1126 => ?_)
                refine ⟨trivial, ?_⟩
                refine seg 6 [] [3, 6, 9, 10, 11, 23, 24] [(3, (.slice A988 l990.length c989)), (6, (.slice A1123 (l1099 ++ [t1115]).length c1124)), (9, (.slice A_p0 p0.length c_p0)), (10, (.int .i64 (p0.length : Int))), (11, (.int .i64 x991)), (23, (.agg #[(.int .i64 ((rdD p0 x991 z_Tile).N)), (.int .i64 ((rdD p0 x991 z_Tile).E)), (.int .i64 ((rdD p0 x991 z_Tile).S)), (.int .i64 ((rdD p0 x991 z_Tile).W))])), (24, (.int .i64 x1100))] [] (fun fb => by kernel_rfl) rfl trivial ?_
                refine WL.done rfl ?_
                refine WX.blockN (WX.next ?_)
                refine WC.region ?_
                refine seg 2 [] [3, 6, 9, 10, 11, 23, 24] [(3, (.slice A988 l990.length c989)), (6, (.slice A1123 (l1099 ++ [t1115]).length c1124)), (9, (.slice A_p0 p0.length c_p0)), (10, (.int .i64 (p0.length : Int))), (11, (.int .i64 x991)), (23, (.agg #[(.int .i64 ((rdD p0 x991 z_Tile).N)), (.int .i64 ((rdD p0 x991 z_Tile).E)), (.int .i64 ((rdD p0 x991 z_Tile).S)), (.int .i64 ((rdD p0 x991 z_Tile).W))])), (24, (.int .i64 (w64 (x1100 + 1))))] [] (fun fb => by kernel_rfl) rfl trivial ?_
                refine WL.done rfl ?_
                exact WX.again k1106 (Nat.lt_succ_self _) ((l1099 ++ [t1115], w64 (x1100 + 1)), A1123, c1124) [3, 6, 9, 10, 11, 23, 24] rfl ⟨(hS1126.subR [0]).sub [2, 0] (by decide), hl1109⟩
              rcases br_some hl1109 with ⟨h1127, hl1109⟩ | ⟨h1127, hl1109⟩
              ·
                refine WL.setI 24 (eq_of_beq h1127) rfl ?_
                refine seg 1 [] [3, 6, 9, 10, 11, 23, 24, 26] [(3, (.slice A988 l990.length c989)), (6, (.slice A1097 l1099.length c1098)), (9, (.slice A_p0 p0.length c_p0)), (10, (.int .i64 (p0.length : Int))), (11, (.int .i64 x991)), (23, (.agg #[(.int .i64 ((rdD p0 x991 z_Tile).N)), (.int .i64 ((rdD p0 x991 z_Tile).E)), (.int .i64 ((rdD p0 x991 z_Tile).S)), (.int .i64 ((rdD p0 x991 z_Tile).W))])), (24, (.int .i64 1)), (26, (.int .i64 ((rdD p0 x991 z_Tile).E)))] [] (fun fb => by kernel_rfl) rfl trivial ?_
                refine WL.setI 24 (eq_of_beq h1127).symm rfl ?_
                refine seg 2 [] [3, 6, 8, 9, 10, 11, 23, 24] [(3, (.slice A988 l990.length c989)), (6, (.slice A1097 l1099.length c1098)), (8, (.int .i64 ((rdD p0 x991 z_Tile).E))), (9, (.slice A_p0 p0.length c_p0)), (10, (.int .i64 (p0.length : Int))), (11, (.int .i64 x991)), (23, (.agg #[(.int .i64 ((rdD p0 x991 z_Tile).N)), (.int .i64 ((rdD p0 x991 z_Tile).E)), (.int .i64 ((rdD p0 x991 z_Tile).S)), (.int .i64 ((rdD p0 x991 z_Tile).W))])), (24, (.int .i64 x1100))] [] (fun fb => by kernel_rfl) rfl trivial ?_
                refine WL.done rfl ?_
                refine WX.next ?_
                refine WC.region ?_
                refine seg 2 [] [3, 9, 10, 11, 23, 24, 27, 28] [(3, (.slice A988 l990.length c989)), (9, (.slice A_p0 p0.length c_p0)), (10, (.int .i64 (p0.length : Int))), (11, (.int .i64 x991)), (23, (.agg #[(.int .i64 ((rdD p0 x991 z_Tile).N)), (.int .i64 ((rdD p0 x991 z_Tile).E)), (.int .i64 ((rdD p0 x991 z_Tile).S)), (.int .i64 ((rdD p0 x991 z_Tile).W))])), (24, (.int .i64 x1100)), (27, (.slice A1097 l1099.length c1098)), (28, (.int .i64 ((rdD p0 x991 z_Tile).E)))] [] (fun fb => by kernel_rfl) rfl trivial ?_
                obtain ⟨t1131, ht1132, hl1109⟩ := bind_some hl1109
                refine WL.call (some 29) 60 #[(.int .i64 ((rdD p0 x991 z_Tile).E))] (fun fb => by kernel_rfl) (itoa_calls Tryd.strconv_Itoa_small ((rdD p0 x991 z_Tile).E) t1131 _ ht1132) (fun v w1129 hR1128 => ?_)
                obtain ⟨rfl, hk_⟩ := hR1128
                have hS1130 := hS1108.keepN hk_
                refine ⟨trivial, ?_⟩
                refine WL.new hS1130 30 [] (fun g => (.slice (some ⟨g, 0, none⟩) 1 1)) (.cells #[(.string t1131)] 9 (0, 0)) [] (fun fb g => by kernel_rfl) trivial (fun g1133 w1134 hS1135 => ?_)
                refine ⟨trivial, ?_⟩
                have hS1137 : St NoS w w1134 [rowR enc_Tile A_p0 c_p0 p0] [rowO 9 encStr (some ⟨g1133, 0, none⟩) 1 [t1131], rowO 9 encStr A988 c989 l990, rowO 9 encStr A1097 c1098 l1099] := hS1135.map1 0 _ (fun h => rowO.ofBlk h rfl (Nat.le_of_ble_eq_true (by kernel_rfl))) (fun _ h => by obtain ⟨_, h1, h2⟩ := h; injection h1 with h1; subst h1; exact h2) [1, 2] (by decide) (by decide)
                obtain ⟨h1138, hl1109⟩ := as_some hl1109
                refine WL.append hS1137 2 (d := 31) (tS := 54) (z := (.string ByteArray.empty)) (bytes := 16) (c2 := 1) rfl (fun fb => by kernel_rfl) (rowO.rd (hS1137.own 0).1) (by kernel_rfl) (by kernel_rfl) rfl (by decide) h1138 (by decide) [0, 1] (by decide) (by decide) (fun A1139 c1140 w1141 hS1142 => ?_)
                refine ⟨trivial, ?_⟩
                refine seg 6 [] [3, 6, 9, 10, 11, 23, 24] [(3, (.slice A988 l990.length c989)), (6, (.slice A1139 (l1099 ++ [t1131]).length c1140)), (9, (.slice A_p0 p0.length c_p0)), (10, (.int .i64 (p0.length : Int))), (11, (.int .i64 x991)), (23, (.agg #[(.int .i64 ((rdD p0 x991 z_Tile).N)), (.int .i64 ((rdD p0 x991 z_Tile).E)), (.int .i64 ((rdD p0 x991 z_Tile).S)), (.int .i64 ((rdD p0 x991 z_Tile).W))])), (24, (.int .i64 x1100))] [] (fun fb => by kernel_rfl) rfl trivial ?_
                refine WL.done rfl ?_
                refine WX.blockN (WX.next ?_)
                refine WC.region ?_
                refine seg 2 [] [3, 6, 9, 10, 11, 23, 24] [(3, (.slice A988 l990.length c989)), (6, (.slice A1139 (l1099 ++ [t1131]).length c1140)), (9, (.slice A_p0 p0.length c_p0)), (10, (.int .i64 (p0.length : Int))), (11, (.int .i64 x991)), (23, (.agg #[(.int .i64 ((rdD p0 x991 z_Tile).N)), (.int .i64 ((rdD p0 x991 z_Tile).E)), (.int .i64 ((rdD p0 x991 z_Tile).S)), (.int .i64 ((rdD p0 x991 z_Tile).W))])), (24, (.int .i64 (w64 (x1100 + 1))))] [] (fun fb => by kernel_rfl) rfl trivial ?_
                refine WL.done rfl ?_
                exact WX.again k1106 (Nat.lt_succ_self _) ((l1099 ++ [t1131], w64 (x1100 + 1)), A1139, c1140) [3, 6, 9, 10, 11, 23, 24] rfl ⟨(hS1142.subR [0]).sub [2, 0] (by decide), hl1109⟩
              rcases br_some hl1109 with ⟨h1143, hl1109⟩ | ⟨h1143, hl1109⟩
              ·
                refine WL.setI 24 (eq_of_beq h1143) rfl ?_
                refine seg 1 [] [3, 6, 9, 10, 11, 23, 24, 26] [(3, (.slice A988 l990.length c989)), (6, (.slice A1097 l1099.length c1098)), (9, (.slice A_p0 p0.length c_p0)), (10, (.int .i64 (p0.length : Int))), (11, (.int .i64 x991)), (23, (.agg #[(.int .i64 ((rdD p0 x991 z_Tile).N)), (.int .i64 ((rdD p0 x991 z_Tile).E)), (.int .i64 ((rdD p0 x991 z_Tile).S)), (.int .i64 ((rdD p0 x991 z_Tile).W))])), (24, (.int .i64 2)), (26, (.int .i64 ((rdD p0 x991 z_Tile).S)))] [] (fun fb => by kernel_rfl) rfl trivial ?_
                refine WL.setI 24 (eq_of_beq h1143).symm rfl ?_
                refine seg 2 [] [3, 6, 8, 9, 10, 11, 23, 24] [(3, (.slice A988 l990.length c989)), (6, (.slice A1097 l1099.length c1098)), (8, (.int .i64 ((rdD p0 x991 z_Tile).S))), (9, (.slice A_p0 p0.length c_p0)), (10, (.int .i64 (p0.length : Int))), (11, (.int .i64 x991)), (23, (.agg #[(.int .i64 ((rdD p0 x991 z_Tile).N)), (.int .i64 ((rdD p0 x991 z_Tile).E)), (.int .i64 ((rdD p0 x991 z_Tile).S)), (.int .i64 ((rdD p0 x991 z_Tile).W))])), (24, (.int .i64 x1100))] [] (fun fb => by kernel_rfl) rfl trivial ?_
                refine WL.done rfl ?_
                refine WX.next ?_
                refine WC.region ?_
                refine seg 2 [] [3, 9, 10, 11, 23, 24, 27, 28] [(3, (.slice A988 l990.length c989)), (9, (.slice A_p0 p0.length c_p0)), (10, (.int .i64 (p0.length : Int))), (11, (.int .i64 x991)), (23, (.agg #[(.int .i64 ((rdD p0 x991 z_Tile).N)), (.int .i64 ((rdD p0 x991 z_Tile).E)), (.int .i64 ((rdD p0 x991 z_Tile).S)), (.int .i64 ((rdD p0 x991 z_Tile).W))])), (24, (.int .i64 x1100)), (27, (.slice A1097 l1099.length c1098)), (28, (.int .i64 ((rdD p0 x991 z_Tile).S)))] [] (fun fb => by kernel_rfl) rfl trivial ?_
                obtain ⟨t1147, ht1148, hl1109⟩ := bind_some hl1109
                refine WL.call (some 29) 60 #[(.int .i64 ((rdD p0 x991 z_Tile).S))] (fun fb => by kernel_rfl) (itoa_calls Tryd.strconv_Itoa_small ((rdD p0 x991 z_Tile).S) t1147 _ ht1148) (fun v w1145 hR1144 => ?_)
                obtain ⟨rfl, hk_⟩ := hR1144
                have hS1146 := hS1108.keepN hk_
                refine ⟨trivial, ?_⟩
                refine WL.new hS1146 30 [] (fun g => (.slice (some ⟨g, 0, none⟩) 1 1)) (.cells #[(.string t1147)] 9 (0, 0)) [] (fun fb g => by kernel_rfl) trivial (fun g1149 w1150 hS1151 => ?_)
                refine ⟨trivial, ?_⟩
                have hS1153 : St NoS w w1150 [rowR enc_Tile A_p0 c_p0 p0] [rowO 9 encStr (some ⟨g1149, 0, none⟩) 1 [t1147], rowO 9 encStr A988 c989 l990, rowO 9 encStr A1097 c1098 l1099] := hS1151.map1 0 _ (fun h => rowO.ofBlk h rfl (Nat.le_of_ble_eq_true (by kernel_rfl))) (fun _ h => by obtain ⟨_, h1, h2⟩ := h; injection h1 with h1; subst h1; exact h2) [1, 2] (by decide) (by decide)
                obtain ⟨h1154, hl1109⟩ := as_some hl1109
                refine WL.append hS1153 2 (d := 31) (tS := 54) (z := (.string ByteArray.empty)) (bytes := 16) (c2 := 1) rfl (fun fb => by kernel_rfl) (rowO.rd (hS1153.own 0).1) (by kernel_rfl) (by kernel_rfl) rfl (by decide) h1154 (by decide) [0, 1] (by decide) (by decide) (fun A1155 c1156 w1157 hS1158 => ?_)
                refine ⟨trivial, ?_⟩
                refine seg 6 [] [3, 6, 9, 10, 11, 23, 24] [(3, (.slice A988 l990.length c989)), (6, (.slice A1155 (l1099 ++ [t1147]).length c1156)), (9, (.slice A_p0 p0.length c_p0)), (10, (.int .i64 (p0.length : Int))), (11, (.int .i64 x991)), (23, (.agg #[(.int .i64 ((rdD p0 x991 z_Tile).N)), (.int .i64 ((rdD p0 x991 z_Tile).E)), (.int .i64 ((rdD p0 x991 z_Tile).S)), (.int .i64 ((rdD p0 x991 z_Tile).W))])), (24, (.int .i64 x1100))] [] (fun fb => by kernel_rfl) rfl trivial ?_
                refine WL.done rfl ?_
                refine WX.blockN (WX.next ?_)
                refine WC.region ?_
                refine seg 2 [] [3, 6, 9, 10, 11, 23, 24] [(3, (.slice A988 l990.length c989)), (6, (.slice A1155 (l1099 ++ [t1147]).length c1156)), (9, (.slice A_p0 p0.length c_p0)), (10, (.int .i64 (p0.length : Int))), (11, (.int .i64 x991)), (23, (.agg #[(.int .i64 ((rdD p0 x991 z_Tile).N)), (.int .i64 ((rdD p0 x991 z_Tile).E)), (.int .i64 ((rdD p0 x991 z_Tile).S)), (.int .i64 ((rdD p0 x991 z_Tile).W))])), (24, (.int .i64 (w64 (x1100 + 1))))] [] (fun fb => by kernel_rfl) rfl trivial ?_
                refine WL.done rfl ?_
                exact WX.again k1106 (Nat.lt_succ_self _) ((l1099 ++ [t1147], w64 (x1100 + 1)), A1155, c1156) [3, 6, 9, 10, 11, 23, 24] rfl ⟨(hS1158.subR [0]).sub [2, 0] (by decide), hl1109⟩
              rcases br_some hl1109 with ⟨h1159, hl1109⟩ | ⟨h1159, hl1109⟩
              ·
                refine WL.setI 24 (eq_of_beq h1159) rfl ?_
                refine seg 1 [] [3, 6, 9, 10, 11, 23, 24, 26] [(3, (.slice A988 l990.length c989)), (6, (.slice A1097 l1099.length c1098)), (9, (.slice A_p0 p0.length c_p0)), (10, (.int .i64 (p0.length : Int))), (11, (.int .i64 x991)), (23, (.agg #[(.int .i64 ((rdD p0 x991 z_Tile).N)), (.int .i64 ((rdD p0 x991 z_Tile).E)), (.int .i64 ((rdD p0 x991 z_Tile).S)), (.int .i64 ((rdD p0 x991 z_Tile).W))])), (24, (.int .i64 3)), (26, (.int .i64 ((rdD p0 x991 z_Tile).W)))] [] (fun fb => by kernel_rfl) rfl trivial ?_
                refine WL.setI 24 (eq_of_beq h1159).symm rfl ?_
                refine seg 2 [] [3, 6, 8, 9, 10, 11, 23, 24] [(3, (.slice A988 l990.length c989)), (6, (.slice A1097 l1099.length c1098)), (8, (.int .i64 ((rdD p0 x991 z_Tile).W))), (9, (.slice A_p0 p0.length c_p0)), (10, (.int .i64 (p0.length : Int))), (11, (.int .i64 x991)), (23, (.agg #[(.int .i64 ((rdD p0 x991 z_Tile).N)), (.int .i64 ((rdD p0 x991 z_Tile).E)), (.int .i64 ((rdD p0 x991 z_Tile).S)), (.int .i64 ((rdD p0 x991 z_Tile).W))])), (24, (.int .i64 x1100))] [] (fun fb => by kernel_rfl) rfl trivial ?_
                refine WL.done rfl ?_
                refine WX.next ?_
                refine WC.region ?_
                refine seg 2 [] [3, 9, 10, 11, 23, 24, 27, 28] [(3, (.slice A988 l990.length c989)), (9, (.slice A_p0 p0.length c_p0)), (10, (.int .i64 (p0.length : Int))), (11, (.int .i64 x991)), (23, (.agg #[(.int .i64 ((rdD p0 x991 z_Tile).N)), (.int .i64 ((rdD p0 x991 z_Tile).E)), (.int .i64 ((rdD p0 x991 z_Tile).S)), (.int .i64 ((rdD p0 x991 z_Tile).W))])), (24, (.int .i64 x1100)), (27, (.slice A1097 l1099.length c1098)), (28, (.int .i64 ((rdD p0 x991 z_Tile).W)))] [] (fun fb => by kernel_rfl) rfl trivial ?_
                obtain ⟨t1163, ht1164, hl1109⟩ := bind_some hl1109
                refine WL.call (some 29) 60 #[(.int .i64 ((rdD p0 x991 z_Tile).W))] (fun fb => by kernel_rfl) (itoa_calls Tryd.strconv_Itoa_small ((rdD p0 x991 z_Tile).W) t1163 _ ht1164) (fun v w1161 hR1160 => ?_)
                obtain ⟨rfl, hk_⟩ := hR1160
                have hS1162 := hS1108.keepN hk_
                refine ⟨trivial, ?_⟩
                refine WL.new hS1162 30 [] (fun g => (.slice (some ⟨g, 0, none⟩) 1 1)) (.cells #[(.string t1163)] 9 (0, 0)) [] (fun fb g => by kernel_rfl) trivial (fun g1165 w1166 hS1167 => ?_)
                refine ⟨trivial, ?_⟩
                have hS1169 : St NoS w w1166 [rowR enc_Tile A_p0 c_p0 p0] [rowO 9 encStr (some ⟨g1165, 0, none⟩) 1 [t1163], rowO 9 encStr A988 c989 l990, rowO 9 encStr A1097 c1098 l1099] := hS1167.map1 0 _ (fun h => rowO.ofBlk h rfl (Nat.le_of_ble_eq_true (by kernel_rfl))) (fun _ h => by obtain ⟨_, h1, h2⟩ := h; injection h1 with h1; subst h1; exact h2) [1, 2] (by decide) (by decide)
                obtain ⟨h1170, hl1109⟩ := as_some hl1109
                refine WL.append hS1169 2 (d := 31) (tS := 54) (z := (.string ByteArray.empty)) (bytes := 16) (c2 := 1) rfl (fun fb => by kernel_rfl) (rowO.rd (hS1169.own 0).1) (by kernel_rfl) (by kernel_rfl) rfl (by decide) h1170 (by decide) [0, 1] (by decide) (by decide) (fun A1171 c1172 w1173 hS1174 => ?_)
                refine ⟨trivial, ?_⟩
                refine seg 6 [] [3, 6, 9, 10, 11, 23, 24] [(3, (.slice A988 l990.length c989)), (6, (.slice A1171 (l1099 ++ [t1163]).length c1172)), (9, (.slice A_p0 p0.length c_p0)), (10, (.int .i64 (p0.length : Int))), (11, (.int .i64 x991)), (23, (.agg #[(.int .i64 ((rdD p0 x991 z_Tile).N)), (.int .i64 ((rdD p0 x991 z_Tile).E)), (.int .i64 ((rdD p0 x991 z_Tile).S)), (.int .i64 ((rdD p0 x991 z_Tile).W))])), (24, (.int .i64 x1100))] [] (fun fb => by kernel_rfl) rfl trivial ?_
                refine WL.done rfl ?_
                refine WX.blockN (WX.next ?_)
                refine WC.region ?_
                refine seg 2 [] [3, 6, 9, 10, 11, 23, 24] [(3, (.slice A988 l990.length c989)), (6, (.slice A1171 (l1099 ++ [t1163]).length c1172)), (9, (.slice A_p0 p0.length c_p0)), (10, (.int .i64 (p0.length : Int))), (11, (.int .i64 x991)), (23, (.agg #[(.int .i64 ((rdD p0 x991 z_Tile).N)), (.int .i64 ((rdD p0 x991 z_Tile).E)), (.int .i64 ((rdD p0 x991 z_Tile).S)), (.int .i64 ((rdD p0 x991 z_Tile).W))])), (24, (.int .i64 (w64 (x1100 + 1))))] [] (fun fb => by kernel_rfl) rfl trivial ?_
                refine WL.done rfl ?_
                exact WX.again k1106 (Nat.lt_succ_self _) ((l1099 ++ [t1163], w64 (x1100 + 1)), A1171, c1172) [3, 6, 9, 10, 11, 23, 24] rfl ⟨(hS1174.subR [0]).sub [2, 0] (by decide), hl1109⟩
              cases hl1109
            refine WC.condF2 (fun fb => by kernel_rfl) h1110 ?_
            refine WC.exit ?_
            injection hl1109 with hl1109
            exact WX.thenX (WX.thenX (WX.blockHere (WX.to Kx1104 (l1099, A1097, c1098) [3, 6, 9, 10, 11] rfl ⟨(hS1108.subR [0]).sub [0, 1] (by decide), hl1109.symm⟩)))
        rintro ⟨y1178, A1101, c1102⟩ w1175 ⟨hS1176, hq1177⟩
        subst hq1177
        refine WX.next ?_
        refine WC.region ?_
        refine seg 2 [] [9, 10, 11, 33, 34] [(9, (.slice A_p0 p0.length c_p0)), (10, (.int .i64 (p0.length : Int))), (11, (.int .i64 x991)), (33, (.slice A988 l990.length c989)), (34, (.slice A1101 x1104.length c1102))] [] (fun fb => by kernel_rfl) rfl trivial ?_
        obtain ⟨t1182, ht1183, hl1000⟩ := bind_some hl1000
        refine WL.call (some 35) 61 #[(.slice A1101 x1104.length c1102), (.string (⟨#[46]⟩ : ByteArray))] (fun fb => by kernel_rfl) (join_calls Tryd.strings_Join Tryd.strings_Join_none x1104 (⟨#[46]⟩ : ByteArray) A1101 c1102 t1182 _ (hS1176.ow 1) ht1183) (fun v w1180 hR1179 => ?_)
        obtain ⟨rfl, hk_⟩ := hR1179
        have hS1181 := hS1176.keepN hk_
        refine ⟨trivial, ?_⟩
        refine WL.new hS1181 36 [] (fun g => (.slice (some ⟨g, 0, none⟩) 1 1)) (.cells #[(.string t1182)] 9 (0, 0)) [] (fun fb g => by kernel_rfl) trivial (fun g1184 w1185 hS1186 => ?_)
        refine ⟨trivial, ?_⟩
        have hS1188 : St NoS w w1185 [rowR enc_Tile A_p0 c_p0 p0] [rowO 9 encStr (some ⟨g1184, 0, none⟩) 1 [t1182], rowO 9 encStr A988 c989 l990, rowO 9 encStr A1101 c1102 x1104] := hS1186.map1 0 _ (fun h => rowO.ofBlk h rfl (Nat.le_of_ble_eq_true (by kernel_rfl))) (fun _ h => by obtain ⟨_, h1, h2⟩ := h; injection h1 with h1; subst h1; exact h2) [1, 2] (by decide) (by decide)
        obtain ⟨h1189, hl1000⟩ := as_some hl1000
        refine WL.append hS1188 1 (d := 37) (tS := 54) (z := (.string ByteArray.empty)) (bytes := 16) (c2 := 1) rfl (fun fb => by kernel_rfl) (rowO.rd (hS1188.own 0).1) (by kernel_rfl) (by kernel_rfl) rfl (by decide) h1189 (by decide) [0, 2] (by decide) (by decide) (fun A1190 c1191 w1192 hS1193 => ?_)
        refine ⟨trivial, ?_⟩
        refine seg 6 [] [3, 9, 10, 11] [(3, (.slice A1190 (l990 ++ [t1182]).length c1191)), (9, (.slice A_p0 p0.length c_p0)), (10, (.int .i64 (p0.length : Int))), (11, (.int .i64 x991))] [] (fun fb => by kernel_rfl) rfl trivial ?_
        refine WL.done rfl ?_
        refine WX.blockN (WX.next ?_)
        refine WC.region ?_
        refine seg 2 [] [3, 9, 10, 11] [(3, (.slice A1190 (l990 ++ [t1182]).length c1191)), (9, (.slice A_p0 p0.length c_p0)), (10, (.int .i64 (p0.length : Int))), (11, (.int .i64 (w64 (x991 + 1))))] [] (fun fb => by kernel_rfl) rfl trivial ?_
        refine WL.done rfl ?_
        exact WX.again k997 (Nat.lt_succ_self _) ((l990 ++ [t1182], w64 (x991 + 1)), A1190, c1191) [3, 9, 10, 11] rfl ⟨(hS1193.subR [0]).sub [0] (by decide), hl1000⟩
      refine WC.condF2 (fun fb => by kernel_rfl) h1001 ?_
      refine WC.exit ?_
      injection hl1000 with hl1000
      exact WX.thenX (WX.thenX (WX.blockHere (WX.to Kx995 (l990, A988, c989) [3] rfl ⟨(hS999.subR [0]).sub [0] (by decide), hl1000.symm⟩)))
  rintro ⟨y1197, A992, c993⟩ w1194 ⟨hS1195, hq1196⟩
  subst hq1196
  refine WX.next ?_
  refine WC.seq ?_
  refine WC.region ?_
  refine seg 1 [] [39] [(39, (.slice A992 x995.length c993))] [] (fun fb => by kernel_rfl) rfl trivial ?_
  obtain ⟨t1201, ht1202, hf⟩ := bind_some hf
  refine WL.call (some 40) 61 #[(.slice A992 x995.length c993), (.string (⟨#[32]⟩ : ByteArray))] (fun fb => by kernel_rfl) (join_calls Tryd.strings_Join Tryd.strings_Join_none x995 (⟨#[32]⟩ : ByteArray) A992 c993 t1201 _ (hS1195.ow 0) ht1202) (fun v w1199 hR1198 => ?_)
  obtain ⟨rfl, hk_⟩ := hR1198
  have hS1200 := hS1195.keepN hk_
  refine ⟨trivial, ?_⟩
  refine seg 3 [] [2] [(2, (.string t1201))] [] (fun fb => by kernel_rfl) rfl trivial ?_
  refine WL.done rfl ?_
  refine WX.next ?_
  refine WC.ret ?_
  injection hf with hf
  subst hf
  exact WX.ret_ [] (.string t1201) [] (fun fb => by kernel_rfl) trivial ⟨_, rfl, rfl, hS1200.keep⟩
theorem tile_Parse_calls (k : Nat) (p0 : ByteArray) (mG : Int) (r : (List Tile) × Int) (w : World) (hR0 : RO NoS w (cel ⟨2, 0, none⟩ (.int .i64 mG))) (hf : tile_Parse k p0 = some r) :
    CallsR Tryd.prog 9 #[(.string p0)] w (fun v w' => ∃ (A1_ : Option Addr), ∃ (c1_ : Nat), v = (.tuple #[(.slice A1_ r.1.length c1_), (.int .i64 r.2)]) ∧ St NoS w w' [] [rowO 62 enc_Tile A1_ c1_ r.1]) := by
  have hS : St NoS w w [cel ⟨2, 0, none⟩ (.int .i64 mG)] [] := St.init (ro_cons hR0 (ro_nil _ _))
  refine enter 76 Tryd.func9 rfl Tryd.ntmps9 rfl ?_
  unfold tile_Parse at hf
  refine WC.seq ?_
  refine WC.region ?_
  refine seg 2 [] [0] [(0, (.string p0))] [] (fun fb => by kernel_rfl) rfl trivial ?_
  refine WL.done rfl ?_
  refine WX.next ?_
  refine WC.seq ?_
  refine WC.region ?_
  refine seg 1 [] [0, 4] [(0, (.string p0)), (4, (.slice none 0 0))] [] (fun fb => by kernel_rfl) rfl trivial ?_
  refine WL.done rfl ?_
  refine WX.next ?_
  refine WC.seq ?_
  refine WC.seq ?_
  refine WC.region ?_
  refine seg 1 [] [0, 4, 13] [(0, (.string p0)), (4, (.slice none 0 0)), (13, (.string p0))] [] (fun fb => by kernel_rfl) rfl trivial ?_
  refine seg 2 [] [0, 4, 14] [(0, (.string p0)), (4, (.slice none 0 0)), (14, (.bool (p0.toList == (⟨#[]⟩ : ByteArray).toList)))] [] (fun fb => by kernel_rfl) rfl trivial ?_
  refine WL.setB 14 (strEq_raw p0 (⟨#[]⟩ : ByteArray)) rfl ?_
  refine WL.done rfl ?_
  refine WX.next ?_
  rcases br_some hf with ⟨h13, hf⟩ | ⟨h13, hf⟩
  · refine WC.condT2 (fun fb => by kernel_rfl) h13 ?_
    refine WC.seq ?_
    refine WC.region ?_
    refine seg 2 [] [2, 3] [(2, (.slice none 0 0)), (3, (.int .i64 0))] [] (fun fb => by kernel_rfl) rfl trivial ?_
    refine WL.done rfl ?_
    refine WX.next ?_
    refine WC.ret ?_
    have hS14 := hS.nilrow 62 enc_Tile
    injection hf with hf
    subst hf
    exact WX.thenR (WX.ret_ [] (.tuple #[(.slice none ([] : List Tile).length 0), (.int .i64 0)]) [] (fun fb => by kernel_rfl) trivial ⟨_, rfl, none, 0, rfl, (hS14.sub [0] (by decide)).noR⟩)
  refine WC.condF2 (fun fb => by kernel_rfl) h13 ?_
  refine WC.skip ?_
  refine WX.next ?_
  refine WC.seq ?_
  refine WC.seq ?_
  refine WC.region ?_
  refine seg 3 [] [0, 4, 17] [(0, (.string p0)), (4, (.slice none 0 0)), (17, (.bool (decide ((p0.size : Int) > 16000))))] [] (fun fb => by kernel_rfl) rfl trivial ?_
  refine WL.done rfl ?_
  refine WX.next ?_
  rcases br_some hf with ⟨h15, hf⟩ | ⟨h15, hf⟩
  · refine WC.condT2 (fun fb => by kernel_rfl) h15 ?_
    refine WC.seq ?_
    refine WC.region ?_
    refine seg 2 [] [2, 3] [(2, (.slice none 0 0)), (3, (.int .i64 3))] [] (fun fb => by kernel_rfl) rfl trivial ?_
    refine WL.done rfl ?_
    refine WX.next ?_
    refine WC.ret ?_
    have hS16 := hS.nilrow 62 enc_Tile
    injection hf with hf
    subst hf
    exact WX.thenR (WX.ret_ [] (.tuple #[(.slice none ([] : List Tile).length 0), (.int .i64 3)]) [] (fun fb => by kernel_rfl) trivial ⟨_, rfl, none, 0, rfl, (hS16.sub [0] (by decide)).noR⟩)
  refine WC.condF2 (fun fb => by kernel_rfl) h15 ?_
  refine WC.skip ?_
  refine WX.next ?_
  refine WC.seq ?_
  refine WC.seq ?_
  refine WC.region ?_
  refine seg 1 [] [0, 4, 18] [(0, (.string p0)), (4, (.slice none 0 0)), (18, (.string p0))] [] (fun fb => by kernel_rfl) rfl trivial ?_
  obtain ⟨h20, hf⟩ := as_some hf
  refine WL.call (some 19) 41 #[(.string p0), (.string (⟨#[32]⟩ : ByteArray))] (fun fb => by kernel_rfl) (split_calls Tryd.strings_Split p0 (⟨#[32]⟩ : ByteArray) mG _ (hS.rd 0) h20) (fun v w18 hR17 => ?_)
  obtain ⟨A21, c22, rfl, hk_⟩ := hR17
  have hS19 : St NoS w w18 [cel ⟨2, 0, none⟩ (.int .i64 mG)] [rowO 9 encStr A21 c22 (splitP p0 (⟨#[32]⟩ : ByteArray))] := hS.call hk_ [] [] (fun g hg => hg.elim) (by simp) (by decide)
  refine ⟨trivial, ?_⟩
  refine seg 4 [] [0, 4, 19, 20, 21] [(0, (.string p0)), (4, (.slice none 0 0)), (19, (.slice A21 (splitP p0 (⟨#[32]⟩ : ByteArray)).length c22)), (20, (.int .i64 ((splitP p0 (⟨#[32]⟩ : ByteArray)).length : Int))), (21, (.int .i64 0))] [] (fun fb => by kernel_rfl) rfl trivial ?_
  refine WL.done rfl ?_
  refine WX.next ?_
  have hS265 := hS19.nilrow 62 enc_Tile
  obtain ⟨x273, hx274, hf⟩ := bind_some hf
  refine WC.cutN (T := (List Tile) × (Option Addr) × Nat) (fun t => [(0, (.string p0)), (4, (.slice t.2.1 t.1.length t.2.2))]) (fun t w1 => St NoS w w1 [cel ⟨2, 0, none⟩ (.int .i64 mG)] [rowO 62 enc_Tile t.2.1 t.2.2 t.1] ∧ x273 = .inr t.1) (fun Kx273 => ?_) ?_
  ·
    refine WC.block ?_
    refine WC.loop (T := ((List Tile) × Int) × (Option Addr) × Nat) (fun t => [(0, (.string p0)), (4, (.slice t.2.1 t.1.1.length t.2.2)), (19, (.slice A21 (splitP p0 (⟨#[32]⟩ : ByteArray)).length c22)), (20, (.int .i64 ((splitP p0 (⟨#[32]⟩ : ByteArray)).length : Int))), (21, (.int .i64 t.1.2))]) (fun n t w1 => St NoS w w1 [cel ⟨2, 0, none⟩ (.int .i64 mG)] [rowO 62 enc_Tile t.2.1 t.2.2 t.1.1, rowO 9 encStr A21 c22 (splitP p0 (⟨#[32]⟩ : ByteArray))] ∧ tile_Parse.l0 n t.1.1 t.1.2 p0 = some x273) k ((([] : List Tile), 0), none, 0) [0, 4, 19, 20, 21] rfl ⟨(hS265.subR [0]).sub [0, 1] (by decide), hx274⟩ ?_
    rintro k275 ⟨⟨l268, x269⟩, A266, c267⟩ w276 ⟨hS277, hl278⟩
    cases k275 with
    | zero => rw [tile_Parse.l0] at hl278; cases hl278
    | succ k275 =>
      rw [tile_Parse.l0] at hl278
      refine WC.seq ?_
      refine WC.region ?_
      refine seg 1 [] [0, 4, 19, 20, 21, 22] [(0, (.string p0)), (4, (.slice A266 l268.length c267)), (19, (.slice A21 (splitP p0 (⟨#[32]⟩ : ByteArray)).length c22)), (20, (.int .i64 ((splitP p0 (⟨#[32]⟩ : ByteArray)).length : Int))), (21, (.int .i64 x269)), (22, (.bool (decide (x269 < ((splitP p0 (⟨#[32]⟩ : ByteArray)).length : Int)))))] [] (fun fb => by kernel_rfl) rfl trivial ?_
      refine WL.done rfl ?_
      refine WX.next ?_
      refine WC.seq ?_
      rcases br_some hl278 with ⟨h279, hl278⟩ | ⟨h279, hl278⟩
      · refine WC.condT2 (fun fb => by kernel_rfl) h279 ?_
        refine WC.skip ?_
        refine WX.next ?_
        refine WC.seq ?_
        refine WC.block ?_
        refine WC.seq ?_
        refine WC.region ?_
        obtain ⟨h280, hl278⟩ := as_some hl278
        refine seg 3 [.v (.string (rdD (splitP p0 (⟨#[32]⟩ : ByteArray)) x269 ByteArray.empty))] [0, 4, 6, 19, 20, 21] [(0, (.string p0)), (4, (.slice A266 l268.length c267)), (6, (.string (rdD (splitP p0 (⟨#[32]⟩ : ByteArray)) x269 ByteArray.empty))), (19, (.slice A21 (splitP p0 (⟨#[32]⟩ : ByteArray)).length c22)), (20, (.int .i64 ((splitP p0 (⟨#[32]⟩ : ByteArray)).length : Int))), (21, (.int .i64 x269))] [.idx A21 x269 (splitP p0 (⟨#[32]⟩ : ByteArray)).length, .cell ((adr A21).add ((x269).toNat * 1)) (.string (rdD (splitP p0 (⟨#[32]⟩ : ByteArray)) x269 ByteArray.empty))] (fun fb => by kernel_rfl) rfl ⟨rowR.adr (rowO.rd (hS277.own 1).1) h280.1 h280.2, rowR.cell (rowO.rd (hS277.own 1).1) ByteArray.empty h280.1 h280.2 0 rfl, trivial⟩ ?_
        refine WL.done rfl ?_
        refine WX.next ?_
        refine WC.seq ?_
        refine WC.region ?_
        refine seg 1 [] [0, 4, 19, 20, 21, 25] [(0, (.string p0)), (4, (.slice A266 l268.length c267)), (19, (.slice A21 (splitP p0 (⟨#[32]⟩ : ByteArray)).length c22)), (20, (.int .i64 ((splitP p0 (⟨#[32]⟩ : ByteArray)).length : Int))), (21, (.int .i64 x269)), (25, (.string (rdD (splitP p0 (⟨#[32]⟩ : ByteArray)) x269 ByteArray.empty)))] [] (fun fb => by kernel_rfl) rfl trivial ?_
        obtain ⟨h284, hl278⟩ := as_some hl278
        refine WL.call (some 26) 41 #[(.string (rdD (splitP p0 (⟨#[32]⟩ : ByteArray)) x269 ByteArray.empty)), (.string (⟨#[46]⟩ : ByteArray))] (fun fb => by kernel_rfl) (split_calls Tryd.strings_Split (rdD (splitP p0 (⟨#[32]⟩ : ByteArray)) x269 ByteArray.empty) (⟨#[46]⟩ : ByteArray) mG _ (hS277.rd 0) h284) (fun v w282 hR281 => ?_)
        obtain ⟨A285, c286, rfl, hk_⟩ := hR281
        have hS283 : St NoS w w282 [cel ⟨2, 0, none⟩ (.int .i64 mG)] [rowO 9 encStr A285 c286 (splitP (rdD (splitP p0 (⟨#[32]⟩ : ByteArray)) x269 ByteArray.empty) (⟨#[46]⟩ : ByteArray)), rowO 62 enc_Tile A266 c267 l268, rowO 9 encStr A21 c22 (splitP p0 (⟨#[32]⟩ : ByteArray))] := hS277.call hk_ [] [0, 1] (fun g hg => hg.elim) (by simp) (by decide)
        refine ⟨trivial, ?_⟩
        refine seg 3 [] [0, 4, 7, 19, 20, 21] [(0, (.string p0)), (4, (.slice A266 l268.length c267)), (7, (.slice A285 (splitP (rdD (splitP p0 (⟨#[32]⟩ : ByteArray)) x269 ByteArray.empty) (⟨#[46]⟩ : ByteArray)).length c286)), (19, (.slice A21 (splitP p0 (⟨#[32]⟩ : ByteArray)).length c22)), (20, (.int .i64 ((splitP p0 (⟨#[32]⟩ : ByteArray)).length : Int))), (21, (.int .i64 x269))] [] (fun fb => by kernel_rfl) rfl trivial ?_
        refine WL.done rfl ?_
        refine WX.next ?_
        refine WC.seq ?_
        refine WC.seq ?_
        refine WC.region ?_
        refine seg 4 [] [0, 4, 7, 19, 20, 21, 30] [(0, (.string p0)), (4, (.slice A266 l268.length c267)), (7, (.slice A285 (splitP (rdD (splitP p0 (⟨#[32]⟩ : ByteArray)) x269 ByteArray.empty) (⟨#[46]⟩ : ByteArray)).length c286)), (19, (.slice A21 (splitP p0 (⟨#[32]⟩ : ByteArray)).length c22)), (20, (.int .i64 ((splitP p0 (⟨#[32]⟩ : ByteArray)).length : Int))), (21, (.int .i64 x269)), (30, (.bool (((splitP (rdD (splitP p0 (⟨#[32]⟩ : ByteArray)) x269 ByteArray.empty) (⟨#[46]⟩ : ByteArray)).length : Int) != 4)))] [] (fun fb => by kernel_rfl) rfl trivial ?_
        refine WL.cutV (T := Bool) 8 (fun t => [(34, (.bool t)), (0, (.string p0)), (4, (.slice A266 l268.length c267)), (7, (.slice A285 (splitP (rdD (splitP p0 (⟨#[32]⟩ : ByteArray)) x269 ByteArray.empty) (⟨#[46]⟩ : ByteArray)).length c286)), (19, (.slice A21 (splitP p0 (⟨#[32]⟩ : ByteArray)).length c22)), (20, (.int .i64 ((splitP p0 (⟨#[32]⟩ : ByteArray)).length : Int))), (21, (.int .i64 x269))]) (fun t => t = ((((splitP (rdD (splitP p0 (⟨#[32]⟩ : ByteArray)) x269 ByteArray.empty) (⟨#[46]⟩ : ByteArray)).length : Int) != 4) || (decide ((l268.length : Int) > 1000)))) (fun K => ?_) ?_
        ·
          rcases Bool.eq_false_or_eq_true (((splitP (rdD (splitP p0 (⟨#[32]⟩ : ByteArray)) x269 ByteArray.empty) (⟨#[46]⟩ : ByteArray)).length : Int) != 4) with h287 | h287
          ·
            refine WL.setB 30 h287 rfl ?_
            refine seg 8 [] [0, 4, 7, 19, 20, 21, 34] [(0, (.string p0)), (4, (.slice A266 l268.length c267)), (7, (.slice A285 (splitP (rdD (splitP p0 (⟨#[32]⟩ : ByteArray)) x269 ByteArray.empty) (⟨#[46]⟩ : ByteArray)).length c286)), (19, (.slice A21 (splitP p0 (⟨#[32]⟩ : ByteArray)).length c22)), (20, (.int .i64 ((splitP p0 (⟨#[32]⟩ : ByteArray)).length : Int))), (21, (.int .i64 x269)), (34, (.bool true))] [] (fun fb => by kernel_rfl) rfl trivial ?_
            exact WL.toV K true [34, 0, 4, 7, 19, 20, 21] rfl (by first | (rw [h287]; done) | (rw [h287]; rfl))
          refine WL.setB 30 h287 rfl ?_
          refine seg 8 [] [0, 4, 7, 19, 20, 21, 34] [(0, (.string p0)), (4, (.slice A266 l268.length c267)), (7, (.slice A285 (splitP (rdD (splitP p0 (⟨#[32]⟩ : ByteArray)) x269 ByteArray.empty) (⟨#[46]⟩ : ByteArray)).length c286)), (19, (.slice A21 (splitP p0 (⟨#[32]⟩ : ByteArray)).length c22)), (20, (.int .i64 ((splitP p0 (⟨#[32]⟩ : ByteArray)).length : Int))), (21, (.int .i64 x269)), (34, (.bool (decide ((l268.length : Int) > 1000))))] [] (fun fb => by kernel_rfl) rfl trivial ?_
          exact WL.toV K (decide ((l268.length : Int) > 1000)) [34, 0, 4, 7, 19, 20, 21] rfl (by first | (rw [h287]; done) | (rw [h287]; rfl))
        rintro b288 rfl
        refine WL.done rfl ?_
        refine WX.next ?_
        rcases br_some hl278 with ⟨h289, hl278⟩ | ⟨h289, hl278⟩
        · refine WC.condT2 (fun fb => by kernel_rfl) h289 ?_
          refine WC.seq ?_
          refine WC.region ?_
          refine seg 2 [] [2, 3] [(2, (.slice none 0 0)), (3, (.int .i64 3))] [] (fun fb => by kernel_rfl) rfl trivial ?_
          refine WL.done rfl ?_
          refine WX.next ?_
          refine WC.ret ?_
          have hS290 := hS283.nilrow 62 enc_Tile
          injection hl278 with hl278
          subst hl278
          injection hf with hf
          subst hf
          exact WX.thenR (WX.blockR (WX.thenR (WX.thenR (WX.blockR (WX.thenR (WX.ret_ [] (.tuple #[(.slice none ([] : List Tile).length 0), (.int .i64 3)]) [] (fun fb => by kernel_rfl) trivial ⟨_, rfl, none, 0, rfl, (hS290.sub [0] (by decide)).noR⟩))))))
        refine WC.condF2 (fun fb => by kernel_rfl) h289 ?_
        refine WC.skip ?_
        refine WX.next ?_
        refine WC.seq ?_
        refine WC.region ?_
        refine WL.new hS283 8 [] (fun g => (.pointer (some ⟨g, 0, none⟩))) (.cells #[(.int .i64 0), (.int .i64 0), (.int .i64 0), (.int .i64 0)] 56 (0, 0)) [] (fun fb g => by kernel_rfl) trivial (fun g291 w292 hS293 => ?_)
        refine ⟨trivial, ?_⟩
        refine WL.done rfl ?_
        refine WX.next ?_
        refine WC.seq ?_
        refine WC.seq ?_
        refine WC.region ?_
        refine seg 3 [] [0, 4, 8, 19, 20, 21, 35, 36, 37] [(0, (.string p0)), (4, (.slice A266 l268.length c267)), (8, (.pointer (some ⟨g291, 0, none⟩))), (19, (.slice A21 (splitP p0 (⟨#[32]⟩ : ByteArray)).length c22)), (20, (.int .i64 ((splitP p0 (⟨#[32]⟩ : ByteArray)).length : Int))), (21, (.int .i64 x269)), (35, (.slice A285 (splitP (rdD (splitP p0 (⟨#[32]⟩ : ByteArray)) x269 ByteArray.empty) (⟨#[46]⟩ : ByteArray)).length c286)), (36, (.int .i64 ((splitP (rdD (splitP p0 (⟨#[32]⟩ : ByteArray)) x269 ByteArray.empty) (⟨#[46]⟩ : ByteArray)).length : Int))), (37, (.int .i64 0))] [] (fun fb => by kernel_rfl) rfl trivial ?_
        refine WL.done rfl ?_
        refine WX.next ?_
        obtain ⟨x358, hx359, hl278⟩ := bind_some hl278
        refine WC.cutN (T := Int × Int × Int × Int) (fun t => [(0, (.string p0)), (4, (.slice A266 l268.length c267)), (8, (.pointer (some ⟨g291, 0, none⟩))), (19, (.slice A21 (splitP p0 (⟨#[32]⟩ : ByteArray)).length c22)), (20, (.int .i64 ((splitP p0 (⟨#[32]⟩ : ByteArray)).length : Int))), (21, (.int .i64 x269))]) (fun t w1 => St NoS w w1 [cel ⟨2, 0, none⟩ (.int .i64 mG)] [rowO 62 enc_Tile A266 c267 l268, blk g291 (.cells #[(.int .i64 t.1), (.int .i64 t.2.1), (.int .i64 t.2.2.1), (.int .i64 t.2.2.2)] 56 (0, 0)), rowO 9 encStr A21 c22 (splitP p0 (⟨#[32]⟩ : ByteArray))] ∧ x358 = t) (fun Kx358 => ?_) ?_
        ·
          refine WC.block ?_
          refine WC.loop (T := Int × Int × Int × Int × Int) (fun t => [(0, (.string p0)), (4, (.slice A266 l268.length c267)), (8, (.pointer (some ⟨g291, 0, none⟩))), (19, (.slice A21 (splitP p0 (⟨#[32]⟩ : ByteArray)).length c22)), (20, (.int .i64 ((splitP p0 (⟨#[32]⟩ : ByteArray)).length : Int))), (21, (.int .i64 x269)), (35, (.slice A285 (splitP (rdD (splitP p0 (⟨#[32]⟩ : ByteArray)) x269 ByteArray.empty) (⟨#[46]⟩ : ByteArray)).length c286)), (36, (.int .i64 ((splitP (rdD (splitP p0 (⟨#[32]⟩ : ByteArray)) x269 ByteArray.empty) (⟨#[46]⟩ : ByteArray)).length : Int))), (37, (.int .i64 t.2.2.2.2))]) (fun n t w1 => St NoS w w1 [cel ⟨2, 0, none⟩ (.int .i64 mG)] [rowO 62 enc_Tile A266 c267 l268, blk g291 (.cells #[(.int .i64 t.1), (.int .i64 t.2.1), (.int .i64 t.2.2.1), (.int .i64 t.2.2.2.1)] 56 (0, 0)), rowO 9 encStr A21 c22 (splitP p0 (⟨#[32]⟩ : ByteArray)), rowO 9 encStr A285 c286 (splitP (rdD (splitP p0 (⟨#[32]⟩ : ByteArray)) x269 ByteArray.empty) (⟨#[46]⟩ : ByteArray))] ∧ tile_Parse.l1 n t.1 t.2.1 t.2.2.1 t.2.2.2.1 t.2.2.2.2 p0 x269 = some x358) k275 (0, 0, 0, 0, 0) [0, 4, 8, 19, 20, 21, 35, 36, 37] rfl ⟨(hS293.subR [0]).sub [2, 0, 3, 1] (by decide), hx359⟩ ?_
          rintro k360 ⟨x349, x350, x351, x352, x353⟩ w361 ⟨hS362, hl363⟩
          cases k360 with
          | zero => rw [tile_Parse.l1] at hl363; cases hl363
          | succ k360 =>
            rw [tile_Parse.l1] at hl363
            refine WC.seq ?_
            refine WC.region ?_
            refine seg 1 [] [0, 4, 8, 19, 20, 21, 35, 36, 37, 38] [(0, (.string p0)), (4, (.slice A266 l268.length c267)), (8, (.pointer (some ⟨g291, 0, none⟩))), (19, (.slice A21 (splitP p0 (⟨#[32]⟩ : ByteArray)).length c22)), (20, (.int .i64 ((splitP p0 (⟨#[32]⟩ : ByteArray)).length : Int))), (21, (.int .i64 x269)), (35, (.slice A285 (splitP (rdD (splitP p0 (⟨#[32]⟩ : ByteArray)) x269 ByteArray.empty) (⟨#[46]⟩ : ByteArray)).length c286)), (36, (.int .i64 ((splitP (rdD (splitP p0 (⟨#[32]⟩ : ByteArray)) x269 ByteArray.empty) (⟨#[46]⟩ : ByteArray)).length : Int))), (37, (.int .i64 x353)), (38, (.bool (decide (x353 < ((splitP (rdD (splitP p0 (⟨#[32]⟩ : ByteArray)) x269 ByteArray.empty) (⟨#[46]⟩ : ByteArray)).length : Int)))))] [] (fun fb => by kernel_rfl) rfl trivial ?_
            refine WL.done rfl ?_
            refine WX.next ?_
            refine WC.seq ?_
            rcases br_some hl363 with ⟨h364, hl363⟩ | ⟨h364, hl363⟩
            · refine WC.condT2 (fun fb => by kernel_rfl) h364 ?_
              refine WC.skip ?_
              refine WX.next ?_
              refine WC.seq ?_
              refine WC.block ?_
              refine WC.seq ?_
              refine WC.region ?_
              refine seg 1 [] [0, 4, 8, 19, 20, 21, 35, 36, 37, 39] [(0, (.string p0)), (4, (.slice A266 l268.length c267)), (8, (.pointer (some ⟨g291, 0, none⟩))), (19, (.slice A21 (splitP p0 (⟨#[32]⟩ : ByteArray)).length c22)), (20, (.int .i64 ((splitP p0 (⟨#[32]⟩ : ByteArray)).length : Int))), (21, (.int .i64 x269)), (35, (.slice A285 (splitP (rdD (splitP p0 (⟨#[32]⟩ : ByteArray)) x269 ByteArray.empty) (⟨#[46]⟩ : ByteArray)).length c286)), (36, (.int .i64 ((splitP (rdD (splitP p0 (⟨#[32]⟩ : ByteArray)) x269 ByteArray.empty) (⟨#[46]⟩ : ByteArray)).length : Int))), (37, (.int .i64 x353)), (39, (.int .i64 x353))] [] (fun fb => by kernel_rfl) rfl trivial ?_
              obtain ⟨h365, hl363⟩ := as_some hl363
              refine seg 5 [.v (.string (rdD (splitP (rdD (splitP p0 (⟨#[32]⟩ : ByteArray)) x269 ByteArray.empty) (⟨#[46]⟩ : ByteArray)) x353 ByteArray.empty))] [0, 4, 8, 9, 10, 19, 20, 21, 35, 36, 37] [(0, (.string p0)), (4, (.slice A266 l268.length c267)), (8, (.pointer (some ⟨g291, 0, none⟩))), (9, (.int .i64 x353)), (10, (.string (rdD (splitP (rdD (splitP p0 (⟨#[32]⟩ : ByteArray)) x269 ByteArray.empty) (⟨#[46]⟩ : ByteArray)) x353 ByteArray.empty))), (19, (.slice A21 (splitP p0 (⟨#[32]⟩ : ByteArray)).length c22)), (20, (.int .i64 ((splitP p0 (⟨#[32]⟩ : ByteArray)).length : Int))), (21, (.int .i64 x269)), (35, (.slice A285 (splitP (rdD (splitP p0 (⟨#[32]⟩ : ByteArray)) x269 ByteArray.empty) (⟨#[46]⟩ : ByteArray)).length c286)), (36, (.int .i64 ((splitP (rdD (splitP p0 (⟨#[32]⟩ : ByteArray)) x269 ByteArray.empty) (⟨#[46]⟩ : ByteArray)).length : Int))), (37, (.int .i64 x353))] [.idx A285 x353 (splitP (rdD (splitP p0 (⟨#[32]⟩ : ByteArray)) x269 ByteArray.empty) (⟨#[46]⟩ : ByteArray)).length, .cell ((adr A285).add ((x353).toNat * 1)) (.string (rdD (splitP (rdD (splitP p0 (⟨#[32]⟩ : ByteArray)) x269 ByteArray.empty) (⟨#[46]⟩ : ByteArray)) x353 ByteArray.empty))] (fun fb => by kernel_rfl) rfl ⟨rowR.adr (rowO.rd (hS362.own 3).1) h365.1 h365.2, rowR.cell (rowO.rd (hS362.own 3).1) ByteArray.empty h365.1 h365.2 0 rfl, trivial⟩ ?_
              refine WL.done rfl ?_
              refine WX.next ?_
              refine WC.seq ?_
              refine WC.region ?_
              refine seg 1 [] [0, 4, 8, 9, 19, 20, 21, 35, 36, 37, 43] [(0, (.string p0)), (4, (.slice A266 l268.length c267)), (8, (.pointer (some ⟨g291, 0, none⟩))), (9, (.int .i64 x353)), (19, (.slice A21 (splitP p0 (⟨#[32]⟩ : ByteArray)).length c22)), (20, (.int .i64 ((splitP p0 (⟨#[32]⟩ : ByteArray)).length : Int))), (21, (.int .i64 x269)), (35, (.slice A285 (splitP (rdD (splitP p0 (⟨#[32]⟩ : ByteArray)) x269 ByteArray.empty) (⟨#[46]⟩ : ByteArray)).length c286)), (36, (.int .i64 ((splitP (rdD (splitP p0 (⟨#[32]⟩ : ByteArray)) x269 ByteArray.empty) (⟨#[46]⟩ : ByteArray)).length : Int))), (37, (.int .i64 x353)), (43, (.string (rdD (splitP (rdD (splitP p0 (⟨#[32]⟩ : ByteArray)) x269 ByteArray.empty) (⟨#[46]⟩ : ByteArray)) x353 ByteArray.empty)))] [] (fun fb => by kernel_rfl) rfl trivial ?_
              obtain ⟨t369, ht370, hl363⟩ := bind_some hl363
              refine WL.call (some 44) 42 #[(.string (rdD (splitP (rdD (splitP p0 (⟨#[32]⟩ : ByteArray)) x269 ByteArray.empty) (⟨#[46]⟩ : ByteArray)) x353 ByteArray.empty))] (fun fb => by kernel_rfl) (atoi_calls Tryd.strconv_Atoi_ok (rdD (splitP (rdD (splitP p0 (⟨#[32]⟩ : ByteArray)) x269 ByteArray.empty) (⟨#[46]⟩ : ByteArray)) x353 ByteArray.empty) t369 _ ht370) (fun v w367 hR366 => ?_)
              obtain ⟨rfl, hk_⟩ := hR366
              have hS368 := hS362.keepN hk_
              refine ⟨trivial, ?_⟩
              refine seg 7 [] [0, 4, 8, 9, 11, 12, 19, 20, 21, 35, 36, 37] [(0, (.string p0)), (4, (.slice A266 l268.length c267)), (8, (.pointer (some ⟨g291, 0, none⟩))), (9, (.int .i64 x353)), (11, (.int .i64 t369)), (12, .nilIface), (19, (.slice A21 (splitP p0 (⟨#[32]⟩ : ByteArray)).length c22)), (20, (.int .i64 ((splitP p0 (⟨#[32]⟩ : ByteArray)).length : Int))), (21, (.int .i64 x269)), (35, (.slice A285 (splitP (rdD (splitP p0 (⟨#[32]⟩ : ByteArray)) x269 ByteArray.empty) (⟨#[46]⟩ : ByteArray)).length c286)), (36, (.int .i64 ((splitP (rdD (splitP p0 (⟨#[32]⟩ : ByteArray)) x269 ByteArray.empty) (⟨#[46]⟩ : ByteArray)).length : Int))), (37, (.int .i64 x353))] [] (fun fb => by kernel_rfl) rfl trivial ?_
              refine WL.done rfl ?_
              refine WX.next ?_
              refine WC.seq ?_
              refine WC.seq ?_
              refine WC.region ?_
              refine seg 2 [] [0, 4, 8, 9, 11, 19, 20, 21, 35, 36, 37, 48] [(0, (.string p0)), (4, (.slice A266 l268.length c267)), (8, (.pointer (some ⟨g291, 0, none⟩))), (9, (.int .i64 x353)), (11, (.int .i64 t369)), (19, (.slice A21 (splitP p0 (⟨#[32]⟩ : ByteArray)).length c22)), (20, (.int .i64 ((splitP p0 (⟨#[32]⟩ : ByteArray)).length : Int))), (21, (.int .i64 x269)), (35, (.slice A285 (splitP (rdD (splitP p0 (⟨#[32]⟩ : ByteArray)) x269 ByteArray.empty) (⟨#[46]⟩ : ByteArray)).length c286)), (36, (.int .i64 ((splitP (rdD (splitP p0 (⟨#[32]⟩ : ByteArray)) x269 ByteArray.empty) (⟨#[46]⟩ : ByteArray)).length : Int))), (37, (.int .i64 x353)), (48, (.bool false))] [] (fun fb => by kernel_rfl) rfl trivial ?_
              refine WL.done rfl ?_
              refine WX.next ?_
              refine WC.condF (fun fb => by kernel_rfl) ?_
              refine WC.skip ?_
              refine WX.next ?_
              refine WC.region ?_
              refine seg 2 [] [0, 4, 8, 19, 20, 21, 35, 36, 37, 49, 50] [(0, (.string p0)), (4, (.slice A266 l268.length c267)), (8, (.pointer (some ⟨g291, 0, none⟩))), (19, (.slice A21 (splitP p0 (⟨#[32]⟩ : ByteArray)).length c22)), (20, (.int .i64 ((splitP p0 (⟨#[32]⟩ : ByteArray)).length : Int))), (21, (.int .i64 x269)), (35, (.slice A285 (splitP (rdD (splitP p0 (⟨#[32]⟩ : ByteArray)) x269 ByteArray.empty) (⟨#[46]⟩ : ByteArray)).length c286)), (36, (.int .i64 ((splitP (rdD (splitP p0 (⟨#[32]⟩ : ByteArray)) x269 ByteArray.empty) (⟨#[46]⟩ : ByteArray)).length : Int))), (37, (.int .i64 x353)), (49, (.int .i64 x353)), (50, (.int .i64 t369))] [] (fun fb => by kernel_rfl) rfl trivial ?_
              rcases br_some hl363 with ⟨h371, hl363⟩ | ⟨h371, hl363⟩
              ·
                refine WL.setI 49 (eq_of_beq h371) rfl ?_
                refine seg 3 [] [0, 4, 8, 19, 20, 21, 35, 36, 37, 50, 51] [(0, (.string p0)), (4, (.slice A266 l268.length c267)), (8, (.pointer (some ⟨g291, 0, none⟩))), (19, (.slice A21 (splitP p0 (⟨#[32]⟩ : ByteArray)).length c22)), (20, (.int .i64 ((splitP p0 (⟨#[32]⟩ : ByteArray)).length : Int))), (21, (.int .i64 x269)), (35, (.slice A285 (splitP (rdD (splitP p0 (⟨#[32]⟩ : ByteArray)) x269 ByteArray.empty) (⟨#[46]⟩ : ByteArray)).length c286)), (36, (.int .i64 ((splitP (rdD (splitP p0 (⟨#[32]⟩ : ByteArray)) x269 ByteArray.empty) (⟨#[46]⟩ : ByteArray)).length : Int))), (37, (.int .i64 x353)), (50, (.int .i64 t369)), (51, (.pointer (some ⟨g291, 0, none⟩)))] [] (fun fb => by kernel_rfl) rfl trivial ?_
                refine WL.store hS368 1 rfl [(0, (.int .i64 t369))] #[(.int .i64 t369), (.int .i64 x350), (.int .i64 x351), (.int .i64 x352)] (fun fb => by kernel_rfl) (by kernel_rfl) rfl [0, 2, 3] (by decide) (by decide) (fun w372 hS373 => ?_)
                refine ⟨trivial, ?_⟩
                refine WL.done rfl ?_
                refine WX.blockN (WX.next ?_)
                refine WC.region ?_
                refine seg 2 [] [0, 4, 8, 19, 20, 21, 35, 36, 37] [(0, (.string p0)), (4, (.slice A266 l268.length c267)), (8, (.pointer (some ⟨g291, 0, none⟩))), (19, (.slice A21 (splitP p0 (⟨#[32]⟩ : ByteArray)).length c22)), (20, (.int .i64 ((splitP p0 (⟨#[32]⟩ : ByteArray)).length : Int))), (21, (.int .i64 x269)), (35, (.slice A285 (splitP (rdD (splitP p0 (⟨#[32]⟩ : ByteArray)) x269 ByteArray.empty) (⟨#[46]⟩ : ByteArray)).length c286)), (36, (.int .i64 ((splitP (rdD (splitP p0 (⟨#[32]⟩ : ByteArray)) x269 ByteArray.empty) (⟨#[46]⟩ : ByteArray)).length : Int))), (37, (.int .i64 (w64 (x353 + 1))))] [] (fun fb => by kernel_rfl) rfl trivial ?_
                refine WL.done rfl ?_
                exact WX.again k360 (Nat.lt_succ_self _) (t369, x350, x351, x352, w64 (x353 + 1)) [0, 4, 8, 19, 20, 21, 35, 36, 37] rfl ⟨(hS373.subR [0]).sub [1, 0, 2, 3] (by decide), hl363⟩
              rcases br_some hl363 with ⟨h374, hl363⟩ | ⟨h374, hl363⟩
              ·
                refine WL.setI 49 (eq_of_beq h374) rfl ?_
                refine seg 3 [] [0, 4, 8, 19, 20, 21, 35, 36, 37, 50, 51] [(0, (.string p0)), (4, (.slice A266 l268.length c267)), (8, (.pointer (some ⟨g291, 0, none⟩))), (19, (.slice A21 (splitP p0 (⟨#[32]⟩ : ByteArray)).length c22)), (20, (.int .i64 ((splitP p0 (⟨#[32]⟩ : ByteArray)).length : Int))), (21, (.int .i64 x269)), (35, (.slice A285 (splitP (rdD (splitP p0 (⟨#[32]⟩ : ByteArray)) x269 ByteArray.empty) (⟨#[46]⟩ : ByteArray)).length c286)), (36, (.int .i64 ((splitP (rdD (splitP p0 (⟨#[32]⟩ : ByteArray)) x269 ByteArray.empty) (⟨#[46]⟩ : ByteArray)).length : Int))), (37, (.int .i64 x353)), (50, (.int .i64 t369)), (51, (.pointer (some ⟨g291, 1, none⟩)))] [] (fun fb => by kernel_rfl) rfl trivial ?_
                refine WL.store hS368 1 rfl [(1, (.int .i64 t369))] #[(.int .i64 x349), (.int .i64 t369), (.int .i64 x351), (.int .i64 x352)] (fun fb => by kernel_rfl) (by kernel_rfl) rfl [0, 2, 3] (by decide) (by decide) (fun w375 hS376 => ?_)
                refine ⟨trivial, ?_⟩
                refine WL.done rfl ?_
                refine WX.blockN (WX.next ?_)
                refine WC.region ?_
                refine seg 2 [] [0, 4, 8, 19, 20, 21, 35, 36, 37] [(0, (.string p0)), (4, (.slice A266 l268.length c267)), (8, (.pointer (some ⟨g291, 0, none⟩))), (19, (.slice A21 (splitP p0 (⟨#[32]⟩ : ByteArray)).length c22)), (20, (.int .i64 ((splitP p0 (⟨#[32]⟩ : ByteArray)).length : Int))), (21, (.int .i64 x269)), (35, (.slice A285 (splitP (rdD (splitP p0 (⟨#[32]⟩ : ByteArray)) x269 ByteArray.empty) (⟨#[46]⟩ : ByteArray)).length c286)), (36, (.int .i64 ((splitP (rdD (splitP p0 (⟨#[32]⟩ : ByteArray)) x269 ByteArray.empty) (⟨#[46]⟩ : ByteArray)).length : Int))), (37, (.int .i64 (w64 (x353 + 1))))] [] (fun fb => by kernel_rfl) rfl trivial ?_
                refine WL.done rfl ?_
                exact WX.again k360 (Nat.lt_succ_self _) (x349, t369, x351, x352, w64 (x353 + 1)) [0, 4, 8, 19, 20, 21, 35, 36, 37] rfl ⟨(hS376.subR [0]).sub [1, 0, 2, 3] (by decide), hl363⟩
              rcases br_some hl363 with ⟨h377, hl363⟩ | ⟨h377, hl363⟩
              ·
                refine WL.setI 49 (eq_of_beq h377) rfl ?_
                refine seg 3 [] [0, 4, 8, 19, 20, 21, 35, 36, 37, 50, 51] [(0, (.string p0)), (4, (.slice A266 l268.length c267)), (8, (.pointer (some ⟨g291, 0, none⟩))), (19, (.slice A21 (splitP p0 (⟨#[32]⟩ : ByteArray)).length c22)), (20, (.int .i64 ((splitP p0 (⟨#[32]⟩ : ByteArray)).length : Int))), (21, (.int .i64 x269)), (35, (.slice A285 (splitP (rdD (splitP p0 (⟨#[32]⟩ : ByteArray)) x269 ByteArray.empty) (⟨#[46]⟩ : ByteArray)).length c286)), (36, (.int .i64 ((splitP (rdD (splitP p0 (⟨#[32]⟩ : ByteArray)) x269 ByteArray.empty) (⟨#[46]⟩ : ByteArray)).length : Int))), (37, (.int .i64 x353)), (50, (.int .i64 t369)), (51, (.pointer (some ⟨g291, 2, none⟩)))] [] (fun fb => by kernel_rfl) rfl trivial ?_
                refine WL.store hS368 1 rfl [(2, (.int .i64 t369))] #[(.int .i64 x349), (.int .i64 x350), (.int .i64 t369), (.int .i64 x352)] (fun fb => by kernel_rfl) (by kernel_rfl) rfl [0, 2, 3] (by decide) (by decide) (fun w378 hS379 => ?_)
                refine ⟨trivial, ?_⟩
                refine WL.done rfl ?_
                refine WX.blockN (WX.next ?_)
                refine WC.region ?_
                refine seg 2 [] [0, 4, 8, 19, 20, 21, 35, 36, 37] [(0, (.string p0)), (4, (.slice A266 l268.length c267)), (8, (.pointer (some ⟨g291, 0, none⟩))), (19, (.slice A21 (splitP p0 (⟨#[32]⟩ : ByteArray)).length c22)), (20, (.int .i64 ((splitP p0 (⟨#[32]⟩ : ByteArray)).length : Int))), (21, (.int .i64 x269)), (35, (.slice A285 (splitP (rdD (splitP p0 (⟨#[32]⟩ : ByteArray)) x269 ByteArray.empty) (⟨#[46]⟩ : ByteArray)).length c286)), (36, (.int .i64 ((splitP (rdD (splitP p0 (⟨#[32]⟩ : ByteArray)) x269 ByteArray.empty) (⟨#[46]⟩ : ByteArray)).length : Int))), (37, (.int .i64 (w64 (x353 + 1))))] [] (fun fb => by kernel_rfl) rfl trivial ?_
                refine WL.done rfl ?_
                exact WX.again k360 (Nat.lt_succ_self _) (x349, x350, t369, x352, w64 (x353 + 1)) [0, 4, 8, 19, 20, 21, 35, 36, 37] rfl ⟨(hS379.subR [0]).sub [1, 0, 2, 3] (by decide), hl363⟩
              rcases br_some hl363 with ⟨h380, hl363⟩ | ⟨h380, hl363⟩
              ·
                refine WL.setI 49 (eq_of_beq h380) rfl ?_
                refine seg 3 [] [0, 4, 8, 19, 20, 21, 35, 36, 37, 50, 51] [(0, (.string p0)), (4, (.slice A266 l268.length c267)), (8, (.pointer (some ⟨g291, 0, none⟩))), (19, (.slice A21 (splitP p0 (⟨#[32]⟩ : ByteArray)).length c22)), (20, (.int .i64 ((splitP p0 (⟨#[32]⟩ : ByteArray)).length : Int))), (21, (.int .i64 x269)), (35, (.slice A285 (splitP (rdD (splitP p0 (⟨#[32]⟩ : ByteArray)) x269 ByteArray.empty) (⟨#[46]⟩ : ByteArray)).length c286)), (36, (.int .i64 ((splitP (rdD (splitP p0 (⟨#[32]⟩ : ByteArray)) x269 ByteArray.empty) (⟨#[46]⟩ : ByteArray)).length : Int))), (37, (.int .i64 x353)), (50, (.int .i64 t369)), (51, (.pointer (some ⟨g291, 3, none⟩)))] [] (fun fb => by kernel_rfl) rfl trivial ?_
                refine WL.store hS368 1 rfl [(3, (.int .i64 t369))] #[(.int .i64 x349), (.int .i64 x350), (.int .i64 x351), (.int .i64 t369)] (fun fb => by kernel_rfl) (by kernel_rfl) rfl [0, 2, 3] (by decide) (by decide) (fun w381 hS382 => ?_)
                refine ⟨trivial, ?_⟩
                refine WL.done rfl ?_
                refine WX.blockN (WX.next ?_)
                refine WC.region ?_
                refine seg 2 [] [0, 4, 8, 19, 20, 21, 35, 36, 37] [(0, (.string p0)), (4, (.slice A266 l268.length c267)), (8, (.pointer (some ⟨g291, 0, none⟩))), (19, (.slice A21 (splitP p0 (⟨#[32]⟩ : ByteArray)).length c22)), (20, (.int .i64 ((splitP p0 (⟨#[32]⟩ : ByteArray)).length : Int))), (21, (.int .i64 x269)), (35, (.slice A285 (splitP (rdD (splitP p0 (⟨#[32]⟩ : ByteArray)) x269 ByteArray.empty) (⟨#[46]⟩ : ByteArray)).length c286)), (36, (.int .i64 ((splitP (rdD (splitP p0 (⟨#[32]⟩ : ByteArray)) x269 ByteArray.empty) (⟨#[46]⟩ : ByteArray)).length : Int))), (37, (.int .i64 (w64 (x353 + 1))))] [] (fun fb => by kernel_rfl) rfl trivial ?_
                refine WL.done rfl ?_
                exact WX.again k360 (Nat.lt_succ_self _) (x349, x350, x351, t369, w64 (x353 + 1)) [0, 4, 8, 19, 20, 21, 35, 36, 37] rfl ⟨(hS382.subR [0]).sub [1, 0, 2, 3] (by decide), hl363⟩
              cases hl363
            refine WC.condF2 (fun fb => by kernel_rfl) h364 ?_
            refine WC.exit ?_
            injection hl363 with hl363
            exact WX.thenX (WX.thenX (WX.blockHere (WX.to Kx358 (x349, x350, x351, x352) [0, 4, 8, 19, 20, 21] rfl ⟨(hS362.subR [0]).sub [0, 1, 2] (by decide), hl363.symm⟩)))
        rintro y386 w383 ⟨hS384, hq385⟩
        subst hq385
        refine WX.next ?_
        refine WC.region ?_
        refine seg 10 [.v (.int .i64 x358.1), .v (.int .i64 x358.2.1), .v (.int .i64 x358.2.2.1), .v (.int .i64 x358.2.2.2)] [0, 19, 20, 21, 53, 62] [(0, (.string p0)), (19, (.slice A21 (splitP p0 (⟨#[32]⟩ : ByteArray)).length c22)), (20, (.int .i64 ((splitP p0 (⟨#[32]⟩ : ByteArray)).length : Int))), (21, (.int .i64 x269)), (53, (.slice A266 l268.length c267)), (62, (.agg #[(.int .i64 x358.1), (.int .i64 x358.2.1), (.int .i64 x358.2.2.1), (.int .i64 x358.2.2.2)]))] [.cell ⟨g291, 0, none⟩ (.int .i64 x358.1), .cell ⟨g291, 1, none⟩ (.int .i64 x358.2.1), .cell ⟨g291, 2, none⟩ (.int .i64 x358.2.2.1), .cell ⟨g291, 3, none⟩ (.int .i64 x358.2.2.2)] (fun fb => by kernel_rfl) rfl ⟨hS384.cell 1 rfl 0 rfl, hS384.cell 1 rfl 1 rfl, hS384.cell 1 rfl 2 rfl, hS384.cell 1 rfl 3 rfl, trivial⟩ ?_
        refine WL.new hS384 63 [] (fun g => (.slice (some ⟨g, 0, none⟩) 1 1)) (.cells #[(.int .i64 x358.1), (.int .i64 x358.2.1), (.int .i64 x358.2.2.1), (.int .i64 x358.2.2.2)] 62 (0, 0)) [] (fun fb g => by kernel_rfl) trivial (fun g387 w388 hS389 => ?_)
        refine ⟨trivial, ?_⟩
        have hS391 : St NoS w w388 [cel ⟨2, 0, none⟩ (.int .i64 mG)] [rowO 62 enc_Tile (some ⟨g387, 0, none⟩) 1 [(Tile.mk x358.1 x358.2.1 x358.2.2.1 x358.2.2.2)], rowO 62 enc_Tile A266 c267 l268, blk g291 (.cells #[(.int .i64 x358.1), (.int .i64 x358.2.1), (.int .i64 x358.2.2.1), (.int .i64 x358.2.2.2)] 56 (0, 0)), rowO 9 encStr A21 c22 (splitP p0 (⟨#[32]⟩ : ByteArray))] := hS389.map1 0 _ (fun h => rowO.ofBlk h rfl (Nat.le_of_ble_eq_true (by kernel_rfl))) (fun _ h => by obtain ⟨_, h1, h2⟩ := h; injection h1 with h1; subst h1; exact h2) [1, 2, 3] (by decide) (by decide)
        obtain ⟨h392, hl278⟩ := as_some hl278
        refine WL.append hS391 1 (d := 64) (tS := 23) (z := (.agg #[(.int .i64 0), (.int .i64 0), (.int .i64 0), (.int .i64 0)])) (bytes := 32) (c2 := 1) rfl (fun fb => by kernel_rfl) (rowO.rd (hS391.own 0).1) (by kernel_rfl) (by kernel_rfl) rfl (by decide) h392 (by decide) [0, 2, 3] (by decide) (by decide) (fun A393 c394 w395 hS396 => ?_)
        refine ⟨trivial, ?_⟩
        refine seg 13 [] [0, 4, 19, 20, 21] [(0, (.string p0)), (4, (.slice A393 (l268 ++ [(Tile.mk x358.1 x358.2.1 x358.2.2.1 x358.2.2.2)]).length c394)), (19, (.slice A21 (splitP p0 (⟨#[32]⟩ : ByteArray)).length c22)), (20, (.int .i64 ((splitP p0 (⟨#[32]⟩ : ByteArray)).length : Int))), (21, (.int .i64 x269))] [] (fun fb => by kernel_rfl) rfl trivial ?_
        refine WL.done rfl ?_
        refine WX.blockN (WX.next ?_)
        refine WC.region ?_
        refine seg 2 [] [0, 4, 19, 20, 21] [(0, (.string p0)), (4, (.slice A393 (l268 ++ [(Tile.mk x358.1 x358.2.1 x358.2.2.1 x358.2.2.2)]).length c394)), (19, (.slice A21 (splitP p0 (⟨#[32]⟩ : ByteArray)).length c22)), (20, (.int .i64 ((splitP p0 (⟨#[32]⟩ : ByteArray)).length : Int))), (21, (.int .i64 (w64 (x269 + 1))))] [] (fun fb => by kernel_rfl) rfl trivial ?_
        refine WL.done rfl ?_
        exact WX.again k275 (Nat.lt_succ_self _) ((l268 ++ [(Tile.mk x358.1 x358.2.1 x358.2.2.1 x358.2.2.2)], w64 (x269 + 1)), A393, c394) [0, 4, 19, 20, 21] rfl ⟨(hS396.subR [0]).sub [0, 3] (by decide), hl278⟩
      refine WC.condF2 (fun fb => by kernel_rfl) h279 ?_
      refine WC.exit ?_
      injection hl278 with hl278
      exact WX.thenX (WX.thenX (WX.blockHere (WX.to Kx273 (l268, A266, c267) [0, 4] rfl ⟨(hS277.subR [0]).sub [0] (by decide), hl278.symm⟩)))
  rintro ⟨y400, A270, c271⟩ w397 ⟨hS398, hq399⟩
  subst hq399
  have hf := sum_inr hf
  refine WX.next ?_
  refine WC.seq ?_
  refine WC.seq ?_
  refine WC.region ?_
  refine seg 1 [] [0, 4, 66] [(0, (.string p0)), (4, (.slice A270 y400.length c271)), (66, (.slice A270 y400.length c271))] [] (fun fb => by kernel_rfl) rfl trivial ?_
  obtain ⟨t590, ht591, hf⟩ := bind_some hf
  refine WL.call (some 67) 22 #[(.slice A270 y400.length c271)] (fun fb => by kernel_rfl) (tile_Valid_calls _ y400 A270 c271 t590 _ (hS398.ow 0).ofO ht591) (fun v w592 hR593 => ?_)
  obtain ⟨rfl, hk_⟩ := hR593
  have hS594 := hS398.keepN hk_
  refine ⟨trivial, ?_⟩
  refine seg 4 [] [0, 4, 69] [(0, (.string p0)), (4, (.slice A270 y400.length c271)), (69, (.bool (!t590)))] [] (fun fb => by kernel_rfl) rfl trivial ?_
  obtain ⟨x1209, hx1210, hf⟩ := bind_some hf
  refine WL.cutW (T := Bool) 9 (fun t => [(4, (.slice A270 y400.length c271)), (74, (.bool t))]) (fun t w1 => (St NoS w w1 [cel ⟨2, 0, none⟩ (.int .i64 mG)] [rowO 62 enc_Tile A270 c271 y400] ∧ x1209 = t) ∧ CellsOK [] w1) (fun K => ?_) ?_
  ·
    rcases br_some hx1210 with ⟨h1211, hx1210⟩ | ⟨h1211, hx1210⟩
    ·
      refine WL.setB 69 h1211 rfl ?_
      refine seg 9 [] [4, 74] [(4, (.slice A270 y400.length c271)), (74, (.bool true))] [] (fun fb => by kernel_rfl) rfl trivial ?_
      injection hx1210 with hx1210
      exact WL.to K true [4, 74] rfl ⟨⟨(hS594.subR [0]).sub [0] (by decide), hx1210.symm⟩, trivial⟩
    refine WL.setB 69 h1211 rfl ?_
    refine seg 5 [] [0, 4, 69, 70] [(0, (.string p0)), (4, (.slice A270 y400.length c271)), (69, (.bool false)), (70, (.slice A270 y400.length c271))] [] (fun fb => by kernel_rfl) rfl trivial ?_
    obtain ⟨t1212, ht1213, hx1210⟩ := bind_some hx1210
    refine WL.call (some 71) 43 #[(.slice A270 y400.length c271)] (fun fb => by kernel_rfl) (tile_write_calls _ y400 A270 c271 t1212 _ (hS594.ow 0).ofO ht1213) (fun v w1214 hR1215 => ?_)
    obtain ⟨rfl, hk_⟩ := hR1215
    have hS1216 := hS594.keepN hk_
    refine ⟨trivial, ?_⟩
    refine seg 7 [] [4, 69, 71, 72] [(4, (.slice A270 y400.length c271)), (69, (.bool false)), (71, (.string t1212)), (72, (.string p0))] [] (fun fb => by kernel_rfl) rfl trivial ?_
    refine seg 8 [] [4, 69, 73] [(4, (.slice A270 y400.length c271)), (69, (.bool false)), (73, (.bool (!(t1212.toList == p0.toList))))] [] (fun fb => by kernel_rfl) rfl trivial ?_
    refine WL.setB 73 (congrArg not (strEq_raw t1212 p0)) rfl ?_
    refine seg 9 [] [4, 74] [(4, (.slice A270 y400.length c271)), (74, (.bool (!(strEq t1212 p0))))] [] (fun fb => by kernel_rfl) rfl trivial ?_
    injection hx1210 with hx1210
    exact WL.to K (!(strEq t1212 p0)) [4, 74] rfl ⟨⟨(hS1216.subR [0]).sub [0] (by decide), hx1210.symm⟩, trivial⟩
  rintro y1217 w1219 ⟨⟨hS1220, hq1218⟩, hF1221⟩
  subst hq1218
  refine WL.done rfl ?_
  refine WX.next ?_
  rcases br_some hf with ⟨h1222, hf⟩ | ⟨h1222, hf⟩
  · refine WC.condT2 (fun fb => by kernel_rfl) h1222 ?_
    refine WC.seq ?_
    refine WC.region ?_
    refine seg 2 [] [2, 3] [(2, (.slice none 0 0)), (3, (.int .i64 3))] [] (fun fb => by kernel_rfl) rfl trivial ?_
    refine WL.done rfl ?_
    refine WX.next ?_
    refine WC.ret ?_
    have hS1223 := hS1220.nilrow 62 enc_Tile
    injection hf with hf
    subst hf
    exact WX.thenR (WX.ret_ [] (.tuple #[(.slice none ([] : List Tile).length 0), (.int .i64 3)]) [] (fun fb => by kernel_rfl) trivial ⟨_, rfl, none, 0, rfl, (hS1223.sub [0] (by decide)).noR⟩)
  refine WC.condF2 (fun fb => by kernel_rfl) h1222 ?_
  refine WC.skip ?_
  refine WX.next ?_
  refine WC.seq ?_
  refine WC.region ?_
  refine seg 3 [] [2, 3] [(2, (.slice A270 y400.length c271)), (3, (.int .i64 0))] [] (fun fb => by kernel_rfl) rfl trivial ?_
  refine WL.done rfl ?_
  refine WX.next ?_
  refine WC.ret ?_
  injection hf with hf
  subst hf
  exact WX.ret_ [] (.tuple #[(.slice A270 y400.length c271), (.int .i64 0)]) [] (fun fb => by kernel_rfl) trivial ⟨_, rfl, A270, c271, rfl, (hS1220.sub [0] (by decide)).noR⟩
theorem tile_Text_calls (k : Nat) (p0 : List Tile) (A_p0 : Option Addr) (c_p0 : Nat) (r : ByteArray × Int) (w : World) (hR0 : RO NoS w (rowR enc_Tile A_p0 c_p0 p0)) (hf : tile_Text k p0 = some r) :
    CallsR Tryd.prog 11 #[(.slice A_p0 p0.length c_p0)] w (fun v w' => v = (.tuple #[(.string r.1), (.int .i64 r.2)]) ∧ Keeps NoS w w') := by
  have hS : St NoS w w [rowR enc_Tile A_p0 c_p0 p0] [] := St.init (ro_cons hR0 (ro_nil _ _))
  refine enter 9 Tryd.func11 rfl Tryd.ntmps11 rfl ?_
  unfold tile_Text at hf
  refine WC.seq ?_
  refine WC.region ?_
  refine seg 2 [] [0] [(0, (.slice A_p0 p0.length c_p0))] [] (fun fb => by kernel_rfl) rfl trivial ?_
  refine WL.done rfl ?_
  refine WX.next ?_
  refine WC.seq ?_
  refine WC.seq ?_
  refine WC.region ?_
  refine seg 1 [] [0, 4] [(0, (.slice A_p0 p0.length c_p0)), (4, (.slice A_p0 p0.length c_p0))] [] (fun fb => by kernel_rfl) rfl trivial ?_
  obtain ⟨t1249, ht1250, hf⟩ := bind_some hf
  refine WL.call (some 5) 22 #[(.slice A_p0 p0.length c_p0)] (fun fb => by kernel_rfl) (tile_Valid_calls _ p0 A_p0 c_p0 t1249 _ (hS.rd 0) ht1250) (fun v w1251 hR1252 => ?_)
  obtain ⟨rfl, hk_⟩ := hR1252
  have hS1253 := hS.keepN hk_
  refine ⟨trivial, ?_⟩
  refine seg 3 [] [0, 6] [(0, (.slice A_p0 p0.length c_p0)), (6, (.bool (!t1249)))] [] (fun fb => by kernel_rfl) rfl trivial ?_
  refine WL.done rfl ?_
  refine WX.next ?_
  rcases br_some hf with ⟨h1254, hf⟩ | ⟨h1254, hf⟩
  · refine WC.condT2 (fun fb => by kernel_rfl) h1254 ?_
    refine WC.seq ?_
    refine WC.region ?_
    refine seg 2 [] [2, 3] [(2, (.string (⟨#[]⟩ : ByteArray))), (3, (.int .i64 1))] [] (fun fb => by kernel_rfl) rfl trivial ?_
    refine WL.done rfl ?_
    refine WX.next ?_
    refine WC.ret ?_
    injection hf with hf
    subst hf
    exact WX.thenR (WX.ret_ [] (.tuple #[(.string (⟨#[]⟩ : ByteArray)), (.int .i64 1)]) [] (fun fb => by kernel_rfl) trivial ⟨_, rfl, rfl, hS1253.keep⟩)
  refine WC.condF2 (fun fb => by kernel_rfl) h1254 ?_
  refine WC.skip ?_
  refine WX.next ?_
  refine WC.seq ?_
  refine WC.region ?_
  refine seg 1 [] [7] [(7, (.slice A_p0 p0.length c_p0))] [] (fun fb => by kernel_rfl) rfl trivial ?_
  obtain ⟨t1255, ht1256, hf⟩ := bind_some hf
  refine WL.call (some 8) 43 #[(.slice A_p0 p0.length c_p0)] (fun fb => by kernel_rfl) (tile_write_calls _ p0 A_p0 c_p0 t1255 _ (hS1253.rd 0) ht1256) (fun v w1257 hR1258 => ?_)
  obtain ⟨rfl, hk_⟩ := hR1258
  have hS1259 := hS1253.keepN hk_
  refine ⟨trivial, ?_⟩
  refine seg 4 [] [2, 3] [(2, (.string t1255)), (3, (.int .i64 0))] [] (fun fb => by kernel_rfl) rfl trivial ?_
  refine WL.done rfl ?_
  refine WX.next ?_
  refine WC.ret ?_
  injection hf with hf
  subst hf
  exact WX.ret_ [] (.tuple #[(.string t1255), (.int .i64 0)]) [] (fun fb => by kernel_rfl) trivial ⟨_, rfl, rfl, hS1259.keep⟩
theorem tile_Form_calls (p0 : Pattern) (A_p0_Cells : Option Addr) (c_p0_Cells : Nat) (r : Bool) (w : World) (hR0 : RO NoS w (rowR encInt A_p0_Cells c_p0_Cells p0.Cells)) (hf : tile_Form p0 = some r) :
    CallsR Tryd.prog 54 #[(.agg #[(.int .i64 p0.Width), (.int .i64 p0.Height), (.slice A_p0_Cells p0.Cells.length c_p0_Cells)])] w (fun v w' => v = (.bool r) ∧ Keeps NoS w w') := by
  have hS : St NoS w w [rowR encInt A_p0_Cells c_p0_Cells p0.Cells] [] := St.init (ro_cons hR0 (ro_nil _ _))
  refine enter 40 Tryd.func54 rfl Tryd.ntmps54 rfl ?_
  unfold tile_Form at hf
  refine WC.seq ?_
  refine WC.region ?_
  refine WL.new hS 1 [] (fun g => (.pointer (some ⟨g, 0, none⟩))) (.cells #[(.int .i64 p0.Width), (.int .i64 p0.Height), (.slice A_p0_Cells p0.Cells.length c_p0_Cells)] 35 (0, 0)) [] (fun fb g => by kernel_rfl) trivial (fun g1293 w1294 hS1295 => ?_)
  refine ⟨trivial, ?_⟩
  refine seg 2 [] [1] [(1, (.pointer (some ⟨g1293, 0, none⟩)))] [] (fun fb => by kernel_rfl) rfl trivial ?_
  refine WL.done rfl ?_
  refine WX.next ?_
  refine WC.seq ?_
  refine WC.region ?_
  refine seg 4 [.v (.int .i64 p0.Width)] [1, 6] [(1, (.pointer (some ⟨g1293, 0, none⟩))), (6, (.bool (decide (p0.Width ≥ 1))))] [.cell ⟨g1293, 0, none⟩ (.int .i64 p0.Width)] (fun fb => by kernel_rfl) rfl ⟨hS1295.cell 0 rfl 0 rfl, trivial⟩ ?_
  refine WL.cutV (T := Bool) 8 (fun t => [(10, (.bool t)), (1, (.pointer (some ⟨g1293, 0, none⟩)))]) (fun t => t = ((decide (p0.Width ≥ 1)) && (decide (p0.Height ≥ 1)))) (fun K => ?_) ?_
  ·
    rcases Bool.eq_false_or_eq_true (decide (p0.Width ≥ 1)) with h1297 | h1297
    ·
      refine WL.setB 6 h1297 rfl ?_
      refine seg 8 [.v (.int .i64 p0.Height)] [1, 10] [(1, (.pointer (some ⟨g1293, 0, none⟩))), (10, (.bool (decide (p0.Height ≥ 1))))] [.cell ⟨g1293, 1, none⟩ (.int .i64 p0.Height)] (fun fb => by kernel_rfl) rfl ⟨hS1295.cell 0 rfl 1 rfl, trivial⟩ ?_
      exact WL.toV K (decide (p0.Height ≥ 1)) [10, 1] rfl (by first | (rw [h1297]; done) | (rw [h1297]; rfl))
    refine WL.setB 6 h1297 rfl ?_
    refine seg 8 [] [1, 10] [(1, (.pointer (some ⟨g1293, 0, none⟩))), (10, (.bool false))] [] (fun fb => by kernel_rfl) rfl trivial ?_
    exact WL.toV K false [10, 1] rfl (by first | (rw [h1297]; done) | (rw [h1297]; rfl))
  rintro b1298 rfl
  refine seg 9 [] [1, 11] [(1, (.pointer (some ⟨g1293, 0, none⟩))), (11, (.bool ((decide (p0.Width ≥ 1)) && (decide (p0.Height ≥ 1)))))] [] (fun fb => by kernel_rfl) rfl trivial ?_
  refine WL.cutV (T := Bool) 13 (fun t => [(15, (.bool t)), (1, (.pointer (some ⟨g1293, 0, none⟩)))]) (fun t => t = (((decide (p0.Width ≥ 1)) && (decide (p0.Height ≥ 1))) && (decide (p0.Width ≤ 40000)))) (fun K => ?_) ?_
  ·
    rcases Bool.eq_false_or_eq_true ((decide (p0.Width ≥ 1)) && (decide (p0.Height ≥ 1))) with h1299 | h1299
    ·
      refine WL.setB 11 h1299 rfl ?_
      refine seg 13 [.v (.int .i64 p0.Width)] [1, 15] [(1, (.pointer (some ⟨g1293, 0, none⟩))), (15, (.bool (decide (p0.Width ≤ 40000))))] [.cell ⟨g1293, 0, none⟩ (.int .i64 p0.Width)] (fun fb => by kernel_rfl) rfl ⟨hS1295.cell 0 rfl 0 rfl, trivial⟩ ?_
      exact WL.toV K (decide (p0.Width ≤ 40000)) [15, 1] rfl (by first | (rw [h1299]; done) | (rw [h1299]; rfl))
    refine WL.setB 11 h1299 rfl ?_
    refine seg 13 [] [1, 15] [(1, (.pointer (some ⟨g1293, 0, none⟩))), (15, (.bool false))] [] (fun fb => by kernel_rfl) rfl trivial ?_
    exact WL.toV K false [15, 1] rfl (by first | (rw [h1299]; done) | (rw [h1299]; rfl))
  rintro b1300 rfl
  refine seg 14 [] [1, 16] [(1, (.pointer (some ⟨g1293, 0, none⟩))), (16, (.bool (((decide (p0.Width ≥ 1)) && (decide (p0.Height ≥ 1))) && (decide (p0.Width ≤ 40000)))))] [] (fun fb => by kernel_rfl) rfl trivial ?_
  refine WL.cutV (T := Bool) 18 (fun t => [(20, (.bool t)), (1, (.pointer (some ⟨g1293, 0, none⟩)))]) (fun t => t = ((((decide (p0.Width ≥ 1)) && (decide (p0.Height ≥ 1))) && (decide (p0.Width ≤ 40000))) && (decide (p0.Height ≤ 40000)))) (fun K => ?_) ?_
  ·
    rcases Bool.eq_false_or_eq_true (((decide (p0.Width ≥ 1)) && (decide (p0.Height ≥ 1))) && (decide (p0.Width ≤ 40000))) with h1301 | h1301
    ·
      refine WL.setB 16 h1301 rfl ?_
      refine seg 18 [.v (.int .i64 p0.Height)] [1, 20] [(1, (.pointer (some ⟨g1293, 0, none⟩))), (20, (.bool (decide (p0.Height ≤ 40000))))] [.cell ⟨g1293, 1, none⟩ (.int .i64 p0.Height)] (fun fb => by kernel_rfl) rfl ⟨hS1295.cell 0 rfl 1 rfl, trivial⟩ ?_
      exact WL.toV K (decide (p0.Height ≤ 40000)) [20, 1] rfl (by first | (rw [h1301]; done) | (rw [h1301]; rfl))
    refine WL.setB 16 h1301 rfl ?_
    refine seg 18 [] [1, 20] [(1, (.pointer (some ⟨g1293, 0, none⟩))), (20, (.bool false))] [] (fun fb => by kernel_rfl) rfl trivial ?_
    exact WL.toV K false [20, 1] rfl (by first | (rw [h1301]; done) | (rw [h1301]; rfl))
  rintro b1302 rfl
  refine seg 19 [] [1, 21] [(1, (.pointer (some ⟨g1293, 0, none⟩))), (21, (.bool ((((decide (p0.Width ≥ 1)) && (decide (p0.Height ≥ 1))) && (decide (p0.Width ≤ 40000))) && (decide (p0.Height ≤ 40000)))))] [] (fun fb => by kernel_rfl) rfl trivial ?_
  refine WL.cutV (T := Bool) 26 (fun t => [(28, (.bool t)), (1, (.pointer (some ⟨g1293, 0, none⟩)))]) (fun t => t = (((((decide (p0.Width ≥ 1)) && (decide (p0.Height ≥ 1))) && (decide (p0.Width ≤ 40000))) && (decide (p0.Height ≤ 40000))) && (decide (w64 (p0.Width * p0.Height) ≤ 40000)))) (fun K => ?_) ?_
  ·
    rcases Bool.eq_false_or_eq_true ((((decide (p0.Width ≥ 1)) && (decide (p0.Height ≥ 1))) && (decide (p0.Width ≤ 40000))) && (decide (p0.Height ≤ 40000))) with h1303 | h1303
    ·
      refine WL.setB 21 h1303 rfl ?_
      refine seg 26 [.v (.int .i64 p0.Width), .v (.int .i64 p0.Height)] [1, 28] [(1, (.pointer (some ⟨g1293, 0, none⟩))), (28, (.bool (decide (w64 (p0.Width * p0.Height) ≤ 40000))))] [.cell ⟨g1293, 0, none⟩ (.int .i64 p0.Width), .cell ⟨g1293, 1, none⟩ (.int .i64 p0.Height)] (fun fb => by kernel_rfl) rfl ⟨hS1295.cell 0 rfl 0 rfl, hS1295.cell 0 rfl 1 rfl, trivial⟩ ?_
      exact WL.toV K (decide (w64 (p0.Width * p0.Height) ≤ 40000)) [28, 1] rfl (by first | (rw [h1303]; done) | (rw [h1303]; rfl))
    refine WL.setB 21 h1303 rfl ?_
    refine seg 26 [] [1, 28] [(1, (.pointer (some ⟨g1293, 0, none⟩))), (28, (.bool false))] [] (fun fb => by kernel_rfl) rfl trivial ?_
    exact WL.toV K false [28, 1] rfl (by first | (rw [h1303]; done) | (rw [h1303]; rfl))
  rintro b1304 rfl
  refine seg 27 [] [1, 29] [(1, (.pointer (some ⟨g1293, 0, none⟩))), (29, (.bool (((((decide (p0.Width ≥ 1)) && (decide (p0.Height ≥ 1))) && (decide (p0.Width ≤ 40000))) && (decide (p0.Height ≤ 40000))) && (decide (w64 (p0.Width * p0.Height) ≤ 40000)))))] [] (fun fb => by kernel_rfl) rfl trivial ?_
  refine WL.cutV (T := Bool) 37 (fun t => [(39, (.bool t))]) (fun t => t = ((((((decide (p0.Width ≥ 1)) && (decide (p0.Height ≥ 1))) && (decide (p0.Width ≤ 40000))) && (decide (p0.Height ≤ 40000))) && (decide (w64 (p0.Width * p0.Height) ≤ 40000))) && ((p0.Cells.length : Int) == (w64 (p0.Width * p0.Height))))) (fun K => ?_) ?_
  ·
    rcases Bool.eq_false_or_eq_true (((((decide (p0.Width ≥ 1)) && (decide (p0.Height ≥ 1))) && (decide (p0.Width ≤ 40000))) && (decide (p0.Height ≤ 40000))) && (decide (w64 (p0.Width * p0.Height) ≤ 40000))) with h1305 | h1305
    ·
      refine WL.setB 29 h1305 rfl ?_
      refine seg 37 [.v (.slice A_p0_Cells p0.Cells.length c_p0_Cells), .v (.int .i64 p0.Width), .v (.int .i64 p0.Height)] [39] [(39, (.bool ((p0.Cells.length : Int) == (w64 (p0.Width * p0.Height)))))] [.cell ⟨g1293, 2, none⟩ (.slice A_p0_Cells p0.Cells.length c_p0_Cells), .cell ⟨g1293, 0, none⟩ (.int .i64 p0.Width), .cell ⟨g1293, 1, none⟩ (.int .i64 p0.Height)] (fun fb => by kernel_rfl) rfl ⟨hS1295.cell 0 rfl 2 rfl, hS1295.cell 0 rfl 0 rfl, hS1295.cell 0 rfl 1 rfl, trivial⟩ ?_
      exact WL.toV K ((p0.Cells.length : Int) == (w64 (p0.Width * p0.Height))) [39] rfl (by first | (rw [h1305]; done) | (rw [h1305]; rfl))
    refine WL.setB 29 h1305 rfl ?_
    refine seg 37 [] [39] [(39, (.bool false))] [] (fun fb => by kernel_rfl) rfl trivial ?_
    exact WL.toV K false [39] rfl (by first | (rw [h1305]; done) | (rw [h1305]; rfl))
  rintro b1306 rfl
  refine seg 38 [] [2] [(2, (.bool ((((((decide (p0.Width ≥ 1)) && (decide (p0.Height ≥ 1))) && (decide (p0.Width ≤ 40000))) && (decide (p0.Height ≤ 40000))) && (decide (w64 (p0.Width * p0.Height) ≤ 40000))) && ((p0.Cells.length : Int) == (w64 (p0.Width * p0.Height))))))] [] (fun fb => by kernel_rfl) rfl trivial ?_
  refine WL.done rfl ?_
  refine WX.next ?_
  refine WC.ret ?_
  injection hf with hf
  subst hf
  exact WX.ret_ [] (.bool ((((((decide (p0.Width ≥ 1)) && (decide (p0.Height ≥ 1))) && (decide (p0.Width ≤ 40000))) && (decide (p0.Height ≤ 40000))) && (decide (w64 (p0.Width * p0.Height) ≤ 40000))) && ((p0.Cells.length : Int) == (w64 (p0.Width * p0.Height))))) [] (fun fb => by kernel_rfl) trivial ⟨_, rfl, rfl, hS1295.keep⟩
theorem tile_of_1_calls (p0 : Int) (f0 : List Tile) (g_f0 : Nat) (A_f0 : Option Addr) (c_f0 : Nat) (r : Bool) (w : World) (hR0 : RO NoS w (blk g_f0 (.cells #[(.slice A_f0 f0.length c_f0)] 23 (0, 0)))) (hR1 : RO NoS w (rowR enc_Tile A_f0 c_f0 f0)) (hf : tile_of_1 p0 f0 = some r) :
    CallsR Tryd.prog 63 #[(.int .i64 p0), (.pointer (some ⟨g_f0, 0, none⟩))] w (fun v w' => v = (.bool r) ∧ Keeps NoS w w') := by
  have hS : St NoS w w [blk g_f0 (.cells #[(.slice A_f0 f0.length c_f0)] 23 (0, 0)), rowR enc_Tile A_f0 c_f0 f0] [] := St.init (ro_cons hR0 (ro_cons hR1 (ro_nil _ _)))
  refine enter 12 Tryd.func63 rfl Tryd.ntmps63 rfl ?_
  unfold tile_of_1 at hf
  refine WC.seq ?_
  refine WC.region ?_
  refine seg 1 [] [0, 1] [(0, (.int .i64 p0)), (1, (.pointer (some ⟨g_f0, 0, none⟩)))] [] (fun fb => by kernel_rfl) rfl trivial ?_
  refine WL.done rfl ?_
  refine WX.next ?_
  refine WC.seq ?_
  refine WC.region ?_
  refine seg 3 [] [0, 1, 6] [(0, (.int .i64 p0)), (1, (.pointer (some ⟨g_f0, 0, none⟩))), (6, (.bool (decide (p0 < 0))))] [] (fun fb => by kernel_rfl) rfl trivial ?_
  refine WL.cutV (T := Bool) 8 (fun t => [(11, (.bool t))]) (fun t => t = ((decide (p0 < 0)) || (decide (p0 ≥ (f0.length : Int))))) (fun K => ?_) ?_
  ·
    rcases Bool.eq_false_or_eq_true (decide (p0 < 0)) with h1328 | h1328
    ·
      refine WL.setB 6 h1328 rfl ?_
      refine seg 8 [] [11] [(11, (.bool true))] [] (fun fb => by kernel_rfl) rfl trivial ?_
      exact WL.toV K true [11] rfl (by first | (rw [h1328]; done) | (rw [h1328]; rfl))
    refine WL.setB 6 h1328 rfl ?_
    refine seg 8 [.v (.slice A_f0 f0.length c_f0)] [11] [(11, (.bool (decide (p0 ≥ (f0.length : Int)))))] [.cell ⟨g_f0, 0, none⟩ (.slice A_f0 f0.length c_f0)] (fun fb => by kernel_rfl) rfl ⟨blk_cell (hS.rd 0).1 0 rfl, trivial⟩ ?_
    exact WL.toV K (decide (p0 ≥ (f0.length : Int))) [11] rfl (by first | (rw [h1328]; done) | (rw [h1328]; rfl))
  rintro b1329 rfl
  refine seg 9 [] [3] [(3, (.bool ((decide (p0 < 0)) || (decide (p0 ≥ (f0.length : Int))))))] [] (fun fb => by kernel_rfl) rfl trivial ?_
  refine WL.done rfl ?_
  refine WX.next ?_
  refine WC.ret ?_
  injection hf with hf
  subst hf
  exact WX.ret_ [] (.bool ((decide (p0 < 0)) || (decide (p0 ≥ (f0.length : Int))))) [] (fun fb => by kernel_rfl) trivial ⟨_, rfl, rfl, hS.keep⟩
theorem slices_IndexFunc_int_int_with_tile_of_1_calls (k : Nat) (p0 : List Int) (p1_0 : List Tile) (A_p0 : Option Addr) (c_p0 : Nat) (g_p1_0 : Nat) (A_p1_0 : Option Addr) (c_p1_0 : Nat) (r : Int) (w : World) (hR0 : RO NoS w (rowR encInt A_p0 c_p0 p0)) (hR1 : RO NoS w (blk g_p1_0 (.cells #[(.slice A_p1_0 p1_0.length c_p1_0)] 23 (0, 0)))) (hR2 : RO NoS w (rowR enc_Tile A_p1_0 c_p1_0 p1_0)) (hf : slices_IndexFunc_int_int_with_tile_of_1 k p0 p1_0 = some r) :
    CallsR Tryd.prog 78 #[(.slice A_p0 p0.length c_p0), (.func (.func 63) #[] #[(.pointer (some ⟨g_p1_0, 0, none⟩))])] w (fun v w' => v = (.int .i64 r) ∧ Keeps NoS w w') := by
  have hS : St NoS w w [rowR encInt A_p0 c_p0 p0, blk g_p1_0 (.cells #[(.slice A_p1_0 p1_0.length c_p1_0)] 23 (0, 0)), rowR enc_Tile A_p1_0 c_p1_0 p1_0] [] := St.init (ro_cons hR0 (ro_cons hR1 (ro_cons hR2 (ro_nil _ _))))
  refine enter 19 Tryd.func78 rfl Tryd.ntmps78 rfl ?_
  unfold slices_IndexFunc_int_int_with_tile_of_1 at hf
  refine WC.seq ?_
  refine WC.region ?_
  refine seg 1 [] [0, 1] [(0, (.slice A_p0 p0.length c_p0)), (1, (.func (.func 63) #[] #[(.pointer (some ⟨g_p1_0, 0, none⟩))]))] [] (fun fb => by kernel_rfl) rfl trivial ?_
  refine WL.done rfl ?_
  refine WX.next ?_
  refine WC.seq ?_
  refine WC.seq ?_
  refine WC.region ?_
  refine seg 3 [] [0, 1, 7, 8] [(0, (.slice A_p0 p0.length c_p0)), (1, (.func (.func 63) #[] #[(.pointer (some ⟨g_p1_0, 0, none⟩))])), (7, (.int .i64 (p0.length : Int))), (8, (.int .i64 0))] [] (fun fb => by kernel_rfl) rfl trivial ?_
  refine WL.done rfl ?_
  refine WX.next ?_
  obtain ⟨x1346, hx1347, hf⟩ := bind_some hf
  refine WC.cutN (T := Unit) (fun t => []) (fun t w1 => St NoS w w1 [rowR encInt A_p0 c_p0 p0, blk g_p1_0 (.cells #[(.slice A_p1_0 p1_0.length c_p1_0)] 23 (0, 0)), rowR enc_Tile A_p1_0 c_p1_0 p1_0] [] ∧ x1346 = .inr t) (fun Kx1346 => ?_) ?_
  ·
    refine WC.block ?_
    refine WC.loop (T := Int) (fun t => [(0, (.slice A_p0 p0.length c_p0)), (1, (.func (.func 63) #[] #[(.pointer (some ⟨g_p1_0, 0, none⟩))])), (7, (.int .i64 (p0.length : Int))), (8, (.int .i64 t))]) (fun n t w1 => St NoS w w1 [rowR encInt A_p0 c_p0 p0, blk g_p1_0 (.cells #[(.slice A_p1_0 p1_0.length c_p1_0)] 23 (0, 0)), rowR enc_Tile A_p1_0 c_p1_0 p1_0] [] ∧ slices_IndexFunc_int_int_with_tile_of_1.l0 n t p0 p1_0 = some x1346) k 0 [0, 1, 7, 8] rfl ⟨(hS.subR [0, 1, 2]).sub [] (by decide), hx1347⟩ ?_
    rintro k1348 x1345 w1349 ⟨hS1350, hl1351⟩
    cases k1348 with
    | zero => rw [slices_IndexFunc_int_int_with_tile_of_1.l0] at hl1351; cases hl1351
    | succ k1348 =>
      rw [slices_IndexFunc_int_int_with_tile_of_1.l0] at hl1351
      refine WC.seq ?_
      refine WC.region ?_
      refine seg 1 [] [0, 1, 7, 8, 9] [(0, (.slice A_p0 p0.length c_p0)), (1, (.func (.func 63) #[] #[(.pointer (some ⟨g_p1_0, 0, none⟩))])), (7, (.int .i64 (p0.length : Int))), (8, (.int .i64 x1345)), (9, (.bool (decide (x1345 < (p0.length : Int)))))] [] (fun fb => by kernel_rfl) rfl trivial ?_
      refine WL.done rfl ?_
      refine WX.next ?_
      refine WC.seq ?_
      rcases br_some hl1351 with ⟨h1352, hl1351⟩ | ⟨h1352, hl1351⟩
      · refine WC.condT2 (fun fb => by kernel_rfl) h1352 ?_
        refine WC.skip ?_
        refine WX.next ?_
        refine WC.seq ?_
        refine WC.block ?_
        refine WC.seq ?_
        refine WC.region ?_
        refine seg 2 [] [0, 1, 5, 7, 8] [(0, (.slice A_p0 p0.length c_p0)), (1, (.func (.func 63) #[] #[(.pointer (some ⟨g_p1_0, 0, none⟩))])), (5, (.int .i64 x1345)), (7, (.int .i64 (p0.length : Int))), (8, (.int .i64 x1345))] [] (fun fb => by kernel_rfl) rfl trivial ?_
        refine WL.done rfl ?_
        refine WX.next ?_
        refine WC.seq ?_
        refine WC.region ?_
        refine seg 3 [] [0, 1, 5, 7, 8, 11, 12, 13] [(0, (.slice A_p0 p0.length c_p0)), (1, (.func (.func 63) #[] #[(.pointer (some ⟨g_p1_0, 0, none⟩))])), (5, (.int .i64 x1345)), (7, (.int .i64 (p0.length : Int))), (8, (.int .i64 x1345)), (11, (.func (.func 63) #[] #[(.pointer (some ⟨g_p1_0, 0, none⟩))])), (12, (.slice A_p0 p0.length c_p0)), (13, (.int .i64 x1345))] [] (fun fb => by kernel_rfl) rfl trivial ?_
        obtain ⟨h1353, hl1351⟩ := as_some hl1351
        refine seg 5 [.v (.int .i64 (rdD p0 x1345 0))] [0, 1, 5, 7, 8, 11, 15] [(0, (.slice A_p0 p0.length c_p0)), (1, (.func (.func 63) #[] #[(.pointer (some ⟨g_p1_0, 0, none⟩))])), (5, (.int .i64 x1345)), (7, (.int .i64 (p0.length : Int))), (8, (.int .i64 x1345)), (11, (.func (.func 63) #[] #[(.pointer (some ⟨g_p1_0, 0, none⟩))])), (15, (.int .i64 (rdD p0 x1345 0)))] [.idx A_p0 x1345 p0.length, .cell ((adr A_p0).add ((x1345).toNat * 1)) (.int .i64 (rdD p0 x1345 0))] (fun fb => by kernel_rfl) rfl ⟨rowR.adr (hS1350.rd 0).1 h1353.1 h1353.2, rowR.cell (hS1350.rd 0).1 0 h1353.1 h1353.2 0 rfl, trivial⟩ ?_
        obtain ⟨t1354, ht1355, hl1351⟩ := bind_some hl1351
        refine WL.call (some 16) 63 #[(.int .i64 (rdD p0 x1345 0)), (.pointer (some ⟨g_p1_0, 0, none⟩))] (fun fb => by kernel_rfl) (tile_of_1_calls (rdD p0 x1345 0) p1_0 g_p1_0 A_p1_0 c_p1_0 t1354 _ (hS1350.rd 1) (hS1350.rd 2) ht1355) (fun v w1356 hR1357 => ?_)
        obtain ⟨rfl, hk_⟩ := hR1357
        have hS1358 := hS1350.keepN hk_
        refine ⟨trivial, ?_⟩
        refine WL.done rfl ?_
        refine WX.next ?_
        rcases br_some hl1351 with ⟨h1359, hl1351⟩ | ⟨h1359, hl1351⟩
        · refine WC.condT2 (fun fb => by kernel_rfl) h1359 ?_
          refine WC.seq ?_
          refine WC.region ?_
          refine seg 2 [] [4] [(4, (.int .i64 x1345))] [] (fun fb => by kernel_rfl) rfl trivial ?_
          refine WL.done rfl ?_
          refine WX.next ?_
          refine WC.ret ?_
          injection hl1351 with hl1351
          subst hl1351
          injection hf with hf
          subst hf
          exact WX.blockR (WX.thenR (WX.thenR (WX.blockR (WX.thenR (WX.ret_ [] (.int .i64 x1345) [] (fun fb => by kernel_rfl) trivial ⟨_, rfl, rfl, hS1358.keep⟩)))))
        refine WC.condF2 (fun fb => by kernel_rfl) h1359 ?_
        refine WC.skip ?_
        refine WX.blockN (WX.next ?_)
        refine WC.region ?_
        refine seg 2 [] [0, 1, 7, 8] [(0, (.slice A_p0 p0.length c_p0)), (1, (.func (.func 63) #[] #[(.pointer (some ⟨g_p1_0, 0, none⟩))])), (7, (.int .i64 (p0.length : Int))), (8, (.int .i64 (w64 (x1345 + 1))))] [] (fun fb => by kernel_rfl) rfl trivial ?_
        refine WL.done rfl ?_
        exact WX.again k1348 (Nat.lt_succ_self _) (w64 (x1345 + 1)) [0, 1, 7, 8] rfl ⟨(hS1358.subR [0, 1, 2]).sub [] (by decide), hl1351⟩
      refine WC.condF2 (fun fb => by kernel_rfl) h1352 ?_
      refine WC.exit ?_
      injection hl1351 with hl1351
      exact WX.thenX (WX.thenX (WX.blockHere (WX.to Kx1346 () [] rfl ⟨(hS1350.subR [0, 1, 2]).sub [] (by decide), hl1351.symm⟩)))
  rintro y1363 w1360 ⟨hS1361, hq1362⟩
  subst hq1362
  have hf := sum_inr hf
  refine WX.next ?_
  refine WC.seq ?_
  refine WC.region ?_
  refine seg 1 [] [4] [(4, (.int .i64 (-1)))] [] (fun fb => by kernel_rfl) rfl trivial ?_
  refine WL.done rfl ?_
  refine WX.next ?_
  refine WC.ret ?_
  injection hf with hf
  subst hf
  exact WX.ret_ [] (.int .i64 (-1)) [] (fun fb => by kernel_rfl) trivial ⟨_, rfl, rfl, hS1361.keep⟩
theorem slices_ContainsFunc_int_int_with_tile_of_1_calls (k : Nat) (p0 : List Int) (p1_0 : List Tile) (A_p0 : Option Addr) (c_p0 : Nat) (g_p1_0 : Nat) (A_p1_0 : Option Addr) (c_p1_0 : Nat) (r : Bool) (w : World) (hR0 : RO NoS w (rowR encInt A_p0 c_p0 p0)) (hR1 : RO NoS w (blk g_p1_0 (.cells #[(.slice A_p1_0 p1_0.length c_p1_0)] 23 (0, 0)))) (hR2 : RO NoS w (rowR enc_Tile A_p1_0 c_p1_0 p1_0)) (hf : slices_ContainsFunc_int_int_with_tile_of_1 k p0 p1_0 = some r) :
    CallsR Tryd.prog 62 #[(.slice A_p0 p0.length c_p0), (.func (.func 63) #[] #[(.pointer (some ⟨g_p1_0, 0, none⟩))])] w (fun v w' => v = (.bool r) ∧ Keeps NoS w w') := by
  have hS : St NoS w w [rowR encInt A_p0 c_p0 p0, blk g_p1_0 (.cells #[(.slice A_p1_0 p1_0.length c_p1_0)] 23 (0, 0)), rowR enc_Tile A_p1_0 c_p1_0 p1_0] [] := St.init (ro_cons hR0 (ro_cons hR1 (ro_cons hR2 (ro_nil _ _))))
  refine enter 9 Tryd.func62 rfl Tryd.ntmps62 rfl ?_
  unfold slices_ContainsFunc_int_int_with_tile_of_1 at hf
  refine WC.seq ?_
  refine WC.region ?_
  refine seg 1 [] [0, 1] [(0, (.slice A_p0 p0.length c_p0)), (1, (.func (.func 63) #[] #[(.pointer (some ⟨g_p1_0, 0, none⟩))]))] [] (fun fb => by kernel_rfl) rfl trivial ?_
  refine WL.done rfl ?_
  refine WX.next ?_
  refine WC.seq ?_
  refine WC.region ?_
  refine seg 2 [] [5, 6] [(5, (.slice A_p0 p0.length c_p0)), (6, (.func (.func 63) #[] #[(.pointer (some ⟨g_p1_0, 0, none⟩))]))] [] (fun fb => by kernel_rfl) rfl trivial ?_
  obtain ⟨t1365, ht1366, hf⟩ := bind_some hf
  refine WL.call (some 7) 78 #[(.slice A_p0 p0.length c_p0), (.func (.func 63) #[] #[(.pointer (some ⟨g_p1_0, 0, none⟩))])] (fun fb => by kernel_rfl) (slices_IndexFunc_int_int_with_tile_of_1_calls _ p0 p1_0 A_p0 c_p0 g_p1_0 A_p1_0 c_p1_0 t1365 _ (hS.rd 0) (hS.rd 1) (hS.rd 2) ht1366) (fun v w1367 hR1368 => ?_)
  obtain ⟨rfl, hk_⟩ := hR1368
  have hS1369 := hS.keepN hk_
  refine ⟨trivial, ?_⟩
  refine seg 5 [] [4] [(4, (.bool (decide (t1365 ≥ 0))))] [] (fun fb => by kernel_rfl) rfl trivial ?_
  refine WL.done rfl ?_
  refine WX.next ?_
  refine WC.ret ?_
  injection hf with hf
  subst hf
  exact WX.ret_ [] (.bool (decide (t1365 ≥ 0))) [] (fun fb => by kernel_rfl) trivial ⟨_, rfl, rfl, hS1369.keep⟩
theorem tile_of_calls (k : Nat) (p0 : List Tile) (p1 : Pattern) (A_p0 : Option Addr) (c_p0 : Nat) (A_p1_Cells : Option Addr) (c_p1_Cells : Nat) (r : Bool) (w : World) (hR0 : RO NoS w (rowR enc_Tile A_p0 c_p0 p0)) (hR1 : RO NoS w (rowR encInt A_p1_Cells c_p1_Cells p1.Cells)) (hf : tile_of k p0 p1 = some r) :
    CallsR Tryd.prog 44 #[(.slice A_p0 p0.length c_p0), (.agg #[(.int .i64 p1.Width), (.int .i64 p1.Height), (.slice A_p1_Cells p1.Cells.length c_p1_Cells)])] w (fun v w' => v = (.bool r) ∧ Keeps NoS w w') := by
  have hS : St NoS w w [rowR enc_Tile A_p0 c_p0 p0, rowR encInt A_p1_Cells c_p1_Cells p1.Cells] [] := St.init (ro_cons hR0 (ro_cons hR1 (ro_nil _ _)))
  refine enter 18 Tryd.func44 rfl Tryd.ntmps44 rfl ?_
  unfold tile_of at hf
  refine WC.seq ?_
  refine WC.region ?_
  refine WL.new hS 2 [] (fun g => (.pointer (some ⟨g, 0, none⟩))) (.cells #[(.slice A_p0 p0.length c_p0)] 23 (0, 0)) [] (fun fb g => by kernel_rfl) trivial (fun g1280 w1281 hS1282 => ?_)
  refine ⟨trivial, ?_⟩
  refine WL.new hS1282 3 [] (fun g => (.pointer (some ⟨g, 0, none⟩))) (.cells #[(.int .i64 p1.Width), (.int .i64 p1.Height), (.slice A_p1_Cells p1.Cells.length c_p1_Cells)] 35 (0, 0)) [] (fun fb g => by kernel_rfl) trivial (fun g1284 w1285 hS1286 => ?_)
  refine ⟨trivial, ?_⟩
  refine seg 3 [] [2, 3] [(2, (.pointer (some ⟨g1280, 0, none⟩))), (3, (.pointer (some ⟨g1284, 0, none⟩)))] [] (fun fb => by kernel_rfl) rfl trivial ?_
  refine WL.done rfl ?_
  refine WX.next ?_
  refine WC.seq ?_
  refine WC.region ?_
  refine seg 1 [.v (.slice A_p0 p0.length c_p0)] [2, 3, 5] [(2, (.pointer (some ⟨g1280, 0, none⟩))), (3, (.pointer (some ⟨g1284, 0, none⟩))), (5, (.slice A_p0 p0.length c_p0))] [.cell ⟨g1280, 0, none⟩ (.slice A_p0 p0.length c_p0)] (fun fb => by kernel_rfl) rfl ⟨hS1286.cell 1 rfl 0 rfl, trivial⟩ ?_
  obtain ⟨t1288, ht1289, hf⟩ := bind_some hf
  refine WL.call (some 6) 22 #[(.slice A_p0 p0.length c_p0)] (fun fb => by kernel_rfl) (tile_Valid_calls _ p0 A_p0 c_p0 t1288 _ (hS1286.rd 0) ht1289) (fun v w1290 hR1291 => ?_)
  obtain ⟨rfl, hk_⟩ := hR1291
  have hS1292 := hS1286.keepN hk_
  refine ⟨trivial, ?_⟩
  refine seg 3 [] [2, 3, 7] [(2, (.pointer (some ⟨g1280, 0, none⟩))), (3, (.pointer (some ⟨g1284, 0, none⟩))), (7, (.bool t1288))] [] (fun fb => by kernel_rfl) rfl trivial ?_
  obtain ⟨x1313, hx1314, hf⟩ := bind_some hf
  refine WL.cutW (T := Bool) 6 (fun t => [(2, (.pointer (some ⟨g1280, 0, none⟩))), (3, (.pointer (some ⟨g1284, 0, none⟩))), (10, (.bool t))]) (fun t w1 => (St NoS w w1 [rowR enc_Tile A_p0 c_p0 p0, rowR encInt A_p1_Cells c_p1_Cells p1.Cells] [blk g1280 (.cells #[(.slice A_p0 p0.length c_p0)] 23 (0, 0)), blk g1284 (.cells #[(.int .i64 p1.Width), (.int .i64 p1.Height), (.slice A_p1_Cells p1.Cells.length c_p1_Cells)] 35 (0, 0))] ∧ x1313 = t) ∧ CellsOK [] w1) (fun K => ?_) ?_
  ·
    rcases br_some hx1314 with ⟨h1315, hx1314⟩ | ⟨h1315, hx1314⟩
    ·
      refine WL.setB 7 h1315 rfl ?_
      refine seg 4 [.v (.int .i64 p1.Width), .v (.int .i64 p1.Height), .v (.slice A_p1_Cells p1.Cells.length c_p1_Cells)] [2, 3, 7, 8] [(2, (.pointer (some ⟨g1280, 0, none⟩))), (3, (.pointer (some ⟨g1284, 0, none⟩))), (7, (.bool true)), (8, (.agg #[(.int .i64 p1.Width), (.int .i64 p1.Height), (.slice A_p1_Cells p1.Cells.length c_p1_Cells)]))] [.cell ⟨g1284, 0, none⟩ (.int .i64 p1.Width), .cell ⟨g1284, 1, none⟩ (.int .i64 p1.Height), .cell ⟨g1284, 2, none⟩ (.slice A_p1_Cells p1.Cells.length c_p1_Cells)] (fun fb => by kernel_rfl) rfl ⟨hS1292.cell 0 rfl 0 rfl, hS1292.cell 0 rfl 1 rfl, hS1292.cell 0 rfl 2 rfl, trivial⟩ ?_
      obtain ⟨t1316, ht1317, hx1314⟩ := bind_some hx1314
      refine WL.call (some 9) 54 #[(.agg #[(.int .i64 p1.Width), (.int .i64 p1.Height), (.slice A_p1_Cells p1.Cells.length c_p1_Cells)])] (fun fb => by kernel_rfl) (tile_Form_calls p1 A_p1_Cells c_p1_Cells t1316 _ (hS1292.rd 1) ht1317) (fun v w1318 hR1319 => ?_)
      obtain ⟨rfl, hk_⟩ := hR1319
      have hS1320 := hS1292.keepN hk_
      refine ⟨trivial, ?_⟩
      refine seg 6 [] [2, 3, 10] [(2, (.pointer (some ⟨g1280, 0, none⟩))), (3, (.pointer (some ⟨g1284, 0, none⟩))), (10, (.bool t1316))] [] (fun fb => by kernel_rfl) rfl trivial ?_
      injection hx1314 with hx1314
      exact WL.to K t1316 [2, 3, 10] rfl ⟨⟨(hS1320.subR [0, 1]).sub [1, 0] (by decide), hx1314.symm⟩, trivial⟩
    refine WL.setB 7 h1315 rfl ?_
    refine seg 6 [] [2, 3, 10] [(2, (.pointer (some ⟨g1280, 0, none⟩))), (3, (.pointer (some ⟨g1284, 0, none⟩))), (10, (.bool false))] [] (fun fb => by kernel_rfl) rfl trivial ?_
    injection hx1314 with hx1314
    exact WL.to K false [2, 3, 10] rfl ⟨⟨(hS1292.subR [0, 1]).sub [1, 0] (by decide), hx1314.symm⟩, trivial⟩
  rintro y1321 w1323 ⟨⟨hS1324, hq1322⟩, hF1325⟩
  subst hq1322
  refine seg 7 [] [2, 3, 11] [(2, (.pointer (some ⟨g1280, 0, none⟩))), (3, (.pointer (some ⟨g1284, 0, none⟩))), (11, (.bool x1313))] [] (fun fb => by kernel_rfl) rfl trivial ?_
  obtain ⟨x1376, hx1377, hf⟩ := bind_some hf
  refine WL.cutW (T := Bool) 13 (fun t => [(17, (.bool t))]) (fun t w1 => (St NoS w w1 [rowR enc_Tile A_p0 c_p0 p0, rowR encInt A_p1_Cells c_p1_Cells p1.Cells] [] ∧ x1376 = t) ∧ CellsOK [] w1) (fun K => ?_) ?_
  ·
    rcases br_some hx1377 with ⟨h1378, hx1377⟩ | ⟨h1378, hx1377⟩
    ·
      refine WL.setB 11 h1378 rfl ?_
      refine seg 10 [.v (.slice A_p1_Cells p1.Cells.length c_p1_Cells)] [11, 13, 14] [(11, (.bool true)), (13, (.slice A_p1_Cells p1.Cells.length c_p1_Cells)), (14, (.func (.func 63) #[] #[(.pointer (some ⟨g1280, 0, none⟩))]))] [.cell ⟨g1284, 2, none⟩ (.slice A_p1_Cells p1.Cells.length c_p1_Cells)] (fun fb => by kernel_rfl) rfl ⟨hS1324.cell 1 rfl 2 rfl, trivial⟩ ?_
      obtain ⟨t1379, ht1380, hx1377⟩ := bind_some hx1377
      refine WL.call (some 15) 62 #[(.slice A_p1_Cells p1.Cells.length c_p1_Cells), (.func (.func 63) #[] #[(.pointer (some ⟨g1280, 0, none⟩))])] (fun fb => by kernel_rfl) (slices_ContainsFunc_int_int_with_tile_of_1_calls _ p1.Cells p0 A_p1_Cells c_p1_Cells g1280 A_p0 c_p0 t1379 _ (hS1324.rd 1) (hS1324.ow 0) (hS1324.rd 0) ht1380) (fun v w1381 hR1382 => ?_)
      obtain ⟨rfl, hk_⟩ := hR1382
      have hS1383 := hS1324.keepN hk_
      refine ⟨trivial, ?_⟩
      refine seg 13 [] [17] [(17, (.bool (!t1379)))] [] (fun fb => by kernel_rfl) rfl trivial ?_
      injection hx1377 with hx1377
      exact WL.to K (!t1379) [17] rfl ⟨⟨(hS1383.subR [0, 1]).sub [] (by decide), hx1377.symm⟩, trivial⟩
    refine WL.setB 11 h1378 rfl ?_
    refine seg 13 [] [17] [(17, (.bool false))] [] (fun fb => by kernel_rfl) rfl trivial ?_
    injection hx1377 with hx1377
    exact WL.to K false [17] rfl ⟨⟨(hS1324.subR [0, 1]).sub [] (by decide), hx1377.symm⟩, trivial⟩
  rintro y1384 w1386 ⟨⟨hS1387, hq1385⟩, hF1388⟩
  subst hq1385
  refine seg 14 [] [4] [(4, (.bool x1376))] [] (fun fb => by kernel_rfl) rfl trivial ?_
  refine WL.done rfl ?_
  refine WX.next ?_
  refine WC.ret ?_
  injection hf with hf
  subst hf
  exact WX.ret_ [] (.bool x1376) [] (fun fb => by kernel_rfl) trivial ⟨_, rfl, rfl, hS1387.keep⟩
theorem tile_joins_calls (k : Nat) (p0 : List Tile) (p1 : Pattern) (p2 : Bool) (A_p0 : Option Addr) (c_p0 : Nat) (A_p1_Cells : Option Addr) (c_p1_Cells : Nat) (r : Bool) (w : World) (hR0 : RO NoS w (rowR enc_Tile A_p0 c_p0 p0)) (hR1 : RO NoS w (rowR encInt A_p1_Cells c_p1_Cells p1.Cells)) (hf : tile_joins k p0 p1 p2 = some r) :
    CallsR Tryd.prog 45 #[(.slice A_p0 p0.length c_p0), (.agg #[(.int .i64 p1.Width), (.int .i64 p1.Height), (.slice A_p1_Cells p1.Cells.length c_p1_Cells)]), (.bool p2)] w (fun v w' => v = (.bool r) ∧ Keeps NoS w w') := by
  have hS : St NoS w w [rowR enc_Tile A_p0 c_p0 p0, rowR encInt A_p1_Cells c_p1_Cells p1.Cells] [] := St.init (ro_cons hR0 (ro_cons hR1 (ro_nil _ _)))
  refine enter 92 Tryd.func45 rfl Tryd.ntmps45 rfl ?_
  unfold tile_joins at hf
  refine WC.seq ?_
  refine WC.region ?_
  refine WL.new hS 4 [] (fun g => (.pointer (some ⟨g, 0, none⟩))) (.cells #[(.int .i64 p1.Width), (.int .i64 p1.Height), (.slice A_p1_Cells p1.Cells.length c_p1_Cells)] 35 (0, 0)) [] (fun fb g => by kernel_rfl) trivial (fun g1394 w1395 hS1396 => ?_)
  refine ⟨trivial, ?_⟩
  refine seg 2 [] [0, 2, 4] [(0, (.slice A_p0 p0.length c_p0)), (2, (.bool p2)), (4, (.pointer (some ⟨g1394, 0, none⟩)))] [] (fun fb => by kernel_rfl) rfl trivial ?_
  refine WL.done rfl ?_
  refine WX.next ?_
  refine WC.seq ?_
  refine WC.seq ?_
  refine WC.region ?_
  refine seg 4 [.v (.slice A_p1_Cells p1.Cells.length c_p1_Cells)] [0, 2, 4, 12, 13, 14] [(0, (.slice A_p0 p0.length c_p0)), (2, (.bool p2)), (4, (.pointer (some ⟨g1394, 0, none⟩))), (12, (.slice A_p1_Cells p1.Cells.length c_p1_Cells)), (13, (.int .i64 (p1.Cells.length : Int))), (14, (.int .i64 0))] [.cell ⟨g1394, 2, none⟩ (.slice A_p1_Cells p1.Cells.length c_p1_Cells)] (fun fb => by kernel_rfl) rfl ⟨hS1396.cell 0 rfl 2 rfl, trivial⟩ ?_
  refine WL.done rfl ?_
  refine WX.next ?_
  obtain ⟨x1566, hx1567, hf⟩ := bind_some hf
  refine WC.cutN (T := Unit) (fun t => []) (fun t w1 => St NoS w w1 [rowR enc_Tile A_p0 c_p0 p0, rowR encInt A_p1_Cells c_p1_Cells p1.Cells] [] ∧ x1566 = .inr t) (fun Kx1566 => ?_) ?_
  ·
    refine WC.block ?_
    refine WC.loop (T := Int) (fun t => [(0, (.slice A_p0 p0.length c_p0)), (2, (.bool p2)), (4, (.pointer (some ⟨g1394, 0, none⟩))), (12, (.slice A_p1_Cells p1.Cells.length c_p1_Cells)), (13, (.int .i64 (p1.Cells.length : Int))), (14, (.int .i64 t))]) (fun n t w1 => St NoS w w1 [rowR enc_Tile A_p0 c_p0 p0, rowR encInt A_p1_Cells c_p1_Cells p1.Cells] [blk g1394 (.cells #[(.int .i64 p1.Width), (.int .i64 p1.Height), (.slice A_p1_Cells p1.Cells.length c_p1_Cells)] 35 (0, 0))] ∧ tile_joins.l0 n t p0 p1 p2 = some x1566) k 0 [0, 2, 4, 12, 13, 14] rfl ⟨(hS1396.subR [0, 1]).sub [0] (by decide), hx1567⟩ ?_
    rintro k1568 x1565 w1569 ⟨hS1570, hl1571⟩
    cases k1568 with
    | zero => rw [tile_joins.l0] at hl1571; cases hl1571
    | succ k1568 =>
      rw [tile_joins.l0] at hl1571
      refine WC.seq ?_
      refine WC.region ?_
      refine seg 1 [] [0, 2, 4, 12, 13, 14, 15] [(0, (.slice A_p0 p0.length c_p0)), (2, (.bool p2)), (4, (.pointer (some ⟨g1394, 0, none⟩))), (12, (.slice A_p1_Cells p1.Cells.length c_p1_Cells)), (13, (.int .i64 (p1.Cells.length : Int))), (14, (.int .i64 x1565)), (15, (.bool (decide (x1565 < (p1.Cells.length : Int)))))] [] (fun fb => by kernel_rfl) rfl trivial ?_
      refine WL.done rfl ?_
      refine WX.next ?_
      refine WC.seq ?_
      rcases br_some hl1571 with ⟨h1572, hl1571⟩ | ⟨h1572, hl1571⟩
      · refine WC.condT2 (fun fb => by kernel_rfl) h1572 ?_
        refine WC.skip ?_
        refine WX.next ?_
        refine WC.seq ?_
        refine WC.block ?_
        refine WC.seq ?_
        refine WC.region ?_
        refine seg 1 [] [0, 2, 4, 12, 13, 14, 16] [(0, (.slice A_p0 p0.length c_p0)), (2, (.bool p2)), (4, (.pointer (some ⟨g1394, 0, none⟩))), (12, (.slice A_p1_Cells p1.Cells.length c_p1_Cells)), (13, (.int .i64 (p1.Cells.length : Int))), (14, (.int .i64 x1565)), (16, (.int .i64 x1565))] [] (fun fb => by kernel_rfl) rfl trivial ?_
        obtain ⟨h1573, hl1571⟩ := as_some hl1571
        refine seg 5 [.v (.int .i64 (rdD p1.Cells x1565 0))] [0, 2, 4, 7, 8, 12, 13, 14] [(0, (.slice A_p0 p0.length c_p0)), (2, (.bool p2)), (4, (.pointer (some ⟨g1394, 0, none⟩))), (7, (.int .i64 x1565)), (8, (.int .i64 (rdD p1.Cells x1565 0))), (12, (.slice A_p1_Cells p1.Cells.length c_p1_Cells)), (13, (.int .i64 (p1.Cells.length : Int))), (14, (.int .i64 x1565))] [.idx A_p1_Cells x1565 p1.Cells.length, .cell ((adr A_p1_Cells).add ((x1565).toNat * 1)) (.int .i64 (rdD p1.Cells x1565 0))] (fun fb => by kernel_rfl) rfl ⟨rowR.adr (hS1570.rd 1).1 h1573.1 h1573.2, rowR.cell (hS1570.rd 1).1 0 h1573.1 h1573.2 0 rfl, trivial⟩ ?_
        refine WL.done rfl ?_
        refine WX.next ?_
        refine WC.seq ?_
        obtain ⟨h1578, hl1571⟩ := as_some hl1571
        refine WC.regionD ([(2, ⟨g1394, 0, none⟩, (.int .i64 p1.Width)), (6, ⟨g1394, 0, none⟩, (.int .i64 p1.Width))], [0, 1, 2, 3, 4, 5, 6, 7, 8, 9], [[], [], [1], [0, 1, 2], [], [], [5], [4, 5, 6], [0, 1, 2, 3], [0, 1, 2, 3, 4, 5, 6, 7, 8]]) [[0, 1, 2, 3, 4, 5, 6, 7, 8, 9]] (by kernel_rfl) (by kernel_rfl) (NoPanic.seq (NoPanic.block (NoPanic.seq (NoPanic.seq (NoPanic.block (NoPanic.seq (NoPanic.body))))))) ?_
        have hS1576 := hS1570.drew
        revert hS1576
        generalize World.drew w1569 = w1575
        intro hS1576
        refine ⟨⟨hS1576.cell 0 rfl 0 rfl, hS1576.cell 0 rfl 0 rfl, trivial⟩, forallC ?_ (forallN)⟩
        refine segF 10 [.v (.int .i64 p1.Width), .v (.int .i64 p1.Width)] [0, 2, 4, 8, 9, 10, 12, 13, 14] [(0, (.slice A_p0 p0.length c_p0)), (2, (.bool p2)), (4, (.pointer (some ⟨g1394, 0, none⟩))), (8, (.int .i64 (rdD p1.Cells x1565 0))), (9, (.int .i64 (Int.tmod x1565 p1.Width))), (10, (.int .i64 (w64 (Int.tdiv x1565 p1.Width)))), (12, (.slice A_p1_Cells p1.Cells.length c_p1_Cells)), (13, (.int .i64 (p1.Cells.length : Int))), (14, (.int .i64 x1565))] [.ne p1.Width, .ne p1.Width] [0, 1] [(2, ⟨g1394, 0, none⟩, (.int .i64 p1.Width)), (6, ⟨g1394, 0, none⟩, (.int .i64 p1.Width))] (fun fb => by kernel_rfl) rfl ⟨h1578, h1578, trivial⟩ rfl ?_
        refine WL.done rfl ?_
        refine WX.next ?_
        refine WC.seq ?_
        refine WC.seq ?_
        refine WC.region ?_
        refine seg 6 [.v (.int .i64 p1.Width)] [0, 2, 4, 8, 9, 10, 12, 13, 14, 32] [(0, (.slice A_p0 p0.length c_p0)), (2, (.bool p2)), (4, (.pointer (some ⟨g1394, 0, none⟩))), (8, (.int .i64 (rdD p1.Cells x1565 0))), (9, (.int .i64 (Int.tmod x1565 p1.Width))), (10, (.int .i64 (w64 (Int.tdiv x1565 p1.Width)))), (12, (.slice A_p1_Cells p1.Cells.length c_p1_Cells)), (13, (.int .i64 (p1.Cells.length : Int))), (14, (.int .i64 x1565)), (32, (.bool (decide (w64 ((Int.tmod x1565 p1.Width) + 1) < p1.Width))))] [.cell ⟨g1394, 0, none⟩ (.int .i64 p1.Width)] (fun fb => by kernel_rfl) rfl ⟨hS1576.cell 0 rfl 0 rfl, trivial⟩ ?_
        refine WL.cutV (T := Bool) 8 (fun t => [(34, (.bool t)), (0, (.slice A_p0 p0.length c_p0)), (2, (.bool p2)), (4, (.pointer (some ⟨g1394, 0, none⟩))), (8, (.int .i64 (rdD p1.Cells x1565 0))), (9, (.int .i64 (Int.tmod x1565 p1.Width))), (10, (.int .i64 (w64 (Int.tdiv x1565 p1.Width)))), (12, (.slice A_p1_Cells p1.Cells.length c_p1_Cells)), (13, (.int .i64 (p1.Cells.length : Int))), (14, (.int .i64 x1565))]) (fun t => t = ((decide (w64 ((Int.tmod x1565 p1.Width) + 1) < p1.Width)) || p2)) (fun K => ?_) ?_
        ·
          rcases Bool.eq_false_or_eq_true (decide (w64 ((Int.tmod x1565 p1.Width) + 1) < p1.Width)) with h1579 | h1579
          ·
            refine WL.setB 32 h1579 rfl ?_
            refine seg 8 [] [0, 2, 4, 8, 9, 10, 12, 13, 14, 34] [(0, (.slice A_p0 p0.length c_p0)), (2, (.bool p2)), (4, (.pointer (some ⟨g1394, 0, none⟩))), (8, (.int .i64 (rdD p1.Cells x1565 0))), (9, (.int .i64 (Int.tmod x1565 p1.Width))), (10, (.int .i64 (w64 (Int.tdiv x1565 p1.Width)))), (12, (.slice A_p1_Cells p1.Cells.length c_p1_Cells)), (13, (.int .i64 (p1.Cells.length : Int))), (14, (.int .i64 x1565)), (34, (.bool true))] [] (fun fb => by kernel_rfl) rfl trivial ?_
            exact WL.toV K true [34, 0, 2, 4, 8, 9, 10, 12, 13, 14] rfl (by first | (rw [h1579]; done) | (rw [h1579]; rfl))
          refine WL.setB 32 h1579 rfl ?_
          refine seg 8 [] [0, 2, 4, 8, 9, 10, 12, 13, 14, 34] [(0, (.slice A_p0 p0.length c_p0)), (2, (.bool p2)), (4, (.pointer (some ⟨g1394, 0, none⟩))), (8, (.int .i64 (rdD p1.Cells x1565 0))), (9, (.int .i64 (Int.tmod x1565 p1.Width))), (10, (.int .i64 (w64 (Int.tdiv x1565 p1.Width)))), (12, (.slice A_p1_Cells p1.Cells.length c_p1_Cells)), (13, (.int .i64 (p1.Cells.length : Int))), (14, (.int .i64 x1565)), (34, (.bool p2))] [] (fun fb => by kernel_rfl) rfl trivial ?_
          exact WL.toV K p2 [34, 0, 2, 4, 8, 9, 10, 12, 13, 14] rfl (by first | (rw [h1579]; done) | (rw [h1579]; rfl))
        rintro b1580 rfl
        refine WL.done rfl ?_
        refine WX.next ?_
        obtain ⟨x1594, hx1595, hl1571⟩ := bind_some hl1571
        refine WC.cutN (T := Unit) (fun t => [(0, (.slice A_p0 p0.length c_p0)), (2, (.bool p2)), (4, (.pointer (some ⟨g1394, 0, none⟩))), (8, (.int .i64 (rdD p1.Cells x1565 0))), (9, (.int .i64 (Int.tmod x1565 p1.Width))), (10, (.int .i64 (w64 (Int.tdiv x1565 p1.Width)))), (12, (.slice A_p1_Cells p1.Cells.length c_p1_Cells)), (13, (.int .i64 (p1.Cells.length : Int))), (14, (.int .i64 x1565))]) (fun t w1 => St NoS w w1 [rowR enc_Tile A_p0 c_p0 p0, rowR encInt A_p1_Cells c_p1_Cells p1.Cells] [blk g1394 (.cells #[(.int .i64 p1.Width), (.int .i64 p1.Height), (.slice A_p1_Cells p1.Cells.length c_p1_Cells)] 35 (0, 0))] ∧ x1594 = .inr t) (fun Kx1594 => ?_) ?_
        ·
          rcases br_some hx1595 with ⟨h1596, hx1595⟩ | ⟨h1596, hx1595⟩
          · refine WC.condT2 (fun fb => by kernel_rfl) h1596 ?_
            refine WC.seq ?_
            obtain ⟨h1605, hx1595⟩ := as_some hx1595
            obtain ⟨h1606, hx1595⟩ := as_some hx1595
            obtain ⟨h1607, hx1595⟩ := as_some hx1595
            refine WC.regionD ([(4, (((adr A_p0).add (((rdD p1.Cells x1565 0)).toNat * 4)).add 1), (.int .i64 ((rdD p0 (rdD p1.Cells x1565 0) z_Tile).E))), (7, ⟨g1394, 2, none⟩, (.slice A_p1_Cells p1.Cells.length c_p1_Cells)), (10, ⟨g1394, 0, none⟩, (.int .i64 p1.Width)), (15, ⟨g1394, 0, none⟩, (.int .i64 p1.Width)), (19, ((adr A_p1_Cells).add ((w64 ((w64 ((w64 (Int.tdiv x1565 p1.Width)) * p1.Width)) + (Int.tmod (w64 ((Int.tmod x1565 p1.Width) + 1)) p1.Width))).toNat * 1)), (.int .i64 (rdD p1.Cells (w64 ((w64 ((w64 (Int.tdiv x1565 p1.Width)) * p1.Width)) + (Int.tmod (w64 ((Int.tmod x1565 p1.Width) + 1)) p1.Width))) 0))), (22, (((adr A_p0).add (((rdD p1.Cells (w64 ((w64 ((w64 (Int.tdiv x1565 p1.Width)) * p1.Width)) + (Int.tmod (w64 ((Int.tmod x1565 p1.Width) + 1)) p1.Width))) 0)).toNat * 4)).add 3), (.int .i64 ((rdD p0 (rdD p1.Cells (w64 ((w64 ((w64 (Int.tdiv x1565 p1.Width)) * p1.Width)) + (Int.tmod (w64 ((Int.tmod x1565 p1.Width) + 1)) p1.Width))) 0) z_Tile).W)))], [0, 1, 2, 3, 4, 5, 6, 7, 8, 9, 10, 11, 12, 13, 14, 15, 16, 17, 18, 19, 20, 21, 22, 23], [[], [], [0, 1], [0, 1, 2], [0, 1, 2, 3], [], [], [6], [], [], [9], [8, 9, 10], [], [12], [], [14], [12, 13, 14, 15], [8, 9, 10, 11, 12, 13, 14, 15, 16], [6, 7, 8, 9, 10, 11, 12, 13, 14, 15, 16, 17], [6, 7, 8, 9, 10, 11, 12, 13, 14, 15, 16, 17, 18], [5, 6, 7, 8, 9, 10, 11, 12, 13, 14, 15, 16, 17, 18, 19], [5, 6, 7, 8, 9, 10, 11, 12, 13, 14, 15, 16, 17, 18, 19, 20], [5, 6, 7, 8, 9, 10, 11, 12, 13, 14, 15, 16, 17, 18, 19, 20, 21], [0, 1, 2, 3, 4, 5, 6, 7, 8, 9, 10, 11, 12, 13, 14, 15, 16, 17, 18, 19, 20, 21, 22]]) [[0, 1, 2, 3, 4, 5, 6, 7, 8, 9, 10, 11, 12, 13, 14, 15, 16, 17, 18, 19, 20, 21, 22, 23]] (by kernel_rfl) (by kernel_rfl) (NoPanic.seq (NoPanic.seq (NoPanic.block (NoPanic.seq (NoPanic.seq (NoPanic.block (NoPanic.seq (NoPanic.body)))))))) ?_
            have hS1601 := hS1576.drew
            revert hS1601
            generalize World.drew w1575 = w1600
            intro hS1601
            refine ⟨⟨rowR.cell (hS1601.rd 0).1 z_Tile h1605.1 h1605.2 1 rfl, hS1601.cell 0 rfl 2 rfl, hS1601.cell 0 rfl 0 rfl, hS1601.cell 0 rfl 0 rfl, rowR.cell (hS1601.rd 1).1 0 h1606.1 h1606.2 0 rfl, rowR.cell (hS1601.rd 0).1 z_Tile h1607.1 h1607.2 3 rfl, trivial⟩, forallC ?_ (forallN)⟩
            refine segF 24 [.v (.int .i64 ((rdD p0 (rdD p1.Cells x1565 0) z_Tile).E)), .v (.slice A_p1_Cells p1.Cells.length c_p1_Cells), .v (.int .i64 p1.Width), .v (.int .i64 p1.Width), .v (.int .i64 (rdD p1.Cells (w64 ((w64 ((w64 (Int.tdiv x1565 p1.Width)) * p1.Width)) + (Int.tmod (w64 ((Int.tmod x1565 p1.Width) + 1)) p1.Width))) 0)), .v (.int .i64 ((rdD p0 (rdD p1.Cells (w64 ((w64 ((w64 (Int.tdiv x1565 p1.Width)) * p1.Width)) + (Int.tmod (w64 ((Int.tmod x1565 p1.Width) + 1)) p1.Width))) 0) z_Tile).W))] [0, 2, 4, 8, 9, 10, 12, 13, 14, 58] [(0, (.slice A_p0 p0.length c_p0)), (2, (.bool p2)), (4, (.pointer (some ⟨g1394, 0, none⟩))), (8, (.int .i64 (rdD p1.Cells x1565 0))), (9, (.int .i64 (Int.tmod x1565 p1.Width))), (10, (.int .i64 (w64 (Int.tdiv x1565 p1.Width)))), (12, (.slice A_p1_Cells p1.Cells.length c_p1_Cells)), (13, (.int .i64 (p1.Cells.length : Int))), (14, (.int .i64 x1565)), (58, (.bool (((rdD p0 (rdD p1.Cells x1565 0) z_Tile).E) != ((rdD p0 (rdD p1.Cells (w64 ((w64 ((w64 (Int.tdiv x1565 p1.Width)) * p1.Width)) + (Int.tmod (w64 ((Int.tmod x1565 p1.Width) + 1)) p1.Width))) 0) z_Tile).W))))] [.idx A_p0 (rdD p1.Cells x1565 0) p0.length, .ne p1.Width, .idx A_p1_Cells (w64 ((w64 ((w64 (Int.tdiv x1565 p1.Width)) * p1.Width)) + (Int.tmod (w64 ((Int.tmod x1565 p1.Width) + 1)) p1.Width))) p1.Cells.length, .idx A_p0 (rdD p1.Cells (w64 ((w64 ((w64 (Int.tdiv x1565 p1.Width)) * p1.Width)) + (Int.tmod (w64 ((Int.tmod x1565 p1.Width) + 1)) p1.Width))) 0) p0.length] [0, 1, 2, 3, 4, 5] [(4, (((adr A_p0).add (((rdD p1.Cells x1565 0)).toNat * 4)).add 1), (.int .i64 ((rdD p0 (rdD p1.Cells x1565 0) z_Tile).E))), (7, ⟨g1394, 2, none⟩, (.slice A_p1_Cells p1.Cells.length c_p1_Cells)), (10, ⟨g1394, 0, none⟩, (.int .i64 p1.Width)), (15, ⟨g1394, 0, none⟩, (.int .i64 p1.Width)), (19, ((adr A_p1_Cells).add ((w64 ((w64 ((w64 (Int.tdiv x1565 p1.Width)) * p1.Width)) + (Int.tmod (w64 ((Int.tmod x1565 p1.Width) + 1)) p1.Width))).toNat * 1)), (.int .i64 (rdD p1.Cells (w64 ((w64 ((w64 (Int.tdiv x1565 p1.Width)) * p1.Width)) + (Int.tmod (w64 ((Int.tmod x1565 p1.Width) + 1)) p1.Width))) 0))), (22, (((adr A_p0).add (((rdD p1.Cells (w64 ((w64 ((w64 (Int.tdiv x1565 p1.Width)) * p1.Width)) + (Int.tmod (w64 ((Int.tmod x1565 p1.Width) + 1)) p1.Width))) 0)).toNat * 4)).add 3), (.int .i64 ((rdD p0 (rdD p1.Cells (w64 ((w64 ((w64 (Int.tdiv x1565 p1.Width)) * p1.Width)) + (Int.tmod (w64 ((Int.tmod x1565 p1.Width) + 1)) p1.Width))) 0) z_Tile).W)))] (fun fb => by kernel_rfl) rfl ⟨rowR.adr (hS1601.rd 0).1 h1605.1 h1605.2, h1578, rowR.adr (hS1601.rd 1).1 h1606.1 h1606.2, rowR.adr (hS1601.rd 0).1 h1607.1 h1607.2, trivial⟩ rfl ?_
            refine WL.done rfl ?_
            refine WX.next ?_
            rcases br_some hx1595 with ⟨h1608, hx1595⟩ | ⟨h1608, hx1595⟩
            · refine WC.condT2 (fun fb => by kernel_rfl) h1608 ?_
              refine WC.seq ?_
              refine WC.region ?_
              refine seg 1 [] [6] [(6, (.bool false))] [] (fun fb => by kernel_rfl) rfl trivial ?_
              refine WL.done rfl ?_
              refine WX.next ?_
              refine WC.ret ?_
              injection hx1595 with hx1595
              subst hx1595
              injection hl1571 with hl1571
              subst hl1571
              injection hf with hf
              subst hf
              exact WX.thenR (WX.blockR (WX.thenR (WX.thenR (WX.blockR (WX.thenR (WX.ret_ [] (.bool false) [] (fun fb => by kernel_rfl) trivial ⟨_, rfl, rfl, hS1601.keep⟩))))))
            refine WC.condF2 (fun fb => by kernel_rfl) h1608 ?_
            refine WC.skip ?_
            injection hx1595 with hx1595
            exact WX.to Kx1594 () [0, 2, 4, 8, 9, 10, 12, 13, 14] rfl ⟨(hS1601.subR [0, 1]).sub [0] (by decide), hx1595.symm⟩
          refine WC.condF2 (fun fb => by kernel_rfl) h1596 ?_
          refine WC.skip ?_
          injection hx1595 with hx1595
          exact WX.to Kx1594 () [0, 2, 4, 8, 9, 10, 12, 13, 14] rfl ⟨(hS1576.subR [0, 1]).sub [0] (by decide), hx1595.symm⟩
        rintro y1612 w1609 ⟨hS1610, hq1611⟩
        subst hq1611
        have hl1571 := sum_inr hl1571
        refine WX.next ?_
        refine WC.seq ?_
        refine WC.region ?_
        refine seg 6 [.v (.int .i64 p1.Height)] [0, 2, 4, 8, 9, 10, 12, 13, 14, 64] [(0, (.slice A_p0 p0.length c_p0)), (2, (.bool p2)), (4, (.pointer (some ⟨g1394, 0, none⟩))), (8, (.int .i64 (rdD p1.Cells x1565 0))), (9, (.int .i64 (Int.tmod x1565 p1.Width))), (10, (.int .i64 (w64 (Int.tdiv x1565 p1.Width)))), (12, (.slice A_p1_Cells p1.Cells.length c_p1_Cells)), (13, (.int .i64 (p1.Cells.length : Int))), (14, (.int .i64 x1565)), (64, (.bool (decide (w64 ((w64 (Int.tdiv x1565 p1.Width)) + 1) < p1.Height))))] [.cell ⟨g1394, 1, none⟩ (.int .i64 p1.Height)] (fun fb => by kernel_rfl) rfl ⟨hS1610.cell 0 rfl 1 rfl, trivial⟩ ?_
        refine WL.cutV (T := Bool) 8 (fun t => [(66, (.bool t)), (0, (.slice A_p0 p0.length c_p0)), (2, (.bool p2)), (4, (.pointer (some ⟨g1394, 0, none⟩))), (8, (.int .i64 (rdD p1.Cells x1565 0))), (9, (.int .i64 (Int.tmod x1565 p1.Width))), (10, (.int .i64 (w64 (Int.tdiv x1565 p1.Width)))), (12, (.slice A_p1_Cells p1.Cells.length c_p1_Cells)), (13, (.int .i64 (p1.Cells.length : Int))), (14, (.int .i64 x1565))]) (fun t => t = ((decide (w64 ((w64 (Int.tdiv x1565 p1.Width)) + 1) < p1.Height)) || p2)) (fun K => ?_) ?_
        ·
          rcases Bool.eq_false_or_eq_true (decide (w64 ((w64 (Int.tdiv x1565 p1.Width)) + 1) < p1.Height)) with h1614 | h1614
          ·
            refine WL.setB 64 h1614 rfl ?_
            refine seg 8 [] [0, 2, 4, 8, 9, 10, 12, 13, 14, 66] [(0, (.slice A_p0 p0.length c_p0)), (2, (.bool p2)), (4, (.pointer (some ⟨g1394, 0, none⟩))), (8, (.int .i64 (rdD p1.Cells x1565 0))), (9, (.int .i64 (Int.tmod x1565 p1.Width))), (10, (.int .i64 (w64 (Int.tdiv x1565 p1.Width)))), (12, (.slice A_p1_Cells p1.Cells.length c_p1_Cells)), (13, (.int .i64 (p1.Cells.length : Int))), (14, (.int .i64 x1565)), (66, (.bool true))] [] (fun fb => by kernel_rfl) rfl trivial ?_
            exact WL.toV K true [66, 0, 2, 4, 8, 9, 10, 12, 13, 14] rfl (by first | (rw [h1614]; done) | (rw [h1614]; rfl))
          refine WL.setB 64 h1614 rfl ?_
          refine seg 8 [] [0, 2, 4, 8, 9, 10, 12, 13, 14, 66] [(0, (.slice A_p0 p0.length c_p0)), (2, (.bool p2)), (4, (.pointer (some ⟨g1394, 0, none⟩))), (8, (.int .i64 (rdD p1.Cells x1565 0))), (9, (.int .i64 (Int.tmod x1565 p1.Width))), (10, (.int .i64 (w64 (Int.tdiv x1565 p1.Width)))), (12, (.slice A_p1_Cells p1.Cells.length c_p1_Cells)), (13, (.int .i64 (p1.Cells.length : Int))), (14, (.int .i64 x1565)), (66, (.bool p2))] [] (fun fb => by kernel_rfl) rfl trivial ?_
          exact WL.toV K p2 [66, 0, 2, 4, 8, 9, 10, 12, 13, 14] rfl (by first | (rw [h1614]; done) | (rw [h1614]; rfl))
        rintro b1615 rfl
        refine WL.done rfl ?_
        refine WX.next ?_
        obtain ⟨x1632, hx1633, hl1571⟩ := bind_some hl1571
        refine WC.cutN (T := Unit) (fun t => [(0, (.slice A_p0 p0.length c_p0)), (2, (.bool p2)), (4, (.pointer (some ⟨g1394, 0, none⟩))), (12, (.slice A_p1_Cells p1.Cells.length c_p1_Cells)), (13, (.int .i64 (p1.Cells.length : Int))), (14, (.int .i64 x1565))]) (fun t w1 => St NoS w w1 [rowR enc_Tile A_p0 c_p0 p0, rowR encInt A_p1_Cells c_p1_Cells p1.Cells] [blk g1394 (.cells #[(.int .i64 p1.Width), (.int .i64 p1.Height), (.slice A_p1_Cells p1.Cells.length c_p1_Cells)] 35 (0, 0))] ∧ x1632 = .inr t) (fun Kx1632 => ?_) ?_
        ·
          rcases br_some hx1633 with ⟨h1634, hx1633⟩ | ⟨h1634, hx1633⟩
          · refine WC.condT2 (fun fb => by kernel_rfl) h1634 ?_
            refine WC.seq ?_
            obtain ⟨h1645, hx1633⟩ := as_some hx1633
            obtain ⟨h1646, hx1633⟩ := as_some hx1633
            obtain ⟨h1647, hx1633⟩ := as_some hx1633
            obtain ⟨h1648, hx1633⟩ := as_some hx1633
            refine WC.regionD ([(4, ((adr A_p0).add (((rdD p1.Cells x1565 0)).toNat * 4)), (.int .i64 ((rdD p0 (rdD p1.Cells x1565 0) z_Tile).N))), (7, ⟨g1394, 2, none⟩, (.slice A_p1_Cells p1.Cells.length c_p1_Cells)), (11, ⟨g1394, 1, none⟩, (.int .i64 p1.Height)), (14, ⟨g1394, 0, none⟩, (.int .i64 p1.Width)), (19, ((adr A_p1_Cells).add ((w64 ((w64 ((Int.tmod (w64 ((w64 (Int.tdiv x1565 p1.Width)) + 1)) p1.Height) * p1.Width)) + (Int.tmod x1565 p1.Width))).toNat * 1)), (.int .i64 (rdD p1.Cells (w64 ((w64 ((Int.tmod (w64 ((w64 (Int.tdiv x1565 p1.Width)) + 1)) p1.Height) * p1.Width)) + (Int.tmod x1565 p1.Width))) 0))), (22, (((adr A_p0).add (((rdD p1.Cells (w64 ((w64 ((Int.tmod (w64 ((w64 (Int.tdiv x1565 p1.Width)) + 1)) p1.Height) * p1.Width)) + (Int.tmod x1565 p1.Width))) 0)).toNat * 4)).add 2), (.int .i64 ((rdD p0 (rdD p1.Cells (w64 ((w64 ((Int.tmod (w64 ((w64 (Int.tdiv x1565 p1.Width)) + 1)) p1.Height) * p1.Width)) + (Int.tmod x1565 p1.Width))) 0) z_Tile).S)))], [0, 1, 2, 3, 4, 5, 6, 7, 8, 9, 10, 11, 12, 13, 14, 15, 16, 17, 18, 19, 20, 21, 22, 23], [[], [], [0, 1], [0, 1, 2], [0, 1, 2, 3], [], [], [6], [], [8], [], [10], [8, 9, 10, 11], [], [13], [8, 9, 10, 11, 12, 13, 14], [], [8, 9, 10, 11, 12, 13, 14, 15, 16], [6, 7, 8, 9, 10, 11, 12, 13, 14, 15, 16, 17], [6, 7, 8, 9, 10, 11, 12, 13, 14, 15, 16, 17, 18], [5, 6, 7, 8, 9, 10, 11, 12, 13, 14, 15, 16, 17, 18, 19], [5, 6, 7, 8, 9, 10, 11, 12, 13, 14, 15, 16, 17, 18, 19, 20], [5, 6, 7, 8, 9, 10, 11, 12, 13, 14, 15, 16, 17, 18, 19, 20, 21], [0, 1, 2, 3, 4, 5, 6, 7, 8, 9, 10, 11, 12, 13, 14, 15, 16, 17, 18, 19, 20, 21, 22]]) [[0, 1, 2, 3, 4, 5, 6, 7, 8, 9, 10, 11, 12, 13, 14, 15, 16, 17, 18, 19, 20, 21, 22, 23]] (by kernel_rfl) (by kernel_rfl) (NoPanic.seq (NoPanic.block (NoPanic.seq (NoPanic.seq (NoPanic.block (NoPanic.seq (NoPanic.body))))))) ?_
            have hS1640 := hS1610.drew
            revert hS1640
            generalize World.drew w1609 = w1639
            intro hS1640
            refine ⟨⟨rowR.cell (hS1640.rd 0).1 z_Tile h1645.1 h1645.2 0 rfl, hS1640.cell 0 rfl 2 rfl, hS1640.cell 0 rfl 1 rfl, hS1640.cell 0 rfl 0 rfl, rowR.cell (hS1640.rd 1).1 0 h1647.1 h1647.2 0 rfl, rowR.cell (hS1640.rd 0).1 z_Tile h1648.1 h1648.2 2 rfl, trivial⟩, forallC ?_ (forallN)⟩
            refine segF 24 [.v (.int .i64 ((rdD p0 (rdD p1.Cells x1565 0) z_Tile).N)), .v (.slice A_p1_Cells p1.Cells.length c_p1_Cells), .v (.int .i64 p1.Height), .v (.int .i64 p1.Width), .v (.int .i64 (rdD p1.Cells (w64 ((w64 ((Int.tmod (w64 ((w64 (Int.tdiv x1565 p1.Width)) + 1)) p1.Height) * p1.Width)) + (Int.tmod x1565 p1.Width))) 0)), .v (.int .i64 ((rdD p0 (rdD p1.Cells (w64 ((w64 ((Int.tmod (w64 ((w64 (Int.tdiv x1565 p1.Width)) + 1)) p1.Height) * p1.Width)) + (Int.tmod x1565 p1.Width))) 0) z_Tile).S))] [0, 2, 4, 12, 13, 14, 90] [(0, (.slice A_p0 p0.length c_p0)), (2, (.bool p2)), (4, (.pointer (some ⟨g1394, 0, none⟩))), (12, (.slice A_p1_Cells p1.Cells.length c_p1_Cells)), (13, (.int .i64 (p1.Cells.length : Int))), (14, (.int .i64 x1565)), (90, (.bool (((rdD p0 (rdD p1.Cells x1565 0) z_Tile).N) != ((rdD p0 (rdD p1.Cells (w64 ((w64 ((Int.tmod (w64 ((w64 (Int.tdiv x1565 p1.Width)) + 1)) p1.Height) * p1.Width)) + (Int.tmod x1565 p1.Width))) 0) z_Tile).S))))] [.idx A_p0 (rdD p1.Cells x1565 0) p0.length, .ne p1.Height, .idx A_p1_Cells (w64 ((w64 ((Int.tmod (w64 ((w64 (Int.tdiv x1565 p1.Width)) + 1)) p1.Height) * p1.Width)) + (Int.tmod x1565 p1.Width))) p1.Cells.length, .idx A_p0 (rdD p1.Cells (w64 ((w64 ((Int.tmod (w64 ((w64 (Int.tdiv x1565 p1.Width)) + 1)) p1.Height) * p1.Width)) + (Int.tmod x1565 p1.Width))) 0) p0.length] [0, 1, 2, 3, 4, 5] [(4, ((adr A_p0).add (((rdD p1.Cells x1565 0)).toNat * 4)), (.int .i64 ((rdD p0 (rdD p1.Cells x1565 0) z_Tile).N))), (7, ⟨g1394, 2, none⟩, (.slice A_p1_Cells p1.Cells.length c_p1_Cells)), (11, ⟨g1394, 1, none⟩, (.int .i64 p1.Height)), (14, ⟨g1394, 0, none⟩, (.int .i64 p1.Width)), (19, ((adr A_p1_Cells).add ((w64 ((w64 ((Int.tmod (w64 ((w64 (Int.tdiv x1565 p1.Width)) + 1)) p1.Height) * p1.Width)) + (Int.tmod x1565 p1.Width))).toNat * 1)), (.int .i64 (rdD p1.Cells (w64 ((w64 ((Int.tmod (w64 ((w64 (Int.tdiv x1565 p1.Width)) + 1)) p1.Height) * p1.Width)) + (Int.tmod x1565 p1.Width))) 0))), (22, (((adr A_p0).add (((rdD p1.Cells (w64 ((w64 ((Int.tmod (w64 ((w64 (Int.tdiv x1565 p1.Width)) + 1)) p1.Height) * p1.Width)) + (Int.tmod x1565 p1.Width))) 0)).toNat * 4)).add 2), (.int .i64 ((rdD p0 (rdD p1.Cells (w64 ((w64 ((Int.tmod (w64 ((w64 (Int.tdiv x1565 p1.Width)) + 1)) p1.Height) * p1.Width)) + (Int.tmod x1565 p1.Width))) 0) z_Tile).S)))] (fun fb => by kernel_rfl) rfl ⟨rowR.adr (hS1640.rd 0).1 h1645.1 h1645.2, h1646, rowR.adr (hS1640.rd 1).1 h1647.1 h1647.2, rowR.adr (hS1640.rd 0).1 h1648.1 h1648.2, trivial⟩ rfl ?_
            refine WL.done rfl ?_
            refine WX.next ?_
            rcases br_some hx1633 with ⟨h1649, hx1633⟩ | ⟨h1649, hx1633⟩
            · refine WC.condT2 (fun fb => by kernel_rfl) h1649 ?_
              refine WC.seq ?_
              refine WC.region ?_
              refine seg 1 [] [6] [(6, (.bool false))] [] (fun fb => by kernel_rfl) rfl trivial ?_
              refine WL.done rfl ?_
              refine WX.next ?_
              refine WC.ret ?_
              injection hx1633 with hx1633
              subst hx1633
              injection hl1571 with hl1571
              subst hl1571
              injection hf with hf
              subst hf
              exact WX.blockR (WX.thenR (WX.thenR (WX.blockR (WX.thenR (WX.ret_ [] (.bool false) [] (fun fb => by kernel_rfl) trivial ⟨_, rfl, rfl, hS1640.keep⟩)))))
            refine WC.condF2 (fun fb => by kernel_rfl) h1649 ?_
            refine WC.skip ?_
            injection hx1633 with hx1633
            exact WX.to Kx1632 () [0, 2, 4, 12, 13, 14] rfl ⟨(hS1640.subR [0, 1]).sub [0] (by decide), hx1633.symm⟩
          refine WC.condF2 (fun fb => by kernel_rfl) h1634 ?_
          refine WC.skip ?_
          injection hx1633 with hx1633
          exact WX.to Kx1632 () [0, 2, 4, 12, 13, 14] rfl ⟨(hS1610.subR [0, 1]).sub [0] (by decide), hx1633.symm⟩
        rintro y1653 w1650 ⟨hS1651, hq1652⟩
        subst hq1652
        have hl1571 := sum_inr hl1571
        refine WX.blockN (WX.next ?_)
        refine WC.region ?_
        refine seg 2 [] [0, 2, 4, 12, 13, 14] [(0, (.slice A_p0 p0.length c_p0)), (2, (.bool p2)), (4, (.pointer (some ⟨g1394, 0, none⟩))), (12, (.slice A_p1_Cells p1.Cells.length c_p1_Cells)), (13, (.int .i64 (p1.Cells.length : Int))), (14, (.int .i64 (w64 (x1565 + 1))))] [] (fun fb => by kernel_rfl) rfl trivial ?_
        refine WL.done rfl ?_
        exact WX.again k1568 (Nat.lt_succ_self _) (w64 (x1565 + 1)) [0, 2, 4, 12, 13, 14] rfl ⟨(hS1651.subR [0, 1]).sub [0] (by decide), hl1571⟩
      refine WC.condF2 (fun fb => by kernel_rfl) h1572 ?_
      refine WC.exit ?_
      injection hl1571 with hl1571
      exact WX.thenX (WX.thenX (WX.blockHere (WX.to Kx1566 () [] rfl ⟨(hS1570.subR [0, 1]).sub [] (by decide), hl1571.symm⟩)))
  rintro y1658 w1655 ⟨hS1656, hq1657⟩
  subst hq1657
  have hf := sum_inr hf
  refine WX.next ?_
  refine WC.seq ?_
  refine WC.region ?_
  refine seg 1 [] [6] [(6, (.bool true))] [] (fun fb => by kernel_rfl) rfl trivial ?_
  refine WL.done rfl ?_
  refine WX.next ?_
  refine WC.ret ?_
  injection hf with hf
  subst hf
  exact WX.ret_ [] (.bool true) [] (fun fb => by kernel_rfl) trivial ⟨_, rfl, rfl, hS1656.keep⟩
theorem tile_Repeats_calls (k : Nat) (p0 : List Tile) (p1 : Pattern) (A_p0 : Option Addr) (c_p0 : Nat) (A_p1_Cells : Option Addr) (c_p1_Cells : Nat) (r : Bool) (w : World) (hR0 : RO NoS w (rowR enc_Tile A_p0 c_p0 p0)) (hR1 : RO NoS w (rowR encInt A_p1_Cells c_p1_Cells p1.Cells)) (hf : tile_Repeats k p0 p1 = some r) :
    CallsR Tryd.prog 16 #[(.slice A_p0 p0.length c_p0), (.agg #[(.int .i64 p1.Width), (.int .i64 p1.Height), (.slice A_p1_Cells p1.Cells.length c_p1_Cells)])] w (fun v w' => v = (.bool r) ∧ Keeps NoS w w') := by
  have hS : St NoS w w [rowR enc_Tile A_p0 c_p0 p0, rowR encInt A_p1_Cells c_p1_Cells p1.Cells] [] := St.init (ro_cons hR0 (ro_cons hR1 (ro_nil _ _)))
  refine enter 13 Tryd.func16 rfl Tryd.ntmps16 rfl ?_
  unfold tile_Repeats at hf
  refine WC.seq ?_
  refine WC.region ?_
  refine WL.new hS 3 [] (fun g => (.pointer (some ⟨g, 0, none⟩))) (.cells #[(.int .i64 p1.Width), (.int .i64 p1.Height), (.slice A_p1_Cells p1.Cells.length c_p1_Cells)] 35 (0, 0)) [] (fun fb g => by kernel_rfl) trivial (fun g1276 w1277 hS1278 => ?_)
  refine ⟨trivial, ?_⟩
  refine seg 2 [] [0, 3] [(0, (.slice A_p0 p0.length c_p0)), (3, (.pointer (some ⟨g1276, 0, none⟩)))] [] (fun fb => by kernel_rfl) rfl trivial ?_
  refine WL.done rfl ?_
  refine WX.next ?_
  refine WC.seq ?_
  refine WC.region ?_
  refine seg 2 [.v (.int .i64 p1.Width), .v (.int .i64 p1.Height), .v (.slice A_p1_Cells p1.Cells.length c_p1_Cells)] [0, 3, 5, 6] [(0, (.slice A_p0 p0.length c_p0)), (3, (.pointer (some ⟨g1276, 0, none⟩))), (5, (.slice A_p0 p0.length c_p0)), (6, (.agg #[(.int .i64 p1.Width), (.int .i64 p1.Height), (.slice A_p1_Cells p1.Cells.length c_p1_Cells)]))] [.cell ⟨g1276, 0, none⟩ (.int .i64 p1.Width), .cell ⟨g1276, 1, none⟩ (.int .i64 p1.Height), .cell ⟨g1276, 2, none⟩ (.slice A_p1_Cells p1.Cells.length c_p1_Cells)] (fun fb => by kernel_rfl) rfl ⟨hS1278.cell 0 rfl 0 rfl, hS1278.cell 0 rfl 1 rfl, hS1278.cell 0 rfl 2 rfl, trivial⟩ ?_
  obtain ⟨t1389, ht1390, hf⟩ := bind_some hf
  refine WL.call (some 7) 44 #[(.slice A_p0 p0.length c_p0), (.agg #[(.int .i64 p1.Width), (.int .i64 p1.Height), (.slice A_p1_Cells p1.Cells.length c_p1_Cells)])] (fun fb => by kernel_rfl) (tile_of_calls _ p0 p1 A_p0 c_p0 A_p1_Cells c_p1_Cells t1389 _ (hS1278.rd 0) (hS1278.rd 1) ht1390) (fun v w1391 hR1392 => ?_)
  obtain ⟨rfl, hk_⟩ := hR1392
  have hS1393 := hS1278.keepN hk_
  refine ⟨trivial, ?_⟩
  refine seg 4 [] [0, 3, 8] [(0, (.slice A_p0 p0.length c_p0)), (3, (.pointer (some ⟨g1276, 0, none⟩))), (8, (.bool t1389))] [] (fun fb => by kernel_rfl) rfl trivial ?_
  obtain ⟨x1666, hx1667, hf⟩ := bind_some hf
  refine WL.cutW (T := Bool) 8 (fun t => [(12, (.bool t))]) (fun t w1 => (St NoS w w1 [rowR enc_Tile A_p0 c_p0 p0, rowR encInt A_p1_Cells c_p1_Cells p1.Cells] [] ∧ x1666 = t) ∧ CellsOK [] w1) (fun K => ?_) ?_
  ·
    rcases br_some hx1667 with ⟨h1668, hx1667⟩ | ⟨h1668, hx1667⟩
    ·
      refine WL.setB 8 h1668 rfl ?_
      refine seg 6 [.v (.int .i64 p1.Width), .v (.int .i64 p1.Height), .v (.slice A_p1_Cells p1.Cells.length c_p1_Cells)] [8, 9, 10] [(8, (.bool true)), (9, (.slice A_p0 p0.length c_p0)), (10, (.agg #[(.int .i64 p1.Width), (.int .i64 p1.Height), (.slice A_p1_Cells p1.Cells.length c_p1_Cells)]))] [.cell ⟨g1276, 0, none⟩ (.int .i64 p1.Width), .cell ⟨g1276, 1, none⟩ (.int .i64 p1.Height), .cell ⟨g1276, 2, none⟩ (.slice A_p1_Cells p1.Cells.length c_p1_Cells)] (fun fb => by kernel_rfl) rfl ⟨hS1393.cell 0 rfl 0 rfl, hS1393.cell 0 rfl 1 rfl, hS1393.cell 0 rfl 2 rfl, trivial⟩ ?_
      obtain ⟨t1669, ht1670, hx1667⟩ := bind_some hx1667
      refine WL.call (some 11) 45 #[(.slice A_p0 p0.length c_p0), (.agg #[(.int .i64 p1.Width), (.int .i64 p1.Height), (.slice A_p1_Cells p1.Cells.length c_p1_Cells)]), (.bool true)] (fun fb => by kernel_rfl) (tile_joins_calls _ p0 p1 true A_p0 c_p0 A_p1_Cells c_p1_Cells t1669 _ (hS1393.rd 0) (hS1393.rd 1) ht1670) (fun v w1671 hR1672 => ?_)
      obtain ⟨rfl, hk_⟩ := hR1672
      have hS1673 := hS1393.keepN hk_
      refine ⟨trivial, ?_⟩
      refine seg 8 [] [12] [(12, (.bool t1669))] [] (fun fb => by kernel_rfl) rfl trivial ?_
      injection hx1667 with hx1667
      exact WL.to K t1669 [12] rfl ⟨⟨(hS1673.subR [0, 1]).sub [] (by decide), hx1667.symm⟩, trivial⟩
    refine WL.setB 8 h1668 rfl ?_
    refine seg 8 [] [12] [(12, (.bool false))] [] (fun fb => by kernel_rfl) rfl trivial ?_
    injection hx1667 with hx1667
    exact WL.to K false [12] rfl ⟨⟨(hS1393.subR [0, 1]).sub [] (by decide), hx1667.symm⟩, trivial⟩
  rintro y1674 w1676 ⟨⟨hS1677, hq1675⟩, hF1678⟩
  subst hq1675
  refine seg 9 [] [4] [(4, (.bool x1666))] [] (fun fb => by kernel_rfl) rfl trivial ?_
  refine WL.done rfl ?_
  refine WX.next ?_
  refine WC.ret ?_
  injection hf with hf
  subst hf
  exact WX.ret_ [] (.bool x1666) [] (fun fb => by kernel_rfl) trivial ⟨_, rfl, rfl, hS1677.keep⟩
theorem tile_Fits_calls (k : Nat) (p0 : List Tile) (p1 : Pattern) (A_p0 : Option Addr) (c_p0 : Nat) (A_p1_Cells : Option Addr) (c_p1_Cells : Nat) (r : Bool) (w : World) (hR0 : RO NoS w (rowR enc_Tile A_p0 c_p0 p0)) (hR1 : RO NoS w (rowR encInt A_p1_Cells c_p1_Cells p1.Cells)) (hf : tile_Fits k p0 p1 = some r) :
    CallsR Tryd.prog 14 #[(.slice A_p0 p0.length c_p0), (.agg #[(.int .i64 p1.Width), (.int .i64 p1.Height), (.slice A_p1_Cells p1.Cells.length c_p1_Cells)])] w (fun v w' => v = (.bool r) ∧ Keeps NoS w w') := by
  have hS : St NoS w w [rowR enc_Tile A_p0 c_p0 p0, rowR encInt A_p1_Cells c_p1_Cells p1.Cells] [] := St.init (ro_cons hR0 (ro_cons hR1 (ro_nil _ _)))
  refine enter 13 Tryd.func14 rfl Tryd.ntmps14 rfl ?_
  unfold tile_Fits at hf
  refine WC.seq ?_
  refine WC.region ?_
  refine WL.new hS 3 [] (fun g => (.pointer (some ⟨g, 0, none⟩))) (.cells #[(.int .i64 p1.Width), (.int .i64 p1.Height), (.slice A_p1_Cells p1.Cells.length c_p1_Cells)] 35 (0, 0)) [] (fun fb g => by kernel_rfl) trivial (fun g1727 w1728 hS1729 => ?_)
  refine ⟨trivial, ?_⟩
  refine seg 2 [] [0, 3] [(0, (.slice A_p0 p0.length c_p0)), (3, (.pointer (some ⟨g1727, 0, none⟩)))] [] (fun fb => by kernel_rfl) rfl trivial ?_
  refine WL.done rfl ?_
  refine WX.next ?_
  refine WC.seq ?_
  refine WC.region ?_
  refine seg 2 [.v (.int .i64 p1.Width), .v (.int .i64 p1.Height), .v (.slice A_p1_Cells p1.Cells.length c_p1_Cells)] [0, 3, 5, 6] [(0, (.slice A_p0 p0.length c_p0)), (3, (.pointer (some ⟨g1727, 0, none⟩))), (5, (.slice A_p0 p0.length c_p0)), (6, (.agg #[(.int .i64 p1.Width), (.int .i64 p1.Height), (.slice A_p1_Cells p1.Cells.length c_p1_Cells)]))] [.cell ⟨g1727, 0, none⟩ (.int .i64 p1.Width), .cell ⟨g1727, 1, none⟩ (.int .i64 p1.Height), .cell ⟨g1727, 2, none⟩ (.slice A_p1_Cells p1.Cells.length c_p1_Cells)] (fun fb => by kernel_rfl) rfl ⟨hS1729.cell 0 rfl 0 rfl, hS1729.cell 0 rfl 1 rfl, hS1729.cell 0 rfl 2 rfl, trivial⟩ ?_
  obtain ⟨t1731, ht1732, hf⟩ := bind_some hf
  refine WL.call (some 7) 44 #[(.slice A_p0 p0.length c_p0), (.agg #[(.int .i64 p1.Width), (.int .i64 p1.Height), (.slice A_p1_Cells p1.Cells.length c_p1_Cells)])] (fun fb => by kernel_rfl) (tile_of_calls _ p0 p1 A_p0 c_p0 A_p1_Cells c_p1_Cells t1731 _ (hS1729.rd 0) (hS1729.rd 1) ht1732) (fun v w1733 hR1734 => ?_)
  obtain ⟨rfl, hk_⟩ := hR1734
  have hS1735 := hS1729.keepN hk_
  refine ⟨trivial, ?_⟩
  refine seg 4 [] [0, 3, 8] [(0, (.slice A_p0 p0.length c_p0)), (3, (.pointer (some ⟨g1727, 0, none⟩))), (8, (.bool t1731))] [] (fun fb => by kernel_rfl) rfl trivial ?_
  obtain ⟨x1742, hx1743, hf⟩ := bind_some hf
  refine WL.cutW (T := Bool) 8 (fun t => [(12, (.bool t))]) (fun t w1 => (St NoS w w1 [rowR enc_Tile A_p0 c_p0 p0, rowR encInt A_p1_Cells c_p1_Cells p1.Cells] [] ∧ x1742 = t) ∧ CellsOK [] w1) (fun K => ?_) ?_
  ·
    rcases br_some hx1743 with ⟨h1744, hx1743⟩ | ⟨h1744, hx1743⟩
    ·
      refine WL.setB 8 h1744 rfl ?_
      refine seg 6 [.v (.int .i64 p1.Width), .v (.int .i64 p1.Height), .v (.slice A_p1_Cells p1.Cells.length c_p1_Cells)] [8, 9, 10] [(8, (.bool true)), (9, (.slice A_p0 p0.length c_p0)), (10, (.agg #[(.int .i64 p1.Width), (.int .i64 p1.Height), (.slice A_p1_Cells p1.Cells.length c_p1_Cells)]))] [.cell ⟨g1727, 0, none⟩ (.int .i64 p1.Width), .cell ⟨g1727, 1, none⟩ (.int .i64 p1.Height), .cell ⟨g1727, 2, none⟩ (.slice A_p1_Cells p1.Cells.length c_p1_Cells)] (fun fb => by kernel_rfl) rfl ⟨hS1735.cell 0 rfl 0 rfl, hS1735.cell 0 rfl 1 rfl, hS1735.cell 0 rfl 2 rfl, trivial⟩ ?_
      obtain ⟨t1745, ht1746, hx1743⟩ := bind_some hx1743
      refine WL.call (some 11) 45 #[(.slice A_p0 p0.length c_p0), (.agg #[(.int .i64 p1.Width), (.int .i64 p1.Height), (.slice A_p1_Cells p1.Cells.length c_p1_Cells)]), (.bool false)] (fun fb => by kernel_rfl) (tile_joins_calls _ p0 p1 false A_p0 c_p0 A_p1_Cells c_p1_Cells t1745 _ (hS1735.rd 0) (hS1735.rd 1) ht1746) (fun v w1747 hR1748 => ?_)
      obtain ⟨rfl, hk_⟩ := hR1748
      have hS1749 := hS1735.keepN hk_
      refine ⟨trivial, ?_⟩
      refine seg 8 [] [12] [(12, (.bool t1745))] [] (fun fb => by kernel_rfl) rfl trivial ?_
      injection hx1743 with hx1743
      exact WL.to K t1745 [12] rfl ⟨⟨(hS1749.subR [0, 1]).sub [] (by decide), hx1743.symm⟩, trivial⟩
    refine WL.setB 8 h1744 rfl ?_
    refine seg 8 [] [12] [(12, (.bool false))] [] (fun fb => by kernel_rfl) rfl trivial ?_
    injection hx1743 with hx1743
    exact WL.to K false [12] rfl ⟨⟨(hS1735.subR [0, 1]).sub [] (by decide), hx1743.symm⟩, trivial⟩
  rintro y1750 w1752 ⟨⟨hS1753, hq1751⟩, hF1754⟩
  subst hq1751
  refine seg 9 [] [4] [(4, (.bool x1742))] [] (fun fb => by kernel_rfl) rfl trivial ?_
  refine WL.done rfl ?_
  refine WX.next ?_
  refine WC.ret ?_
  injection hf with hf
  subst hf
  exact WX.ret_ [] (.bool x1742) [] (fun fb => by kernel_rfl) trivial ⟨_, rfl, rfl, hS1753.keep⟩
theorem law01_awake_calls (k : Nat)  (mG : Int) (r : Bool) (w : World) (hR0 : RO NoS w (cel ⟨2, 0, none⟩ (.int .i64 mG))) (hf : law01_awake k = some r) :
    CallsR Tryd.prog 8 #[] w (fun v w' => v = (.bool r) ∧ Keeps NoS w w') := by
  have hS : St NoS w w [cel ⟨2, 0, none⟩ (.int .i64 mG)] [] := St.init (ro_cons hR0 (ro_nil _ _))
  refine enter 55 Tryd.func8 rfl Tryd.ntmps8 rfl ?_
  unfold law01_awake at hf
  refine WC.seq ?_
  refine WC.region ?_
  refine seg 1 [] [] [] [] (fun fb => by kernel_rfl) rfl trivial ?_
  refine WL.done rfl ?_
  refine WX.next ?_
  refine WC.seq ?_
  refine WC.region ?_
  obtain ⟨t1224, ht1225, hf⟩ := bind_some hf
  refine WL.call (some 9) 9 #[(.string (⟨#[48, 46, 49, 46, 48, 46, 49]⟩ : ByteArray))] (fun fb => by kernel_rfl) (tile_Parse_calls _ (⟨#[48, 46, 49, 46, 48, 46, 49]⟩ : ByteArray) mG t1224 _ (hS.rd 0) ht1225) (fun v w1226 hR1227 => ?_)
  obtain ⟨A1229, c1230, rfl, hk_⟩ := hR1227
  have hS1228 : St NoS w w1226 [cel ⟨2, 0, none⟩ (.int .i64 mG)] [rowO 62 enc_Tile A1229 c1230 t1224.1] := hS.call hk_ [] [] (fun g hg => hg.elim) (by simp) (by decide)
  refine ⟨trivial, ?_⟩
  refine seg 6 [] [1, 2] [(1, (.slice A1229 t1224.1.length c1230)), (2, (.int .i64 t1224.2))] [] (fun fb => by kernel_rfl) rfl trivial ?_
  refine WL.done rfl ?_
  refine WX.next ?_
  refine WC.seq ?_
  refine WC.region ?_
  obtain ⟨t1231, ht1232, hf⟩ := bind_some hf
  refine WL.call (some 13) 9 #[(.string (⟨#[48, 46, 49, 46, 49, 46, 48, 32, 49, 46, 48, 46, 48, 46, 49]⟩ : ByteArray))] (fun fb => by kernel_rfl) (tile_Parse_calls _ (⟨#[48, 46, 49, 46, 49, 46, 48, 32, 49, 46, 48, 46, 48, 46, 49]⟩ : ByteArray) mG t1231 _ (hS1228.rd 0) ht1232) (fun v w1233 hR1234 => ?_)
  obtain ⟨A1236, c1237, rfl, hk_⟩ := hR1234
  have hS1235 : St NoS w w1233 [cel ⟨2, 0, none⟩ (.int .i64 mG)] [rowO 62 enc_Tile A1236 c1237 t1231.1, rowO 62 enc_Tile A1229 c1230 t1224.1] := hS1228.call hk_ [] [0] (fun g hg => hg.elim) (by simp) (by decide)
  refine ⟨trivial, ?_⟩
  refine seg 6 [] [1, 2, 3, 4] [(1, (.slice A1229 t1224.1.length c1230)), (2, (.int .i64 t1224.2)), (3, (.slice A1236 t1231.1.length c1237)), (4, (.int .i64 t1231.2))] [] (fun fb => by kernel_rfl) rfl trivial ?_
  refine WL.done rfl ?_
  refine WX.next ?_
  refine WC.seq ?_
  refine WC.region ?_
  refine WL.new hS1235 16 [] (fun g => (.slice (some ⟨g, 0, none⟩) 4 4)) (.cells #[(.int .i64 0), (.int .i64 1), (.int .i64 1), (.int .i64 0)] 3 (0, 0)) [] (fun fb g => by kernel_rfl) trivial (fun g1238 w1239 hS1240 => ?_)
  refine ⟨trivial, ?_⟩
  have hS1242 : St NoS w w1239 [cel ⟨2, 0, none⟩ (.int .i64 mG)] [rowO 3 encInt (some ⟨g1238, 0, none⟩) 4 [0, 1, 1, 0], rowO 62 enc_Tile A1236 c1237 t1231.1, rowO 62 enc_Tile A1229 c1230 t1224.1] := hS1240.map1 0 _ (fun h => rowO.ofBlk h rfl (Nat.le_of_ble_eq_true (by kernel_rfl))) (fun _ h => by obtain ⟨_, h1, h2⟩ := h; injection h1 with h1; subst h1; exact h2) [1, 2] (by decide) (by decide)
  refine seg 2 [] [1, 2, 3, 4, 17] [(1, (.slice A1229 t1224.1.length c1230)), (2, (.int .i64 t1224.2)), (3, (.slice A1236 t1231.1.length c1237)), (4, (.int .i64 t1231.2)), (17, (.agg #[(.int .i64 2), (.int .i64 2), (.slice (some ⟨g1238, 0, none⟩) [0, 1, 1, 0].length 4)]))] [] (fun fb => by kernel_rfl) rfl trivial ?_
  refine WL.new hS1242 5 [] (fun g => (.pointer (some ⟨g, 0, none⟩))) (.cells #[(.int .i64 0), (.int .i64 0), (.slice none 0 0)] 35 (0, 0)) [] (fun fb g => by kernel_rfl) trivial (fun g1243 w1244 hS1245 => ?_)
  refine ⟨trivial, ?_⟩
  refine WL.store hS1245 0 rfl [(0, (.int .i64 2)), (1, (.int .i64 2)), (2, (.slice (some ⟨g1238, 0, none⟩) [0, 1, 1, 0].length 4))] #[(.int .i64 2), (.int .i64 2), (.slice (some ⟨g1238, 0, none⟩) [0, 1, 1, 0].length 4)] (fun fb => by kernel_rfl) (by kernel_rfl) rfl [1, 2, 3] (by decide) (by decide) (fun w1247 hS1248 => ?_)
  refine ⟨trivial, ?_⟩
  refine WL.done rfl ?_
  refine WX.next ?_
  refine WC.seq ?_
  refine WC.region ?_
  refine seg 1 [] [1, 2, 3, 4, 5, 19] [(1, (.slice A1229 t1224.1.length c1230)), (2, (.int .i64 t1224.2)), (3, (.slice A1236 t1231.1.length c1237)), (4, (.int .i64 t1231.2)), (5, (.pointer (some ⟨g1243, 0, none⟩))), (19, (.slice A1236 t1231.1.length c1237))] [] (fun fb => by kernel_rfl) rfl trivial ?_
  obtain ⟨t1260, ht1261, hf⟩ := bind_some hf
  refine WL.call (some 20) 11 #[(.slice A1236 t1231.1.length c1237)] (fun fb => by kernel_rfl) (tile_Text_calls _ t1231.1 A1236 c1237 t1260 _ (hS1248.ow 2).ofO ht1261) (fun v w1262 hR1263 => ?_)
  obtain ⟨rfl, hk_⟩ := hR1263
  have hS1264 := hS1248.keepN hk_
  refine ⟨trivial, ?_⟩
  refine seg 7 [] [1, 2, 3, 4, 5, 6, 7] [(1, (.slice A1229 t1224.1.length c1230)), (2, (.int .i64 t1224.2)), (3, (.slice A1236 t1231.1.length c1237)), (4, (.int .i64 t1231.2)), (5, (.pointer (some ⟨g1243, 0, none⟩))), (6, (.string t1260.1)), (7, (.int .i64 t1260.2))] [] (fun fb => by kernel_rfl) rfl trivial ?_
  refine WL.done rfl ?_
  refine WX.next ?_
  refine WC.seq ?_
  refine WC.region ?_
  refine seg 3 [] [1, 3, 4, 5, 6, 7, 25] [(1, (.slice A1229 t1224.1.length c1230)), (3, (.slice A1236 t1231.1.length c1237)), (4, (.int .i64 t1231.2)), (5, (.pointer (some ⟨g1243, 0, none⟩))), (6, (.string t1260.1)), (7, (.int .i64 t1260.2)), (25, (.bool (t1224.2 == 0)))] [] (fun fb => by kernel_rfl) rfl trivial ?_
  refine WL.cutV (T := Bool) 6 (fun t => [(28, (.bool t)), (1, (.slice A1229 t1224.1.length c1230)), (3, (.slice A1236 t1231.1.length c1237)), (5, (.pointer (some ⟨g1243, 0, none⟩))), (6, (.string t1260.1)), (7, (.int .i64 t1260.2))]) (fun t => t = ((t1224.2 == 0) && (t1231.2 == 0))) (fun K => ?_) ?_
  ·
    rcases Bool.eq_false_or_eq_true (t1224.2 == 0) with h1265 | h1265
    ·
      refine WL.setB 25 h1265 rfl ?_
      refine seg 6 [] [1, 3, 5, 6, 7, 28] [(1, (.slice A1229 t1224.1.length c1230)), (3, (.slice A1236 t1231.1.length c1237)), (5, (.pointer (some ⟨g1243, 0, none⟩))), (6, (.string t1260.1)), (7, (.int .i64 t1260.2)), (28, (.bool (t1231.2 == 0)))] [] (fun fb => by kernel_rfl) rfl trivial ?_
      exact WL.toV K (t1231.2 == 0) [28, 1, 3, 5, 6, 7] rfl (by first | (rw [h1265]; done) | (rw [h1265]; rfl))
    refine WL.setB 25 h1265 rfl ?_
    refine seg 6 [] [1, 3, 5, 6, 7, 28] [(1, (.slice A1229 t1224.1.length c1230)), (3, (.slice A1236 t1231.1.length c1237)), (5, (.pointer (some ⟨g1243, 0, none⟩))), (6, (.string t1260.1)), (7, (.int .i64 t1260.2)), (28, (.bool false))] [] (fun fb => by kernel_rfl) rfl trivial ?_
    exact WL.toV K false [28, 1, 3, 5, 6, 7] rfl (by first | (rw [h1265]; done) | (rw [h1265]; rfl))
  rintro b1266 rfl
  refine seg 7 [] [1, 3, 5, 6, 7, 29] [(1, (.slice A1229 t1224.1.length c1230)), (3, (.slice A1236 t1231.1.length c1237)), (5, (.pointer (some ⟨g1243, 0, none⟩))), (6, (.string t1260.1)), (7, (.int .i64 t1260.2)), (29, (.bool ((t1224.2 == 0) && (t1231.2 == 0))))] [] (fun fb => by kernel_rfl) rfl trivial ?_
  refine WL.cutV (T := Bool) 10 (fun t => [(32, (.bool t)), (1, (.slice A1229 t1224.1.length c1230)), (3, (.slice A1236 t1231.1.length c1237)), (5, (.pointer (some ⟨g1243, 0, none⟩))), (6, (.string t1260.1))]) (fun t => t = (((t1224.2 == 0) && (t1231.2 == 0)) && (t1260.2 == 0))) (fun K => ?_) ?_
  ·
    rcases Bool.eq_false_or_eq_true ((t1224.2 == 0) && (t1231.2 == 0)) with h1267 | h1267
    ·
      refine WL.setB 29 h1267 rfl ?_
      refine seg 10 [] [1, 3, 5, 6, 32] [(1, (.slice A1229 t1224.1.length c1230)), (3, (.slice A1236 t1231.1.length c1237)), (5, (.pointer (some ⟨g1243, 0, none⟩))), (6, (.string t1260.1)), (32, (.bool (t1260.2 == 0)))] [] (fun fb => by kernel_rfl) rfl trivial ?_
      exact WL.toV K (t1260.2 == 0) [32, 1, 3, 5, 6] rfl (by first | (rw [h1267]; done) | (rw [h1267]; rfl))
    refine WL.setB 29 h1267 rfl ?_
    refine seg 10 [] [1, 3, 5, 6, 32] [(1, (.slice A1229 t1224.1.length c1230)), (3, (.slice A1236 t1231.1.length c1237)), (5, (.pointer (some ⟨g1243, 0, none⟩))), (6, (.string t1260.1)), (32, (.bool false))] [] (fun fb => by kernel_rfl) rfl trivial ?_
    exact WL.toV K false [32, 1, 3, 5, 6] rfl (by first | (rw [h1267]; done) | (rw [h1267]; rfl))
  rintro b1268 rfl
  refine seg 11 [] [1, 3, 5, 6, 33] [(1, (.slice A1229 t1224.1.length c1230)), (3, (.slice A1236 t1231.1.length c1237)), (5, (.pointer (some ⟨g1243, 0, none⟩))), (6, (.string t1260.1)), (33, (.bool (((t1224.2 == 0) && (t1231.2 == 0)) && (t1260.2 == 0))))] [] (fun fb => by kernel_rfl) rfl trivial ?_
  refine WL.cutV (T := Bool) 14 (fun t => [(36, (.bool t)), (1, (.slice A1229 t1224.1.length c1230)), (3, (.slice A1236 t1231.1.length c1237)), (5, (.pointer (some ⟨g1243, 0, none⟩)))]) (fun t => t = ((((t1224.2 == 0) && (t1231.2 == 0)) && (t1260.2 == 0)) && (strEq t1260.1 (⟨#[48, 46, 49, 46, 49, 46, 48, 32, 49, 46, 48, 46, 48, 46, 49]⟩ : ByteArray)))) (fun K => ?_) ?_
  ·
    rcases Bool.eq_false_or_eq_true (((t1224.2 == 0) && (t1231.2 == 0)) && (t1260.2 == 0)) with h1269 | h1269
    ·
      refine WL.setB 33 h1269 rfl ?_
      refine seg 12 [] [1, 3, 5, 33, 34] [(1, (.slice A1229 t1224.1.length c1230)), (3, (.slice A1236 t1231.1.length c1237)), (5, (.pointer (some ⟨g1243, 0, none⟩))), (33, (.bool true)), (34, (.string t1260.1))] [] (fun fb => by kernel_rfl) rfl trivial ?_
      refine seg 13 [] [1, 3, 5, 33, 35] [(1, (.slice A1229 t1224.1.length c1230)), (3, (.slice A1236 t1231.1.length c1237)), (5, (.pointer (some ⟨g1243, 0, none⟩))), (33, (.bool true)), (35, (.bool (t1260.1.toList == (⟨#[48, 46, 49, 46, 49, 46, 48, 32, 49, 46, 48, 46, 48, 46, 49]⟩ : ByteArray).toList)))] [] (fun fb => by kernel_rfl) rfl trivial ?_
      refine WL.setB 35 (strEq_raw t1260.1 (⟨#[48, 46, 49, 46, 49, 46, 48, 32, 49, 46, 48, 46, 48, 46, 49]⟩ : ByteArray)) rfl ?_
      refine seg 14 [] [1, 3, 5, 36] [(1, (.slice A1229 t1224.1.length c1230)), (3, (.slice A1236 t1231.1.length c1237)), (5, (.pointer (some ⟨g1243, 0, none⟩))), (36, (.bool (strEq t1260.1 (⟨#[48, 46, 49, 46, 49, 46, 48, 32, 49, 46, 48, 46, 48, 46, 49]⟩ : ByteArray))))] [] (fun fb => by kernel_rfl) rfl trivial ?_
      exact WL.toV K (strEq t1260.1 (⟨#[48, 46, 49, 46, 49, 46, 48, 32, 49, 46, 48, 46, 48, 46, 49]⟩ : ByteArray)) [36, 1, 3, 5] rfl (by first | (rw [h1269]; done) | (rw [h1269]; rfl))
    refine WL.setB 33 h1269 rfl ?_
    refine seg 14 [] [1, 3, 5, 36] [(1, (.slice A1229 t1224.1.length c1230)), (3, (.slice A1236 t1231.1.length c1237)), (5, (.pointer (some ⟨g1243, 0, none⟩))), (36, (.bool false))] [] (fun fb => by kernel_rfl) rfl trivial ?_
    exact WL.toV K false [36, 1, 3, 5] rfl (by first | (rw [h1269]; done) | (rw [h1269]; rfl))
  rintro b1270 rfl
  refine seg 15 [] [1, 3, 5, 37] [(1, (.slice A1229 t1224.1.length c1230)), (3, (.slice A1236 t1231.1.length c1237)), (5, (.pointer (some ⟨g1243, 0, none⟩))), (37, (.bool ((((t1224.2 == 0) && (t1231.2 == 0)) && (t1260.2 == 0)) && (strEq t1260.1 (⟨#[48, 46, 49, 46, 49, 46, 48, 32, 49, 46, 48, 46, 48, 46, 49]⟩ : ByteArray)))))] [] (fun fb => by kernel_rfl) rfl trivial ?_
  obtain ⟨x1685, hx1686, hf⟩ := bind_some hf
  refine WL.cutW (T := Bool) 20 (fun t => [(3, (.slice A1236 t1231.1.length c1237)), (5, (.pointer (some ⟨g1243, 0, none⟩))), (42, (.bool t))]) (fun t w1 => (St NoS w w1 [cel ⟨2, 0, none⟩ (.int .i64 mG)] [rowO 62 enc_Tile A1236 c1237 t1231.1, blk g1243 (.cells #[(.int .i64 2), (.int .i64 2), (.slice (some ⟨g1238, 0, none⟩) [0, 1, 1, 0].length 4)] 35 (0, 0)), rowO 3 encInt (some ⟨g1238, 0, none⟩) 4 [0, 1, 1, 0]] ∧ x1685 = t) ∧ CellsOK [] w1) (fun K => ?_) ?_
  ·
    rcases br_some hx1686 with ⟨h1687, hx1686⟩ | ⟨h1687, hx1686⟩
    ·
      refine WL.setB 37 h1687 rfl ?_
      refine seg 16 [] [3, 5, 37, 38] [(3, (.slice A1236 t1231.1.length c1237)), (5, (.pointer (some ⟨g1243, 0, none⟩))), (37, (.bool true)), (38, (.slice A1229 t1224.1.length c1230))] [] (fun fb => by kernel_rfl) rfl trivial ?_
      refine WL.new hS1264 39 [] (fun g => (.slice (some ⟨g, 0, none⟩) 1 1)) (.cells #[(.int .i64 0)] 3 (0, 0)) [] (fun fb g => by kernel_rfl) trivial (fun g1688 w1689 hS1690 => ?_)
      refine ⟨trivial, ?_⟩
      have hS1692 : St NoS w w1689 [cel ⟨2, 0, none⟩ (.int .i64 mG)] [rowO 3 encInt (some ⟨g1688, 0, none⟩) 1 [0], blk g1243 (.cells #[(.int .i64 2), (.int .i64 2), (.slice (some ⟨g1238, 0, none⟩) [0, 1, 1, 0].length 4)] 35 (0, 0)), rowO 3 encInt (some ⟨g1238, 0, none⟩) 4 [0, 1, 1, 0], rowO 62 enc_Tile A1236 c1237 t1231.1, rowO 62 enc_Tile A1229 c1230 t1224.1] := hS1690.map1 0 _ (fun h => rowO.ofBlk h rfl (Nat.le_of_ble_eq_true (by kernel_rfl))) (fun _ h => by obtain ⟨_, h1, h2⟩ := h; injection h1 with h1; subst h1; exact h2) [1, 2, 3, 4] (by decide) (by decide)
      refine seg 18 [] [3, 5, 37, 38, 40] [(3, (.slice A1236 t1231.1.length c1237)), (5, (.pointer (some ⟨g1243, 0, none⟩))), (37, (.bool true)), (38, (.slice A1229 t1224.1.length c1230)), (40, (.agg #[(.int .i64 1), (.int .i64 1), (.slice (some ⟨g1688, 0, none⟩) [0].length 1)]))] [] (fun fb => by kernel_rfl) rfl trivial ?_
      obtain ⟨t1693, ht1694, hx1686⟩ := bind_some hx1686
      refine WL.call (some 41) 16 #[(.slice A1229 t1224.1.length c1230), (.agg #[(.int .i64 1), (.int .i64 1), (.slice (some ⟨g1688, 0, none⟩) [0].length 1)])] (fun fb => by kernel_rfl) (tile_Repeats_calls _ t1224.1 (Pattern.mk 1 1 [0]) A1229 c1230 (some ⟨g1688, 0, none⟩) 1 t1693 _ (hS1692.ow 4).ofO (hS1692.ow 0).ofO ht1694) (fun v w1695 hR1696 => ?_)
      obtain ⟨rfl, hk_⟩ := hR1696
      have hS1697 := hS1692.keepN hk_
      refine ⟨trivial, ?_⟩
      refine seg 20 [] [3, 5, 42] [(3, (.slice A1236 t1231.1.length c1237)), (5, (.pointer (some ⟨g1243, 0, none⟩))), (42, (.bool t1693))] [] (fun fb => by kernel_rfl) rfl trivial ?_
      injection hx1686 with hx1686
      exact WL.to K t1693 [3, 5, 42] rfl ⟨⟨(hS1697.subR [0]).sub [3, 1, 2] (by decide), hx1686.symm⟩, trivial⟩
    refine WL.setB 37 h1687 rfl ?_
    refine seg 20 [] [3, 5, 42] [(3, (.slice A1236 t1231.1.length c1237)), (5, (.pointer (some ⟨g1243, 0, none⟩))), (42, (.bool false))] [] (fun fb => by kernel_rfl) rfl trivial ?_
    injection hx1686 with hx1686
    exact WL.to K false [3, 5, 42] rfl ⟨⟨(hS1264.subR [0]).sub [2, 0, 1] (by decide), hx1686.symm⟩, trivial⟩
  rintro y1698 w1700 ⟨⟨hS1701, hq1699⟩, hF1702⟩
  subst hq1699
  refine seg 21 [] [3, 5, 43] [(3, (.slice A1236 t1231.1.length c1237)), (5, (.pointer (some ⟨g1243, 0, none⟩))), (43, (.bool x1685))] [] (fun fb => by kernel_rfl) rfl trivial ?_
  obtain ⟨x1709, hx1710, hf⟩ := bind_some hf
  refine WL.cutW (T := Bool) 25 (fun t => [(3, (.slice A1236 t1231.1.length c1237)), (47, (.bool t))]) (fun t w1 => (St NoS w w1 [cel ⟨2, 0, none⟩ (.int .i64 mG)] [rowO 62 enc_Tile A1236 c1237 t1231.1] ∧ x1709 = t) ∧ CellsOK [] w1) (fun K => ?_) ?_
  ·
    rcases br_some hx1710 with ⟨h1711, hx1710⟩ | ⟨h1711, hx1710⟩
    ·
      refine WL.setB 43 h1711 rfl ?_
      refine seg 23 [.v (.int .i64 2), .v (.int .i64 2), .v (.slice (some ⟨g1238, 0, none⟩) [0, 1, 1, 0].length 4)] [3, 43, 44, 45] [(3, (.slice A1236 t1231.1.length c1237)), (43, (.bool true)), (44, (.slice A1236 t1231.1.length c1237)), (45, (.agg #[(.int .i64 2), (.int .i64 2), (.slice (some ⟨g1238, 0, none⟩) [0, 1, 1, 0].length 4)]))] [.cell ⟨g1243, 0, none⟩ (.int .i64 2), .cell ⟨g1243, 1, none⟩ (.int .i64 2), .cell ⟨g1243, 2, none⟩ (.slice (some ⟨g1238, 0, none⟩) [0, 1, 1, 0].length 4)] (fun fb => by kernel_rfl) rfl ⟨hS1701.cell 1 rfl 0 rfl, hS1701.cell 1 rfl 1 rfl, hS1701.cell 1 rfl 2 rfl, trivial⟩ ?_
      obtain ⟨t1712, ht1713, hx1710⟩ := bind_some hx1710
      refine WL.call (some 46) 16 #[(.slice A1236 t1231.1.length c1237), (.agg #[(.int .i64 2), (.int .i64 2), (.slice (some ⟨g1238, 0, none⟩) [0, 1, 1, 0].length 4)])] (fun fb => by kernel_rfl) (tile_Repeats_calls _ t1231.1 (Pattern.mk 2 2 [0, 1, 1, 0]) A1236 c1237 (some ⟨g1238, 0, none⟩) 4 t1712 _ (hS1701.ow 0).ofO (hS1701.ow 2).ofO ht1713) (fun v w1714 hR1715 => ?_)
      obtain ⟨rfl, hk_⟩ := hR1715
      have hS1716 := hS1701.keepN hk_
      refine ⟨trivial, ?_⟩
      refine seg 25 [] [3, 47] [(3, (.slice A1236 t1231.1.length c1237)), (47, (.bool t1712))] [] (fun fb => by kernel_rfl) rfl trivial ?_
      injection hx1710 with hx1710
      exact WL.to K t1712 [3, 47] rfl ⟨⟨(hS1716.subR [0]).sub [0] (by decide), hx1710.symm⟩, trivial⟩
    refine WL.setB 43 h1711 rfl ?_
    refine seg 25 [] [3, 47] [(3, (.slice A1236 t1231.1.length c1237)), (47, (.bool false))] [] (fun fb => by kernel_rfl) rfl trivial ?_
    injection hx1710 with hx1710
    exact WL.to K false [3, 47] rfl ⟨⟨(hS1701.subR [0]).sub [0] (by decide), hx1710.symm⟩, trivial⟩
  rintro y1717 w1719 ⟨⟨hS1720, hq1718⟩, hF1721⟩
  subst hq1718
  refine seg 26 [] [3, 48] [(3, (.slice A1236 t1231.1.length c1237)), (48, (.bool x1709))] [] (fun fb => by kernel_rfl) rfl trivial ?_
  obtain ⟨x1761, hx1762, hf⟩ := bind_some hf
  refine WL.cutW (T := Bool) 32 (fun t => [(54, (.bool t))]) (fun t w1 => (St NoS w w1 [cel ⟨2, 0, none⟩ (.int .i64 mG)] [] ∧ x1761 = t) ∧ CellsOK [] w1) (fun K => ?_) ?_
  ·
    rcases br_some hx1762 with ⟨h1763, hx1762⟩ | ⟨h1763, hx1762⟩
    ·
      refine WL.setB 48 h1763 rfl ?_
      refine seg 27 [] [48, 49] [(48, (.bool true)), (49, (.slice A1236 t1231.1.length c1237))] [] (fun fb => by kernel_rfl) rfl trivial ?_
      refine WL.new hS1720 50 [] (fun g => (.slice (some ⟨g, 0, none⟩) 2 2)) (.cells #[(.int .i64 0), (.int .i64 0)] 3 (0, 0)) [] (fun fb g => by kernel_rfl) trivial (fun g1764 w1765 hS1766 => ?_)
      refine ⟨trivial, ?_⟩
      have hS1768 : St NoS w w1765 [cel ⟨2, 0, none⟩ (.int .i64 mG)] [rowO 3 encInt (some ⟨g1764, 0, none⟩) 2 [0, 0], rowO 62 enc_Tile A1236 c1237 t1231.1] := hS1766.map1 0 _ (fun h => rowO.ofBlk h rfl (Nat.le_of_ble_eq_true (by kernel_rfl))) (fun _ h => by obtain ⟨_, h1, h2⟩ := h; injection h1 with h1; subst h1; exact h2) [1] (by decide) (by decide)
      refine seg 29 [] [48, 49, 51] [(48, (.bool true)), (49, (.slice A1236 t1231.1.length c1237)), (51, (.agg #[(.int .i64 2), (.int .i64 1), (.slice (some ⟨g1764, 0, none⟩) [0, 0].length 2)]))] [] (fun fb => by kernel_rfl) rfl trivial ?_
      obtain ⟨t1769, ht1770, hx1762⟩ := bind_some hx1762
      refine WL.call (some 52) 14 #[(.slice A1236 t1231.1.length c1237), (.agg #[(.int .i64 2), (.int .i64 1), (.slice (some ⟨g1764, 0, none⟩) [0, 0].length 2)])] (fun fb => by kernel_rfl) (tile_Fits_calls _ t1231.1 (Pattern.mk 2 1 [0, 0]) A1236 c1237 (some ⟨g1764, 0, none⟩) 2 t1769 _ (hS1768.ow 1).ofO (hS1768.ow 0).ofO ht1770) (fun v w1771 hR1772 => ?_)
      obtain ⟨rfl, hk_⟩ := hR1772
      have hS1773 := hS1768.keepN hk_
      refine ⟨trivial, ?_⟩
      refine seg 32 [] [54] [(54, (.bool (!t1769)))] [] (fun fb => by kernel_rfl) rfl trivial ?_
      injection hx1762 with hx1762
      exact WL.to K (!t1769) [54] rfl ⟨⟨(hS1773.subR [0]).sub [] (by decide), hx1762.symm⟩, trivial⟩
    refine WL.setB 48 h1763 rfl ?_
    refine seg 32 [] [54] [(54, (.bool false))] [] (fun fb => by kernel_rfl) rfl trivial ?_
    injection hx1762 with hx1762
    exact WL.to K false [54] rfl ⟨⟨(hS1720.subR [0]).sub [] (by decide), hx1762.symm⟩, trivial⟩
  rintro y1774 w1776 ⟨⟨hS1777, hq1775⟩, hF1778⟩
  subst hq1775
  refine seg 33 [] [0] [(0, (.bool x1761))] [] (fun fb => by kernel_rfl) rfl trivial ?_
  refine WL.done rfl ?_
  refine WX.next ?_
  refine WC.ret ?_
  injection hf with hf
  subst hf
  exact WX.ret_ [] (.bool x1761) [] (fun fb => by kernel_rfl) trivial ⟨_, rfl, rfl, hS1777.keep⟩
theorem ref01_colour_calls (p0 : Int)  (r : Bool) (w : World)  (hf : ref01_colour p0 = some r) :
    CallsR Tryd.prog 47 #[(.int .i64 p0)] w (fun v w' => v = (.bool r) ∧ Keeps NoS w w') := by
  have hS : St NoS w w [] [] := St.init (ro_nil _ _)
  refine enter 9 Tryd.func47 rfl Tryd.ntmps47 rfl ?_
  unfold ref01_colour at hf
  refine WC.seq ?_
  refine WC.region ?_
  refine seg 1 [] [0] [(0, (.int .i64 p0))] [] (fun fb => by kernel_rfl) rfl trivial ?_
  refine WL.done rfl ?_
  refine WX.next ?_
  refine WC.seq ?_
  refine WC.region ?_
  refine seg 3 [] [0, 5] [(0, (.int .i64 p0)), (5, (.bool (decide (p0 ≥ 0))))] [] (fun fb => by kernel_rfl) rfl trivial ?_
  refine WL.cutV (T := Bool) 6 (fun t => [(8, (.bool t))]) (fun t => t = ((decide (p0 ≥ 0)) && (decide (p0 < 1000)))) (fun K => ?_) ?_
  ·
    rcases Bool.eq_false_or_eq_true (decide (p0 ≥ 0)) with h1802 | h1802
    ·
      refine WL.setB 5 h1802 rfl ?_
      refine seg 6 [] [8] [(8, (.bool (decide (p0 < 1000))))] [] (fun fb => by kernel_rfl) rfl trivial ?_
      exact WL.toV K (decide (p0 < 1000)) [8] rfl (by first | (rw [h1802]; done) | (rw [h1802]; rfl))
    refine WL.setB 5 h1802 rfl ?_
    refine seg 6 [] [8] [(8, (.bool false))] [] (fun fb => by kernel_rfl) rfl trivial ?_
    exact WL.toV K false [8] rfl (by first | (rw [h1802]; done) | (rw [h1802]; rfl))
  rintro b1803 rfl
  refine seg 7 [] [2] [(2, (.bool ((decide (p0 ≥ 0)) && (decide (p0 < 1000)))))] [] (fun fb => by kernel_rfl) rfl trivial ?_
  refine WL.done rfl ?_
  refine WX.next ?_
  refine WC.ret ?_
  injection hf with hf
  subst hf
  exact WX.ret_ [] (.bool ((decide (p0 ≥ 0)) && (decide (p0 < 1000)))) [] (fun fb => by kernel_rfl) trivial ⟨_, rfl, rfl, hS.keep⟩
theorem ref01_Index_calls (k : Nat) (p0 : List Tile) (p1 : Tile) (A_p0 : Option Addr) (c_p0 : Nat) (r : Int) (w : World) (hR0 : RO NoS w (rowR enc_Tile A_p0 c_p0 p0)) (hf : ref01_Index k p0 p1 = some r) :
    CallsR Tryd.prog 48 #[(.slice A_p0 p0.length c_p0), (.agg #[(.int .i64 p1.N), (.int .i64 p1.E), (.int .i64 p1.S), (.int .i64 p1.W)])] w (fun v w' => v = (.int .i64 r) ∧ Keeps NoS w w') := by
  have hS : St NoS w w [rowR enc_Tile A_p0 c_p0 p0] [] := St.init (ro_cons hR0 (ro_nil _ _))
  refine enter 19 Tryd.func48 rfl Tryd.ntmps48 rfl ?_
  unfold ref01_Index at hf
  refine WC.seq ?_
  refine WC.region ?_
  refine WL.new hS 3 [] (fun g => (.pointer (some ⟨g, 0, none⟩))) (.cells #[(.int .i64 p1.N), (.int .i64 p1.E), (.int .i64 p1.S), (.int .i64 p1.W)] 62 (0, 0)) [] (fun fb g => by kernel_rfl) trivial (fun g1868 w1869 hS1870 => ?_)
  refine ⟨trivial, ?_⟩
  refine seg 2 [] [0, 3] [(0, (.slice A_p0 p0.length c_p0)), (3, (.pointer (some ⟨g1868, 0, none⟩)))] [] (fun fb => by kernel_rfl) rfl trivial ?_
  refine WL.done rfl ?_
  refine WX.next ?_
  refine WC.seq ?_
  refine WC.seq ?_
  refine WC.region ?_
  refine seg 1 [] [0, 3, 5] [(0, (.slice A_p0 p0.length c_p0)), (3, (.pointer (some ⟨g1868, 0, none⟩))), (5, (.int .i64 0))] [] (fun fb => by kernel_rfl) rfl trivial ?_
  refine WL.done rfl ?_
  refine WX.next ?_
  obtain ⟨x1888, hx1889, hf⟩ := bind_some hf
  refine WC.cutN (T := Unit) (fun t => []) (fun t w1 => St NoS w w1 [rowR enc_Tile A_p0 c_p0 p0] [] ∧ x1888 = .inr t) (fun Kx1888 => ?_) ?_
  ·
    refine WC.block ?_
    refine WC.loop (T := Int) (fun t => [(0, (.slice A_p0 p0.length c_p0)), (3, (.pointer (some ⟨g1868, 0, none⟩))), (5, (.int .i64 t))]) (fun n t w1 => St NoS w w1 [rowR enc_Tile A_p0 c_p0 p0] [blk g1868 (.cells #[(.int .i64 p1.N), (.int .i64 p1.E), (.int .i64 p1.S), (.int .i64 p1.W)] 62 (0, 0))] ∧ ref01_Index.l0 n t p0 p1 = some x1888) k 0 [0, 3, 5] rfl ⟨(hS1870.subR [0]).sub [0] (by decide), hx1889⟩ ?_
    rintro k1890 x1887 w1891 ⟨hS1892, hl1893⟩
    cases k1890 with
    | zero => rw [ref01_Index.l0] at hl1893; cases hl1893
    | succ k1890 =>
      rw [ref01_Index.l0] at hl1893
      refine WC.seq ?_
      refine WC.seq ?_
      refine WC.region ?_
      refine seg 4 [] [0, 3, 5, 9] [(0, (.slice A_p0 p0.length c_p0)), (3, (.pointer (some ⟨g1868, 0, none⟩))), (5, (.int .i64 x1887)), (9, (.bool (decide (x1887 < (p0.length : Int)))))] [] (fun fb => by kernel_rfl) rfl trivial ?_
      refine WL.done rfl ?_
      refine WX.next ?_
      rcases br_some hl1893 with ⟨h1894, hl1893⟩ | ⟨h1894, hl1893⟩
      · refine WC.condT2 (fun fb => by kernel_rfl) h1894 ?_
        refine WC.skip ?_
        refine WX.next ?_
        refine WC.seq ?_
        refine WC.block ?_
        refine WC.seq ?_
        obtain ⟨h1899, hl1893⟩ := as_some hl1893
        refine WC.regionD ([(3, ((adr A_p0).add ((x1887).toNat * 4)), (.int .i64 ((rdD p0 x1887 z_Tile).N))), (3, (((adr A_p0).add ((x1887).toNat * 4)).add 1), (.int .i64 ((rdD p0 x1887 z_Tile).E))), (3, (((adr A_p0).add ((x1887).toNat * 4)).add 2), (.int .i64 ((rdD p0 x1887 z_Tile).S))), (3, (((adr A_p0).add ((x1887).toNat * 4)).add 3), (.int .i64 ((rdD p0 x1887 z_Tile).W))), (4, ⟨g1868, 0, none⟩, (.int .i64 p1.N)), (4, ⟨g1868, 1, none⟩, (.int .i64 p1.E)), (4, ⟨g1868, 2, none⟩, (.int .i64 p1.S)), (4, ⟨g1868, 3, none⟩, (.int .i64 p1.W))], [0, 1, 2, 3, 4, 5], [[], [], [0, 1], [0, 1, 2], [], [0, 1, 2, 3, 4]]) [[0, 1, 2, 3, 4, 5]] (by kernel_rfl) (by kernel_rfl) (NoPanic.seq (NoPanic.block (NoPanic.seq (NoPanic.seq (NoPanic.block (NoPanic.seq (NoPanic.body))))))) ?_
        have hS1897 := hS1892.drew
        revert hS1897
        generalize World.drew w1891 = w1896
        intro hS1897
        refine ⟨⟨rowR.cell (hS1897.rd 0).1 z_Tile h1899.1 h1899.2 0 rfl, rowR.cell (hS1897.rd 0).1 z_Tile h1899.1 h1899.2 1 rfl, rowR.cell (hS1897.rd 0).1 z_Tile h1899.1 h1899.2 2 rfl, rowR.cell (hS1897.rd 0).1 z_Tile h1899.1 h1899.2 3 rfl, hS1897.cell 0 rfl 0 rfl, hS1897.cell 0 rfl 1 rfl, hS1897.cell 0 rfl 2 rfl, hS1897.cell 0 rfl 3 rfl, trivial⟩, forallC ?_ (forallN)⟩
        refine segF 6 [.v (.int .i64 ((rdD p0 x1887 z_Tile).N)), .v (.int .i64 ((rdD p0 x1887 z_Tile).E)), .v (.int .i64 ((rdD p0 x1887 z_Tile).S)), .v (.int .i64 ((rdD p0 x1887 z_Tile).W)), .v (.int .i64 p1.N), .v (.int .i64 p1.E), .v (.int .i64 p1.S), .v (.int .i64 p1.W)] [0, 3, 5, 17] [(0, (.slice A_p0 p0.length c_p0)), (3, (.pointer (some ⟨g1868, 0, none⟩))), (5, (.int .i64 x1887)), (17, (.bool (((rdD p0 x1887 z_Tile).N) == p1.N && (((rdD p0 x1887 z_Tile).E) == p1.E && (((rdD p0 x1887 z_Tile).S) == p1.S && (((rdD p0 x1887 z_Tile).W) == p1.W))))))] [.idx A_p0 x1887 p0.length] [0, 1, 2, 3, 4, 5, 6, 7] [(3, ((adr A_p0).add ((x1887).toNat * 4)), (.int .i64 ((rdD p0 x1887 z_Tile).N))), (3, (((adr A_p0).add ((x1887).toNat * 4)).add 1), (.int .i64 ((rdD p0 x1887 z_Tile).E))), (3, (((adr A_p0).add ((x1887).toNat * 4)).add 2), (.int .i64 ((rdD p0 x1887 z_Tile).S))), (3, (((adr A_p0).add ((x1887).toNat * 4)).add 3), (.int .i64 ((rdD p0 x1887 z_Tile).W))), (4, ⟨g1868, 0, none⟩, (.int .i64 p1.N)), (4, ⟨g1868, 1, none⟩, (.int .i64 p1.E)), (4, ⟨g1868, 2, none⟩, (.int .i64 p1.S)), (4, ⟨g1868, 3, none⟩, (.int .i64 p1.W))] (fun fb => by kernel_rfl) rfl ⟨rowR.adr (hS1897.rd 0).1 h1899.1 h1899.2, trivial⟩ rfl ?_
        refine WL.done rfl ?_
        refine WX.next ?_
        rcases br_some hl1893 with ⟨h1900, hl1893⟩ | ⟨h1900, hl1893⟩
        · refine WC.condT2 (fun fb => by kernel_rfl) h1900 ?_
          refine WC.seq ?_
          refine WC.region ?_
          refine seg 2 [] [4] [(4, (.int .i64 x1887))] [] (fun fb => by kernel_rfl) rfl trivial ?_
          refine WL.done rfl ?_
          refine WX.next ?_
          refine WC.ret ?_
          injection hl1893 with hl1893
          subst hl1893
          injection hf with hf
          subst hf
          exact WX.blockR (WX.thenR (WX.thenR (WX.blockR (WX.thenR (WX.ret_ [] (.int .i64 x1887) [] (fun fb => by kernel_rfl) trivial ⟨_, rfl, rfl, hS1897.keep⟩)))))
        refine WC.condF2 (fun fb => by kernel_rfl) h1900 ?_
        refine WC.skip ?_
        refine WX.blockN (WX.next ?_)
        refine WC.region ?_
        refine seg 3 [] [0, 3, 5] [(0, (.slice A_p0 p0.length c_p0)), (3, (.pointer (some ⟨g1868, 0, none⟩))), (5, (.int .i64 (w64 (x1887 + 1))))] [] (fun fb => by kernel_rfl) rfl trivial ?_
        refine WL.done rfl ?_
        exact WX.again k1890 (Nat.lt_succ_self _) (w64 (x1887 + 1)) [0, 3, 5] rfl ⟨(hS1897.subR [0]).sub [0] (by decide), hl1893⟩
      refine WC.condF2 (fun fb => by kernel_rfl) h1894 ?_
      refine WC.exit ?_
      injection hl1893 with hl1893
      exact WX.thenX (WX.thenX (WX.blockHere (WX.to Kx1888 () [] rfl ⟨(hS1892.subR [0]).sub [] (by decide), hl1893.symm⟩)))
  rintro y1904 w1901 ⟨hS1902, hq1903⟩
  subst hq1903
  have hf := sum_inr hf
  refine WX.next ?_
  refine WC.seq ?_
  refine WC.region ?_
  refine seg 1 [] [4] [(4, (.int .i64 (-1)))] [] (fun fb => by kernel_rfl) rfl trivial ?_
  refine WL.done rfl ?_
  refine WX.next ?_
  refine WC.ret ?_
  injection hf with hf
  subst hf
  exact WX.ret_ [] (.int .i64 (-1)) [] (fun fb => by kernel_rfl) trivial ⟨_, rfl, rfl, hS1902.keep⟩
theorem ref01_Valid_calls (k : Nat) (p0 : List Tile) (A_p0 : Option Addr) (c_p0 : Nat) (r : Bool) (w : World) (hR0 : RO NoS w (rowR enc_Tile A_p0 c_p0 p0)) (hf : ref01_Valid k p0 = some r) :
    CallsR Tryd.prog 17 #[(.slice A_p0 p0.length c_p0)] w (fun v w' => v = (.bool r) ∧ Keeps NoS w w') := by
  have hS : St NoS w w [rowR enc_Tile A_p0 c_p0 p0] [] := St.init (ro_cons hR0 (ro_nil _ _))
  refine enter 48 Tryd.func17 rfl Tryd.ntmps17 rfl ?_
  unfold ref01_Valid at hf
  refine WC.seq ?_
  refine WC.region ?_
  refine seg 1 [] [0] [(0, (.slice A_p0 p0.length c_p0))] [] (fun fb => by kernel_rfl) rfl trivial ?_
  refine WL.done rfl ?_
  refine WX.next ?_
  refine WC.seq ?_
  refine WC.seq ?_
  refine WC.region ?_
  refine seg 3 [] [0, 7] [(0, (.slice A_p0 p0.length c_p0)), (7, (.bool (decide ((p0.length : Int) > 1000))))] [] (fun fb => by kernel_rfl) rfl trivial ?_
  refine WL.done rfl ?_
  refine WX.next ?_
  rcases br_some hf with ⟨h1793, hf⟩ | ⟨h1793, hf⟩
  · refine WC.condT2 (fun fb => by kernel_rfl) h1793 ?_
    refine WC.seq ?_
    refine WC.region ?_
    refine seg 1 [] [2] [(2, (.bool false))] [] (fun fb => by kernel_rfl) rfl trivial ?_
    refine WL.done rfl ?_
    refine WX.next ?_
    refine WC.ret ?_
    injection hf with hf
    subst hf
    exact WX.thenR (WX.ret_ [] (.bool false) [] (fun fb => by kernel_rfl) trivial ⟨_, rfl, rfl, hS.keep⟩)
  refine WC.condF2 (fun fb => by kernel_rfl) h1793 ?_
  refine WC.skip ?_
  refine WX.next ?_
  refine WC.seq ?_
  refine WC.seq ?_
  refine WC.region ?_
  refine seg 1 [] [0, 3] [(0, (.slice A_p0 p0.length c_p0)), (3, (.int .i64 0))] [] (fun fb => by kernel_rfl) rfl trivial ?_
  refine WL.done rfl ?_
  refine WX.next ?_
  obtain ⟨x2198, hx2199, hf⟩ := bind_some hf
  refine WC.cutN (T := Unit) (fun t => []) (fun t w1 => St NoS w w1 [rowR enc_Tile A_p0 c_p0 p0] [] ∧ x2198 = .inr t) (fun Kx2198 => ?_) ?_
  ·
    refine WC.block ?_
    refine WC.loop (T := Int) (fun t => [(0, (.slice A_p0 p0.length c_p0)), (3, (.int .i64 t))]) (fun n t w1 => St NoS w w1 [rowR enc_Tile A_p0 c_p0 p0] [] ∧ ref01_Valid.l0 n t p0 = some x2198) k 0 [0, 3] rfl ⟨(hS.subR [0]).sub [] (by decide), hx2199⟩ ?_
    rintro k2200 x2197 w2201 ⟨hS2202, hl2203⟩
    cases k2200 with
    | zero => rw [ref01_Valid.l0] at hl2203; cases hl2203
    | succ k2200 =>
      rw [ref01_Valid.l0] at hl2203
      refine WC.seq ?_
      refine WC.seq ?_
      refine WC.region ?_
      refine seg 4 [] [0, 3, 11] [(0, (.slice A_p0 p0.length c_p0)), (3, (.int .i64 x2197)), (11, (.bool (decide (x2197 < (p0.length : Int)))))] [] (fun fb => by kernel_rfl) rfl trivial ?_
      refine WL.done rfl ?_
      refine WX.next ?_
      rcases br_some hl2203 with ⟨h2204, hl2203⟩ | ⟨h2204, hl2203⟩
      · refine WC.condT2 (fun fb => by kernel_rfl) h2204 ?_
        refine WC.skip ?_
        refine WX.next ?_
        refine WC.seq ?_
        refine WC.block ?_
        refine WC.seq ?_
        refine WC.region ?_
        refine seg 2 [] [0, 3, 14, 15] [(0, (.slice A_p0 p0.length c_p0)), (3, (.int .i64 x2197)), (14, (.slice A_p0 p0.length c_p0)), (15, (.int .i64 x2197))] [] (fun fb => by kernel_rfl) rfl trivial ?_
        obtain ⟨h2205, hl2203⟩ := as_some hl2203
        refine seg 4 [.v (.int .i64 ((rdD p0 x2197 z_Tile).N)), .v (.int .i64 ((rdD p0 x2197 z_Tile).E)), .v (.int .i64 ((rdD p0 x2197 z_Tile).S)), .v (.int .i64 ((rdD p0 x2197 z_Tile).W))] [0, 3, 17] [(0, (.slice A_p0 p0.length c_p0)), (3, (.int .i64 x2197)), (17, (.agg #[(.int .i64 ((rdD p0 x2197 z_Tile).N)), (.int .i64 ((rdD p0 x2197 z_Tile).E)), (.int .i64 ((rdD p0 x2197 z_Tile).S)), (.int .i64 ((rdD p0 x2197 z_Tile).W))]))] [.idx A_p0 x2197 p0.length, .cell ((adr A_p0).add ((x2197).toNat * 4)) (.int .i64 ((rdD p0 x2197 z_Tile).N)), .cell (((adr A_p0).add ((x2197).toNat * 4)).add 1) (.int .i64 ((rdD p0 x2197 z_Tile).E)), .cell (((adr A_p0).add ((x2197).toNat * 4)).add 2) (.int .i64 ((rdD p0 x2197 z_Tile).S)), .cell (((adr A_p0).add ((x2197).toNat * 4)).add 3) (.int .i64 ((rdD p0 x2197 z_Tile).W))] (fun fb => by kernel_rfl) rfl ⟨rowR.adr (hS2202.rd 0).1 h2205.1 h2205.2, rowR.cell (hS2202.rd 0).1 z_Tile h2205.1 h2205.2 0 rfl, rowR.cell (hS2202.rd 0).1 z_Tile h2205.1 h2205.2 1 rfl, rowR.cell (hS2202.rd 0).1 z_Tile h2205.1 h2205.2 2 rfl, rowR.cell (hS2202.rd 0).1 z_Tile h2205.1 h2205.2 3 rfl, trivial⟩ ?_
        refine WL.new hS2202 4 [] (fun g => (.pointer (some ⟨g, 0, none⟩))) (.cells #[(.int .i64 0), (.int .i64 0), (.int .i64 0), (.int .i64 0)] 62 (0, 0)) [] (fun fb g => by kernel_rfl) trivial (fun g2206 w2207 hS2208 => ?_)
        refine ⟨trivial, ?_⟩
        refine WL.store hS2208 0 rfl [(0, (.int .i64 ((rdD p0 x2197 z_Tile).N))), (1, (.int .i64 ((rdD p0 x2197 z_Tile).E))), (2, (.int .i64 ((rdD p0 x2197 z_Tile).S))), (3, (.int .i64 ((rdD p0 x2197 z_Tile).W)))] #[(.int .i64 ((rdD p0 x2197 z_Tile).N)), (.int .i64 ((rdD p0 x2197 z_Tile).E)), (.int .i64 ((rdD p0 x2197 z_Tile).S)), (.int .i64 ((rdD p0 x2197 z_Tile).W))] (fun fb => by kernel_rfl) (by kernel_rfl) rfl [] (by decide) (by decide) (fun w2210 hS2211 => ?_)
        refine ⟨trivial, ?_⟩
        refine WL.done rfl ?_
        refine WX.next ?_
        refine WC.seq ?_
        refine WC.regionD ([(1, ⟨g2206, 0, none⟩, (.int .i64 ((rdD p0 x2197 z_Tile).N))), (6, ⟨g2206, 1, none⟩, (.int .i64 ((rdD p0 x2197 z_Tile).E))), (12, ⟨g2206, 2, none⟩, (.int .i64 ((rdD p0 x2197 z_Tile).S))), (18, ⟨g2206, 3, none⟩, (.int .i64 ((rdD p0 x2197 z_Tile).W))), (26, ⟨g2206, 0, none⟩, (.int .i64 ((rdD p0 x2197 z_Tile).N))), (26, ⟨g2206, 1, none⟩, (.int .i64 ((rdD p0 x2197 z_Tile).E))), (26, ⟨g2206, 2, none⟩, (.int .i64 ((rdD p0 x2197 z_Tile).S))), (26, ⟨g2206, 3, none⟩, (.int .i64 ((rdD p0 x2197 z_Tile).W)))], [0, 1, 3, 4, 5, 6, 8, 9, 10, 11, 12, 14, 15, 16, 17, 18, 20, 21, 22, 23, 24, 26, 28, 29], [[], [0], [0, 1], [0, 1, 2], [0, 1, 2, 3], [0, 1, 2, 3, 4], [0, 1, 2, 3, 4, 5], [0, 1, 2, 3, 4, 5, 6], [0, 1, 2, 3, 4, 5, 6, 7], [0, 1, 2, 3, 4, 5, 6, 7, 8], [0, 1, 2, 3, 4, 5, 6, 7, 8, 9], [0, 1, 2, 3, 4, 5, 6, 7, 8, 9, 10], [0, 1, 2, 3, 4, 5, 6, 7, 8, 9, 10, 11], [0, 1, 2, 3, 4, 5, 6, 7, 8, 9, 10, 11, 12], [0, 1, 2, 3, 4, 5, 6, 7, 8, 9, 10, 11, 12, 13], [0, 1, 2, 3, 4, 5, 6, 7, 8, 9, 10, 11, 12, 13, 14], [0, 1, 2, 3, 4, 5, 6, 7, 8, 9, 10, 11, 12, 13, 14, 15], [0, 1, 2, 3, 4, 5, 6, 7, 8, 9, 10, 11, 12, 13, 14, 15, 16], [0, 1, 2, 3, 4, 5, 6, 7, 8, 9, 10, 11, 12, 13, 14, 15, 16, 17], [0, 1, 2, 3, 4, 5, 6, 7, 8, 9, 10, 11, 12, 13, 14, 15, 16, 17, 18], [0, 1, 2, 3, 4, 5, 6, 7, 8, 9, 10, 11, 12, 13, 14, 15, 16, 17, 18, 19], [0, 1, 2, 3, 4, 5, 6, 7, 8, 9, 10, 11, 12, 13, 14, 15, 16, 17, 18, 19, 20], [0, 1, 2, 3, 4, 5, 6, 7, 8, 9, 10, 11, 12, 13, 14, 15, 16, 17, 18, 19, 20, 21], [0, 1, 2, 3, 4, 5, 6, 7, 8, 9, 10, 11, 12, 13, 14, 15, 16, 17, 18, 19, 20, 21, 22], [0, 1, 2, 3, 4, 5, 6, 7, 8, 9, 10, 11, 12, 13, 14, 15, 16, 17, 18, 19, 20, 21, 22], [0, 1, 2, 3, 4, 5, 6, 7, 8, 9, 10, 11, 12, 13, 14, 15, 16, 17, 18, 19, 20, 21, 22, 23, 24], [0, 1, 2, 3, 4, 5, 6, 7, 8, 9, 10, 11, 12, 13, 14, 15, 16, 17, 18, 19, 20, 21, 22], [0, 1, 2, 3, 4, 5, 6, 7, 8, 9, 10, 11, 12, 13, 14, 15, 16, 17, 18, 19, 20, 21, 22, 23, 24, 25, 26], [0, 1, 2, 3, 4, 5, 6, 7, 8, 9, 10, 11, 12, 13, 14, 15, 16, 17, 18, 19, 20, 21, 22, 23, 24, 25, 26, 27], [0, 1, 2, 3, 4, 5, 6, 7, 8, 9, 10, 11, 12, 13, 14, 15, 16, 17, 18, 19, 20, 21, 22, 23, 24, 25, 26, 27, 28]]) [[0, 1, 2, 3, 4, 5, 6, 7, 8, 9, 10, 11, 12, 13, 14, 15, 16, 17, 18, 19, 20, 21, 22, 23, 24, 26, 25, 27, 28, 29]] (by kernel_rfl) (by kernel_rfl) (NoPanic.seq (NoPanic.block (NoPanic.seq (NoPanic.seq (NoPanic.block (NoPanic.seq (NoPanic.body))))))) ?_
        have hS2298 := hS2211.drew
        revert hS2298
        generalize World.drew w2210 = w2297
        intro hS2298
        refine ⟨⟨hS2298.cell 0 rfl 0 rfl, hS2298.cell 0 rfl 1 rfl, hS2298.cell 0 rfl 2 rfl, hS2298.cell 0 rfl 3 rfl, hS2298.cell 0 rfl 0 rfl, hS2298.cell 0 rfl 1 rfl, hS2298.cell 0 rfl 2 rfl, hS2298.cell 0 rfl 3 rfl, trivial⟩, forallC ?_ (forallN)⟩
        refine segF 2 [.v (.int .i64 ((rdD p0 x2197 z_Tile).N))] [0, 3, 4, 19] [(0, (.slice A_p0 p0.length c_p0)), (3, (.int .i64 x2197)), (4, (.pointer (some ⟨g2206, 0, none⟩))), (19, (.int .i64 ((rdD p0 x2197 z_Tile).N)))] [] [0] [(1, ⟨g2206, 0, none⟩, (.int .i64 ((rdD p0 x2197 z_Tile).N)))] (fun fb => by kernel_rfl) rfl trivial rfl ?_
        obtain ⟨t2299, ht2300, hl2203⟩ := bind_some hl2203
        refine WL.call (some 20) 47 #[(.int .i64 ((rdD p0 x2197 z_Tile).N))] (fun fb => by kernel_rfl) (ref01_colour_calls ((rdD p0 x2197 z_Tile).N) t2299 _ ht2300) (fun v w2301 hR2302 => ?_)
        obtain ⟨rfl, hk_⟩ := hR2302
        have hS2303 := hS2298.keepN hk_
        refine ⟨⟨hS2303.cell 0 rfl 1 rfl, hS2303.cell 0 rfl 2 rfl, hS2303.cell 0 rfl 3 rfl, hS2303.cell 0 rfl 0 rfl, hS2303.cell 0 rfl 1 rfl, hS2303.cell 0 rfl 2 rfl, hS2303.cell 0 rfl 3 rfl, trivial⟩, ?_⟩
        refine seg 5 [] [0, 3, 4, 22] [(0, (.slice A_p0 p0.length c_p0)), (3, (.int .i64 x2197)), (4, (.pointer (some ⟨g2206, 0, none⟩))), (22, (.bool (!t2299)))] [] (fun fb => by kernel_rfl) rfl trivial ?_
        obtain ⟨x2310, hx2311, hl2203⟩ := bind_some hl2203
        refine WL.cutW (T := Bool) 10 (fun t => [(0, (.slice A_p0 p0.length c_p0)), (3, (.int .i64 x2197)), (4, (.pointer (some ⟨g2206, 0, none⟩))), (27, (.bool t))]) (fun t w1 => (St NoS w w1 [rowR enc_Tile A_p0 c_p0 p0] [blk g2206 (.cells #[(.int .i64 ((rdD p0 x2197 z_Tile).N)), (.int .i64 ((rdD p0 x2197 z_Tile).E)), (.int .i64 ((rdD p0 x2197 z_Tile).S)), (.int .i64 ((rdD p0 x2197 z_Tile).W))] 62 (0, 0))] ∧ x2310 = t) ∧ CellsOK [] w1) (fun K => ?_) ?_
        ·
          rcases br_some hx2311 with ⟨h2312, hx2311⟩ | ⟨h2312, hx2311⟩
          ·
            refine WL.setB 22 h2312 rfl ?_
            refine seg 10 [] [0, 3, 4, 27] [(0, (.slice A_p0 p0.length c_p0)), (3, (.int .i64 x2197)), (4, (.pointer (some ⟨g2206, 0, none⟩))), (27, (.bool true))] [] (fun fb => by kernel_rfl) rfl trivial ?_
            injection hx2311 with hx2311
            exact WL.to K true [0, 3, 4, 27] rfl ⟨⟨(hS2303.subR [0]).sub [0] (by decide), hx2311.symm⟩, trivial⟩
          refine WL.setB 22 h2312 rfl ?_
          refine segF 7 [.v (.int .i64 ((rdD p0 x2197 z_Tile).E))] [0, 3, 4, 22, 24] [(0, (.slice A_p0 p0.length c_p0)), (3, (.int .i64 x2197)), (4, (.pointer (some ⟨g2206, 0, none⟩))), (22, (.bool false)), (24, (.int .i64 ((rdD p0 x2197 z_Tile).E)))] [] [1] [(6, ⟨g2206, 1, none⟩, (.int .i64 ((rdD p0 x2197 z_Tile).E)))] (fun fb => by kernel_rfl) rfl trivial rfl ?_
          obtain ⟨t2313, ht2314, hx2311⟩ := bind_some hx2311
          refine WL.call (some 25) 47 #[(.int .i64 ((rdD p0 x2197 z_Tile).E))] (fun fb => by kernel_rfl) (ref01_colour_calls ((rdD p0 x2197 z_Tile).E) t2313 _ ht2314) (fun v w2315 hR2316 => ?_)
          obtain ⟨rfl, hk_⟩ := hR2316
          have hS2317 := hS2303.keepN hk_
          refine ⟨⟨hS2317.cell 0 rfl 2 rfl, hS2317.cell 0 rfl 3 rfl, hS2317.cell 0 rfl 0 rfl, hS2317.cell 0 rfl 1 rfl, hS2317.cell 0 rfl 2 rfl, hS2317.cell 0 rfl 3 rfl, trivial⟩, ?_⟩
          refine seg 10 [] [0, 3, 4, 27] [(0, (.slice A_p0 p0.length c_p0)), (3, (.int .i64 x2197)), (4, (.pointer (some ⟨g2206, 0, none⟩))), (27, (.bool (!t2313)))] [] (fun fb => by kernel_rfl) rfl trivial ?_
          injection hx2311 with hx2311
          exact WL.to K (!t2313) [0, 3, 4, 27] rfl ⟨⟨(hS2317.subR [0]).sub [0] (by decide), hx2311.symm⟩, trivial⟩
        rintro y2318 w2320 ⟨⟨hS2321, hq2319⟩, hF2322⟩
        subst hq2319
        refine seg 11 [] [0, 3, 4, 28] [(0, (.slice A_p0 p0.length c_p0)), (3, (.int .i64 x2197)), (4, (.pointer (some ⟨g2206, 0, none⟩))), (28, (.bool x2310))] [] (fun fb => by kernel_rfl) rfl trivial ?_
        obtain ⟨x2329, hx2330, hl2203⟩ := bind_some hl2203
        refine WL.cutW (T := Bool) 16 (fun t => [(0, (.slice A_p0 p0.length c_p0)), (3, (.int .i64 x2197)), (4, (.pointer (some ⟨g2206, 0, none⟩))), (33, (.bool t))]) (fun t w1 => (St NoS w w1 [rowR enc_Tile A_p0 c_p0 p0] [blk g2206 (.cells #[(.int .i64 ((rdD p0 x2197 z_Tile).N)), (.int .i64 ((rdD p0 x2197 z_Tile).E)), (.int .i64 ((rdD p0 x2197 z_Tile).S)), (.int .i64 ((rdD p0 x2197 z_Tile).W))] 62 (0, 0))] ∧ x2329 = t) ∧ CellsOK [] w1) (fun K => ?_) ?_
        ·
          rcases br_some hx2330 with ⟨h2331, hx2330⟩ | ⟨h2331, hx2330⟩
          ·
            refine WL.setB 28 h2331 rfl ?_
            refine seg 16 [] [0, 3, 4, 33] [(0, (.slice A_p0 p0.length c_p0)), (3, (.int .i64 x2197)), (4, (.pointer (some ⟨g2206, 0, none⟩))), (33, (.bool true))] [] (fun fb => by kernel_rfl) rfl trivial ?_
            injection hx2330 with hx2330
            exact WL.to K true [0, 3, 4, 33] rfl ⟨⟨(hS2321.subR [0]).sub [0] (by decide), hx2330.symm⟩, trivial⟩
          refine WL.setB 28 h2331 rfl ?_
          refine segF 13 [.v (.int .i64 ((rdD p0 x2197 z_Tile).S))] [0, 3, 4, 28, 30] [(0, (.slice A_p0 p0.length c_p0)), (3, (.int .i64 x2197)), (4, (.pointer (some ⟨g2206, 0, none⟩))), (28, (.bool false)), (30, (.int .i64 ((rdD p0 x2197 z_Tile).S)))] [] [2] [(12, ⟨g2206, 2, none⟩, (.int .i64 ((rdD p0 x2197 z_Tile).S)))] (fun fb => by kernel_rfl) rfl trivial rfl ?_
          obtain ⟨t2332, ht2333, hx2330⟩ := bind_some hx2330
          refine WL.call (some 31) 47 #[(.int .i64 ((rdD p0 x2197 z_Tile).S))] (fun fb => by kernel_rfl) (ref01_colour_calls ((rdD p0 x2197 z_Tile).S) t2332 _ ht2333) (fun v w2334 hR2335 => ?_)
          obtain ⟨rfl, hk_⟩ := hR2335
          have hS2336 := hS2321.keepN hk_
          refine ⟨⟨hS2336.cell 0 rfl 3 rfl, hS2336.cell 0 rfl 0 rfl, hS2336.cell 0 rfl 1 rfl, hS2336.cell 0 rfl 2 rfl, hS2336.cell 0 rfl 3 rfl, trivial⟩, ?_⟩
          refine seg 16 [] [0, 3, 4, 33] [(0, (.slice A_p0 p0.length c_p0)), (3, (.int .i64 x2197)), (4, (.pointer (some ⟨g2206, 0, none⟩))), (33, (.bool (!t2332)))] [] (fun fb => by kernel_rfl) rfl trivial ?_
          injection hx2330 with hx2330
          exact WL.to K (!t2332) [0, 3, 4, 33] rfl ⟨⟨(hS2336.subR [0]).sub [0] (by decide), hx2330.symm⟩, trivial⟩
        rintro y2337 w2339 ⟨⟨hS2340, hq2338⟩, hF2341⟩
        subst hq2338
        refine seg 17 [] [0, 3, 4, 34] [(0, (.slice A_p0 p0.length c_p0)), (3, (.int .i64 x2197)), (4, (.pointer (some ⟨g2206, 0, none⟩))), (34, (.bool x2329))] [] (fun fb => by kernel_rfl) rfl trivial ?_
        obtain ⟨x2348, hx2349, hl2203⟩ := bind_some hl2203
        refine WL.cutW (T := Bool) 22 (fun t => [(0, (.slice A_p0 p0.length c_p0)), (3, (.int .i64 x2197)), (4, (.pointer (some ⟨g2206, 0, none⟩))), (39, (.bool t))]) (fun t w1 => (St NoS w w1 [rowR enc_Tile A_p0 c_p0 p0] [blk g2206 (.cells #[(.int .i64 ((rdD p0 x2197 z_Tile).N)), (.int .i64 ((rdD p0 x2197 z_Tile).E)), (.int .i64 ((rdD p0 x2197 z_Tile).S)), (.int .i64 ((rdD p0 x2197 z_Tile).W))] 62 (0, 0))] ∧ x2348 = t) ∧ CellsOK [] w1) (fun K => ?_) ?_
        ·
          rcases br_some hx2349 with ⟨h2350, hx2349⟩ | ⟨h2350, hx2349⟩
          ·
            refine WL.setB 34 h2350 rfl ?_
            refine seg 22 [] [0, 3, 4, 39] [(0, (.slice A_p0 p0.length c_p0)), (3, (.int .i64 x2197)), (4, (.pointer (some ⟨g2206, 0, none⟩))), (39, (.bool true))] [] (fun fb => by kernel_rfl) rfl trivial ?_
            injection hx2349 with hx2349
            exact WL.to K true [0, 3, 4, 39] rfl ⟨⟨(hS2340.subR [0]).sub [0] (by decide), hx2349.symm⟩, trivial⟩
          refine WL.setB 34 h2350 rfl ?_
          refine segF 19 [.v (.int .i64 ((rdD p0 x2197 z_Tile).W))] [0, 3, 4, 34, 36] [(0, (.slice A_p0 p0.length c_p0)), (3, (.int .i64 x2197)), (4, (.pointer (some ⟨g2206, 0, none⟩))), (34, (.bool false)), (36, (.int .i64 ((rdD p0 x2197 z_Tile).W)))] [] [3] [(18, ⟨g2206, 3, none⟩, (.int .i64 ((rdD p0 x2197 z_Tile).W)))] (fun fb => by kernel_rfl) rfl trivial rfl ?_
          obtain ⟨t2351, ht2352, hx2349⟩ := bind_some hx2349
          refine WL.call (some 37) 47 #[(.int .i64 ((rdD p0 x2197 z_Tile).W))] (fun fb => by kernel_rfl) (ref01_colour_calls ((rdD p0 x2197 z_Tile).W) t2351 _ ht2352) (fun v w2353 hR2354 => ?_)
          obtain ⟨rfl, hk_⟩ := hR2354
          have hS2355 := hS2340.keepN hk_
          refine ⟨⟨hS2355.cell 0 rfl 0 rfl, hS2355.cell 0 rfl 1 rfl, hS2355.cell 0 rfl 2 rfl, hS2355.cell 0 rfl 3 rfl, trivial⟩, ?_⟩
          refine seg 22 [] [0, 3, 4, 39] [(0, (.slice A_p0 p0.length c_p0)), (3, (.int .i64 x2197)), (4, (.pointer (some ⟨g2206, 0, none⟩))), (39, (.bool (!t2351)))] [] (fun fb => by kernel_rfl) rfl trivial ?_
          injection hx2349 with hx2349
          exact WL.to K (!t2351) [0, 3, 4, 39] rfl ⟨⟨(hS2355.subR [0]).sub [0] (by decide), hx2349.symm⟩, trivial⟩
        rintro y2356 w2358 ⟨⟨hS2359, hq2357⟩, hF2360⟩
        subst hq2357
        refine seg 23 [] [0, 3, 4, 40] [(0, (.slice A_p0 p0.length c_p0)), (3, (.int .i64 x2197)), (4, (.pointer (some ⟨g2206, 0, none⟩))), (40, (.bool x2348))] [] (fun fb => by kernel_rfl) rfl trivial ?_
        obtain ⟨x2369, hx2370, hl2203⟩ := bind_some hl2203
        refine WL.cutW (T := Bool) 30 (fun t => [(0, (.slice A_p0 p0.length c_p0)), (3, (.int .i64 x2197)), (47, (.bool t))]) (fun t w1 => (St NoS w w1 [rowR enc_Tile A_p0 c_p0 p0] [] ∧ x2369 = t) ∧ CellsOK [] w1) (fun K => ?_) ?_
        ·
          rcases br_some hx2370 with ⟨h2371, hx2370⟩ | ⟨h2371, hx2370⟩
          ·
            refine WL.setB 40 h2371 rfl ?_
            refine seg 30 [] [0, 3, 47] [(0, (.slice A_p0 p0.length c_p0)), (3, (.int .i64 x2197)), (47, (.bool true))] [] (fun fb => by kernel_rfl) rfl trivial ?_
            injection hx2370 with hx2370
            exact WL.to K true [0, 3, 47] rfl ⟨⟨(hS2359.subR [0]).sub [] (by decide), hx2370.symm⟩, trivial⟩
          refine WL.setB 40 h2371 rfl ?_
          refine segF 26 [.v (.int .i64 ((rdD p0 x2197 z_Tile).N)), .v (.int .i64 ((rdD p0 x2197 z_Tile).E)), .v (.int .i64 ((rdD p0 x2197 z_Tile).S)), .v (.int .i64 ((rdD p0 x2197 z_Tile).W))] [0, 3, 40, 41, 42, 44] [(0, (.slice A_p0 p0.length c_p0)), (3, (.int .i64 x2197)), (40, (.bool false)), (41, (.slice A_p0 p0.length c_p0)), (42, (.int .i64 x2197)), (44, (.agg #[(.int .i64 ((rdD p0 x2197 z_Tile).N)), (.int .i64 ((rdD p0 x2197 z_Tile).E)), (.int .i64 ((rdD p0 x2197 z_Tile).S)), (.int .i64 ((rdD p0 x2197 z_Tile).W))]))] [] [4, 5, 6, 7] [(26, ⟨g2206, 0, none⟩, (.int .i64 ((rdD p0 x2197 z_Tile).N))), (26, ⟨g2206, 1, none⟩, (.int .i64 ((rdD p0 x2197 z_Tile).E))), (26, ⟨g2206, 2, none⟩, (.int .i64 ((rdD p0 x2197 z_Tile).S))), (26, ⟨g2206, 3, none⟩, (.int .i64 ((rdD p0 x2197 z_Tile).W)))] (fun fb => by kernel_rfl) rfl trivial rfl ?_
          obtain ⟨h2372, hx2370⟩ := as_some hx2370
          refine seg 27 [] [0, 3, 40, 43, 44] [(0, (.slice A_p0 p0.length c_p0)), (3, (.int .i64 x2197)), (40, (.bool false)), (43, (.slice (subA A_p0 c_p0 (0 : Int).toNat 4) (x2197.toNat - (0 : Int).toNat) (c_p0 - (0 : Int).toNat))), (44, (.agg #[(.int .i64 ((rdD p0 x2197 z_Tile).N)), (.int .i64 ((rdD p0 x2197 z_Tile).E)), (.int .i64 ((rdD p0 x2197 z_Tile).S)), (.int .i64 ((rdD p0 x2197 z_Tile).W))]))] [.idx (some ⟨0, 0, none⟩) (0 : Int) (x2197.toNat + 1), .idx (some ⟨0, 0, none⟩) x2197 (c_p0 + 1)] (fun fb => by kernel_rfl) rfl ⟨cut1 h2372.1 h2372.2.1, cut2 h2372.1 h2372.2.1 h2372.2.2 (hS2359.rd 0).1.2, trivial⟩ ?_
          refine WL.reE [0, 3, 40, 43, 44] [(0, (.slice A_p0 p0.length c_p0)), (3, (.int .i64 x2197)), (40, (.bool false)), (43, (.slice (subA A_p0 c_p0 (0 : Int).toNat 4) (x2197.toNat - (0 : Int).toNat) (c_p0 - (0 : Int).toNat))), (44, (.agg #[(.int .i64 ((rdD p0 x2197 z_Tile).N)), (.int .i64 ((rdD p0 x2197 z_Tile).E)), (.int .i64 ((rdD p0 x2197 z_Tile).S)), (.int .i64 ((rdD p0 x2197 z_Tile).W))]))] [(0, (.slice A_p0 p0.length c_p0)), (3, (.int .i64 x2197)), (40, (.bool false)), (43, (.slice (subA A_p0 c_p0 (0 : Int).toNat 4) (cut p0 (0 : Int) x2197).length (c_p0 - (0 : Int).toNat))), (44, (.agg #[(.int .i64 ((rdD p0 x2197 z_Tile).N)), (.int .i64 ((rdD p0 x2197 z_Tile).E)), (.int .i64 ((rdD p0 x2197 z_Tile).S)), (.int .i64 ((rdD p0 x2197 z_Tile).W))]))] rfl (by rw [cut_length h2372.1 h2372.2.1 h2372.2.2]) ?_
          have hS2373 := hS2359.cutR 0 rfl h2372.1 h2372.2.1 h2372.2.2
          obtain ⟨t2374, ht2375, hx2370⟩ := bind_some hx2370
          refine WL.call (some 45) 48 #[(.slice (subA A_p0 c_p0 (0 : Int).toNat 4) (cut p0 (0 : Int) x2197).length (c_p0 - (0 : Int).toNat)), (.agg #[(.int .i64 ((rdD p0 x2197 z_Tile).N)), (.int .i64 ((rdD p0 x2197 z_Tile).E)), (.int .i64 ((rdD p0 x2197 z_Tile).S)), (.int .i64 ((rdD p0 x2197 z_Tile).W))])] (fun fb => by kernel_rfl) (ref01_Index_calls _ (cut p0 (0 : Int) x2197) (rdD p0 x2197 z_Tile) (subA A_p0 c_p0 (0 : Int).toNat 4) (c_p0 - (0 : Int).toNat) t2374 _ (hS2373.rd 0) ht2375) (fun v w2376 hR2377 => ?_)
          obtain ⟨rfl, hk_⟩ := hR2377
          have hS2378 := hS2373.keepN hk_
          refine ⟨trivial, ?_⟩
          refine seg 30 [] [0, 3, 47] [(0, (.slice A_p0 p0.length c_p0)), (3, (.int .i64 x2197)), (47, (.bool (decide (t2374 ≥ 0))))] [] (fun fb => by kernel_rfl) rfl trivial ?_
          injection hx2370 with hx2370
          exact WL.to K (decide (t2374 ≥ 0)) [0, 3, 47] rfl ⟨⟨(hS2378.subR [1]).sub [] (by decide), hx2370.symm⟩, trivial⟩
        rintro y2379 w2381 ⟨⟨hS2382, hq2380⟩, hF2383⟩
        subst hq2380
        refine WL.done rfl ?_
        refine WX.next ?_
        rcases br_some hl2203 with ⟨h2384, hl2203⟩ | ⟨h2384, hl2203⟩
        · refine WC.condT2 (fun fb => by kernel_rfl) h2384 ?_
          refine WC.seq ?_
          refine WC.region ?_
          refine seg 1 [] [2] [(2, (.bool false))] [] (fun fb => by kernel_rfl) rfl trivial ?_
          refine WL.done rfl ?_
          refine WX.next ?_
          refine WC.ret ?_
          injection hl2203 with hl2203
          subst hl2203
          injection hf with hf
          subst hf
          exact WX.blockR (WX.thenR (WX.thenR (WX.blockR (WX.thenR (WX.ret_ [] (.bool false) [] (fun fb => by kernel_rfl) trivial ⟨_, rfl, rfl, hS2382.keep⟩)))))
        refine WC.condF2 (fun fb => by kernel_rfl) h2384 ?_
        refine WC.skip ?_
        refine WX.blockN (WX.next ?_)
        refine WC.region ?_
        refine seg 3 [] [0, 3] [(0, (.slice A_p0 p0.length c_p0)), (3, (.int .i64 (w64 (x2197 + 1))))] [] (fun fb => by kernel_rfl) rfl trivial ?_
        refine WL.done rfl ?_
        exact WX.again k2200 (Nat.lt_succ_self _) (w64 (x2197 + 1)) [0, 3] rfl ⟨(hS2382.subR [0]).sub [] (by decide), hl2203⟩
      refine WC.condF2 (fun fb => by kernel_rfl) h2204 ?_
      refine WC.exit ?_
      injection hl2203 with hl2203
      exact WX.thenX (WX.thenX (WX.blockHere (WX.to Kx2198 () [] rfl ⟨(hS2202.subR [0]).sub [] (by decide), hl2203.symm⟩)))
  rintro y2388 w2385 ⟨hS2386, hq2387⟩
  subst hq2387
  have hf := sum_inr hf
  refine WX.next ?_
  refine WC.seq ?_
  refine WC.region ?_
  refine seg 1 [] [2] [(2, (.bool true))] [] (fun fb => by kernel_rfl) rfl trivial ?_
  refine WL.done rfl ?_
  refine WX.next ?_
  refine WC.ret ?_
  injection hf with hf
  subst hf
  exact WX.ret_ [] (.bool true) [] (fun fb => by kernel_rfl) trivial ⟨_, rfl, rfl, hS2386.keep⟩
theorem ref01_Form_calls (p0 : Pattern) (A_p0_Cells : Option Addr) (c_p0_Cells : Nat) (r : Bool) (w : World) (hR0 : RO NoS w (rowR encInt A_p0_Cells c_p0_Cells p0.Cells)) (hf : ref01_Form p0 = some r) :
    CallsR Tryd.prog 33 #[(.agg #[(.int .i64 p0.Width), (.int .i64 p0.Height), (.slice A_p0_Cells p0.Cells.length c_p0_Cells)])] w (fun v w' => v = (.bool r) ∧ Keeps NoS w w') := by
  have hS : St NoS w w [rowR encInt A_p0_Cells c_p0_Cells p0.Cells] [] := St.init (ro_cons hR0 (ro_nil _ _))
  refine enter 40 Tryd.func33 rfl Tryd.ntmps33 rfl ?_
  unfold ref01_Form at hf
  refine WC.seq ?_
  refine WC.region ?_
  refine WL.new hS 1 [] (fun g => (.pointer (some ⟨g, 0, none⟩))) (.cells #[(.int .i64 p0.Width), (.int .i64 p0.Height), (.slice A_p0_Cells p0.Cells.length c_p0_Cells)] 35 (0, 0)) [] (fun fb g => by kernel_rfl) trivial (fun g2399 w2400 hS2401 => ?_)
  refine ⟨trivial, ?_⟩
  refine seg 2 [] [1] [(1, (.pointer (some ⟨g2399, 0, none⟩)))] [] (fun fb => by kernel_rfl) rfl trivial ?_
  refine WL.done rfl ?_
  refine WX.next ?_
  refine WC.seq ?_
  refine WC.region ?_
  refine seg 4 [.v (.int .i64 p0.Width)] [1, 6] [(1, (.pointer (some ⟨g2399, 0, none⟩))), (6, (.bool (decide (p0.Width ≥ 1))))] [.cell ⟨g2399, 0, none⟩ (.int .i64 p0.Width)] (fun fb => by kernel_rfl) rfl ⟨hS2401.cell 0 rfl 0 rfl, trivial⟩ ?_
  refine WL.cutV (T := Bool) 8 (fun t => [(10, (.bool t)), (1, (.pointer (some ⟨g2399, 0, none⟩)))]) (fun t => t = ((decide (p0.Width ≥ 1)) && (decide (p0.Height ≥ 1)))) (fun K => ?_) ?_
  ·
    rcases Bool.eq_false_or_eq_true (decide (p0.Width ≥ 1)) with h2403 | h2403
    ·
      refine WL.setB 6 h2403 rfl ?_
      refine seg 8 [.v (.int .i64 p0.Height)] [1, 10] [(1, (.pointer (some ⟨g2399, 0, none⟩))), (10, (.bool (decide (p0.Height ≥ 1))))] [.cell ⟨g2399, 1, none⟩ (.int .i64 p0.Height)] (fun fb => by kernel_rfl) rfl ⟨hS2401.cell 0 rfl 1 rfl, trivial⟩ ?_
      exact WL.toV K (decide (p0.Height ≥ 1)) [10, 1] rfl (by first | (rw [h2403]; done) | (rw [h2403]; rfl))
    refine WL.setB 6 h2403 rfl ?_
    refine seg 8 [] [1, 10] [(1, (.pointer (some ⟨g2399, 0, none⟩))), (10, (.bool false))] [] (fun fb => by kernel_rfl) rfl trivial ?_
    exact WL.toV K false [10, 1] rfl (by first | (rw [h2403]; done) | (rw [h2403]; rfl))
  rintro b2404 rfl
  refine seg 9 [] [1, 11] [(1, (.pointer (some ⟨g2399, 0, none⟩))), (11, (.bool ((decide (p0.Width ≥ 1)) && (decide (p0.Height ≥ 1)))))] [] (fun fb => by kernel_rfl) rfl trivial ?_
  refine WL.cutV (T := Bool) 13 (fun t => [(15, (.bool t)), (1, (.pointer (some ⟨g2399, 0, none⟩)))]) (fun t => t = (((decide (p0.Width ≥ 1)) && (decide (p0.Height ≥ 1))) && (decide (p0.Width ≤ 40000)))) (fun K => ?_) ?_
  ·
    rcases Bool.eq_false_or_eq_true ((decide (p0.Width ≥ 1)) && (decide (p0.Height ≥ 1))) with h2405 | h2405
    ·
      refine WL.setB 11 h2405 rfl ?_
      refine seg 13 [.v (.int .i64 p0.Width)] [1, 15] [(1, (.pointer (some ⟨g2399, 0, none⟩))), (15, (.bool (decide (p0.Width ≤ 40000))))] [.cell ⟨g2399, 0, none⟩ (.int .i64 p0.Width)] (fun fb => by kernel_rfl) rfl ⟨hS2401.cell 0 rfl 0 rfl, trivial⟩ ?_
      exact WL.toV K (decide (p0.Width ≤ 40000)) [15, 1] rfl (by first | (rw [h2405]; done) | (rw [h2405]; rfl))
    refine WL.setB 11 h2405 rfl ?_
    refine seg 13 [] [1, 15] [(1, (.pointer (some ⟨g2399, 0, none⟩))), (15, (.bool false))] [] (fun fb => by kernel_rfl) rfl trivial ?_
    exact WL.toV K false [15, 1] rfl (by first | (rw [h2405]; done) | (rw [h2405]; rfl))
  rintro b2406 rfl
  refine seg 14 [] [1, 16] [(1, (.pointer (some ⟨g2399, 0, none⟩))), (16, (.bool (((decide (p0.Width ≥ 1)) && (decide (p0.Height ≥ 1))) && (decide (p0.Width ≤ 40000)))))] [] (fun fb => by kernel_rfl) rfl trivial ?_
  refine WL.cutV (T := Bool) 18 (fun t => [(20, (.bool t)), (1, (.pointer (some ⟨g2399, 0, none⟩)))]) (fun t => t = ((((decide (p0.Width ≥ 1)) && (decide (p0.Height ≥ 1))) && (decide (p0.Width ≤ 40000))) && (decide (p0.Height ≤ 40000)))) (fun K => ?_) ?_
  ·
    rcases Bool.eq_false_or_eq_true (((decide (p0.Width ≥ 1)) && (decide (p0.Height ≥ 1))) && (decide (p0.Width ≤ 40000))) with h2407 | h2407
    ·
      refine WL.setB 16 h2407 rfl ?_
      refine seg 18 [.v (.int .i64 p0.Height)] [1, 20] [(1, (.pointer (some ⟨g2399, 0, none⟩))), (20, (.bool (decide (p0.Height ≤ 40000))))] [.cell ⟨g2399, 1, none⟩ (.int .i64 p0.Height)] (fun fb => by kernel_rfl) rfl ⟨hS2401.cell 0 rfl 1 rfl, trivial⟩ ?_
      exact WL.toV K (decide (p0.Height ≤ 40000)) [20, 1] rfl (by first | (rw [h2407]; done) | (rw [h2407]; rfl))
    refine WL.setB 16 h2407 rfl ?_
    refine seg 18 [] [1, 20] [(1, (.pointer (some ⟨g2399, 0, none⟩))), (20, (.bool false))] [] (fun fb => by kernel_rfl) rfl trivial ?_
    exact WL.toV K false [20, 1] rfl (by first | (rw [h2407]; done) | (rw [h2407]; rfl))
  rintro b2408 rfl
  refine seg 19 [] [1, 21] [(1, (.pointer (some ⟨g2399, 0, none⟩))), (21, (.bool ((((decide (p0.Width ≥ 1)) && (decide (p0.Height ≥ 1))) && (decide (p0.Width ≤ 40000))) && (decide (p0.Height ≤ 40000)))))] [] (fun fb => by kernel_rfl) rfl trivial ?_
  refine WL.cutV (T := Bool) 26 (fun t => [(28, (.bool t)), (1, (.pointer (some ⟨g2399, 0, none⟩)))]) (fun t => t = (((((decide (p0.Width ≥ 1)) && (decide (p0.Height ≥ 1))) && (decide (p0.Width ≤ 40000))) && (decide (p0.Height ≤ 40000))) && (decide (w64 (p0.Width * p0.Height) ≤ 40000)))) (fun K => ?_) ?_
  ·
    rcases Bool.eq_false_or_eq_true ((((decide (p0.Width ≥ 1)) && (decide (p0.Height ≥ 1))) && (decide (p0.Width ≤ 40000))) && (decide (p0.Height ≤ 40000))) with h2409 | h2409
    ·
      refine WL.setB 21 h2409 rfl ?_
      refine seg 26 [.v (.int .i64 p0.Width), .v (.int .i64 p0.Height)] [1, 28] [(1, (.pointer (some ⟨g2399, 0, none⟩))), (28, (.bool (decide (w64 (p0.Width * p0.Height) ≤ 40000))))] [.cell ⟨g2399, 0, none⟩ (.int .i64 p0.Width), .cell ⟨g2399, 1, none⟩ (.int .i64 p0.Height)] (fun fb => by kernel_rfl) rfl ⟨hS2401.cell 0 rfl 0 rfl, hS2401.cell 0 rfl 1 rfl, trivial⟩ ?_
      exact WL.toV K (decide (w64 (p0.Width * p0.Height) ≤ 40000)) [28, 1] rfl (by first | (rw [h2409]; done) | (rw [h2409]; rfl))
    refine WL.setB 21 h2409 rfl ?_
    refine seg 26 [] [1, 28] [(1, (.pointer (some ⟨g2399, 0, none⟩))), (28, (.bool false))] [] (fun fb => by kernel_rfl) rfl trivial ?_
    exact WL.toV K false [28, 1] rfl (by first | (rw [h2409]; done) | (rw [h2409]; rfl))
  rintro b2410 rfl
  refine seg 27 [] [1, 29] [(1, (.pointer (some ⟨g2399, 0, none⟩))), (29, (.bool (((((decide (p0.Width ≥ 1)) && (decide (p0.Height ≥ 1))) && (decide (p0.Width ≤ 40000))) && (decide (p0.Height ≤ 40000))) && (decide (w64 (p0.Width * p0.Height) ≤ 40000)))))] [] (fun fb => by kernel_rfl) rfl trivial ?_
  refine WL.cutV (T := Bool) 37 (fun t => [(39, (.bool t))]) (fun t => t = ((((((decide (p0.Width ≥ 1)) && (decide (p0.Height ≥ 1))) && (decide (p0.Width ≤ 40000))) && (decide (p0.Height ≤ 40000))) && (decide (w64 (p0.Width * p0.Height) ≤ 40000))) && ((p0.Cells.length : Int) == (w64 (p0.Width * p0.Height))))) (fun K => ?_) ?_
  ·
    rcases Bool.eq_false_or_eq_true (((((decide (p0.Width ≥ 1)) && (decide (p0.Height ≥ 1))) && (decide (p0.Width ≤ 40000))) && (decide (p0.Height ≤ 40000))) && (decide (w64 (p0.Width * p0.Height) ≤ 40000))) with h2411 | h2411
    ·
      refine WL.setB 29 h2411 rfl ?_
      refine seg 37 [.v (.slice A_p0_Cells p0.Cells.length c_p0_Cells), .v (.int .i64 p0.Width), .v (.int .i64 p0.Height)] [39] [(39, (.bool ((p0.Cells.length : Int) == (w64 (p0.Width * p0.Height)))))] [.cell ⟨g2399, 2, none⟩ (.slice A_p0_Cells p0.Cells.length c_p0_Cells), .cell ⟨g2399, 0, none⟩ (.int .i64 p0.Width), .cell ⟨g2399, 1, none⟩ (.int .i64 p0.Height)] (fun fb => by kernel_rfl) rfl ⟨hS2401.cell 0 rfl 2 rfl, hS2401.cell 0 rfl 0 rfl, hS2401.cell 0 rfl 1 rfl, trivial⟩ ?_
      exact WL.toV K ((p0.Cells.length : Int) == (w64 (p0.Width * p0.Height))) [39] rfl (by first | (rw [h2411]; done) | (rw [h2411]; rfl))
    refine WL.setB 29 h2411 rfl ?_
    refine seg 37 [] [39] [(39, (.bool false))] [] (fun fb => by kernel_rfl) rfl trivial ?_
    exact WL.toV K false [39] rfl (by first | (rw [h2411]; done) | (rw [h2411]; rfl))
  rintro b2412 rfl
  refine seg 38 [] [2] [(2, (.bool ((((((decide (p0.Width ≥ 1)) && (decide (p0.Height ≥ 1))) && (decide (p0.Width ≤ 40000))) && (decide (p0.Height ≤ 40000))) && (decide (w64 (p0.Width * p0.Height) ≤ 40000))) && ((p0.Cells.length : Int) == (w64 (p0.Width * p0.Height))))))] [] (fun fb => by kernel_rfl) rfl trivial ?_
  refine WL.done rfl ?_
  refine WX.next ?_
  refine WC.ret ?_
  injection hf with hf
  subst hf
  exact WX.ret_ [] (.bool ((((((decide (p0.Width ≥ 1)) && (decide (p0.Height ≥ 1))) && (decide (p0.Width ≤ 40000))) && (decide (p0.Height ≤ 40000))) && (decide (w64 (p0.Width * p0.Height) ≤ 40000))) && ((p0.Cells.length : Int) == (w64 (p0.Width * p0.Height))))) [] (fun fb => by kernel_rfl) trivial ⟨_, rfl, rfl, hS2401.keep⟩
theorem ref01_Cell_calls (p0 : Pattern) (p1 : Int) (p2 : Int) (A_p0_Cells : Option Addr) (c_p0_Cells : Nat) (r : Int) (w : World) (hR0 : RO NoS w (rowR encInt A_p0_Cells c_p0_Cells p0.Cells)) (hf : ref01_Cell p0 p1 p2 = some r) :
    CallsR Tryd.prog 49 #[(.agg #[(.int .i64 p0.Width), (.int .i64 p0.Height), (.slice A_p0_Cells p0.Cells.length c_p0_Cells)]), (.int .i64 p1), (.int .i64 p2)] w (fun v w' => v = (.int .i64 r) ∧ Keeps NoS w w') := by
  have hS : St NoS w w [rowR encInt A_p0_Cells c_p0_Cells p0.Cells] [] := St.init (ro_cons hR0 (ro_nil _ _))
  refine enter 17 Tryd.func49 rfl Tryd.ntmps49 rfl ?_
  unfold ref01_Cell at hf
  refine WC.seq ?_
  refine WC.region ?_
  refine WL.new hS 3 [] (fun g => (.pointer (some ⟨g, 0, none⟩))) (.cells #[(.int .i64 p0.Width), (.int .i64 p0.Height), (.slice A_p0_Cells p0.Cells.length c_p0_Cells)] 35 (0, 0)) [] (fun fb g => by kernel_rfl) trivial (fun g2449 w2450 hS2451 => ?_)
  refine ⟨trivial, ?_⟩
  refine seg 2 [] [1, 2, 3] [(1, (.int .i64 p1)), (2, (.int .i64 p2)), (3, (.pointer (some ⟨g2449, 0, none⟩)))] [] (fun fb => by kernel_rfl) rfl trivial ?_
  refine WL.done rfl ?_
  refine WX.next ?_
  refine WC.seq ?_
  refine WC.region ?_
  refine seg 8 [.v (.slice A_p0_Cells p0.Cells.length c_p0_Cells), .v (.int .i64 p0.Width)] [8, 14] [(8, (.slice A_p0_Cells p0.Cells.length c_p0_Cells)), (14, (.int .i64 (w64 ((w64 (p2 * p0.Width)) + p1))))] [.cell ⟨g2449, 2, none⟩ (.slice A_p0_Cells p0.Cells.length c_p0_Cells), .cell ⟨g2449, 0, none⟩ (.int .i64 p0.Width)] (fun fb => by kernel_rfl) rfl ⟨hS2451.cell 0 rfl 2 rfl, hS2451.cell 0 rfl 0 rfl, trivial⟩ ?_
  obtain ⟨h2453, hf⟩ := as_some hf
  refine seg 11 [.v (.int .i64 (rdD p0.Cells (w64 ((w64 (p2 * p0.Width)) + p1)) 0))] [6] [(6, (.int .i64 (rdD p0.Cells (w64 ((w64 (p2 * p0.Width)) + p1)) 0)))] [.idx A_p0_Cells (w64 ((w64 (p2 * p0.Width)) + p1)) p0.Cells.length, .cell ((adr A_p0_Cells).add ((w64 ((w64 (p2 * p0.Width)) + p1)).toNat * 1)) (.int .i64 (rdD p0.Cells (w64 ((w64 (p2 * p0.Width)) + p1)) 0))] (fun fb => by kernel_rfl) rfl ⟨rowR.adr (hS2451.rd 0).1 h2453.1 h2453.2, rowR.cell (hS2451.rd 0).1 0 h2453.1 h2453.2 0 rfl, trivial⟩ ?_
  refine WL.done rfl ?_
  refine WX.next ?_
  refine WC.ret ?_
  injection hf with hf
  subst hf
  exact WX.ret_ [] (.int .i64 (rdD p0.Cells (w64 ((w64 (p2 * p0.Width)) + p1)) 0)) [] (fun fb => by kernel_rfl) trivial ⟨_, rfl, rfl, hS2451.keep⟩
end Gp
