/- Walks: each function of the program computes its plain function. -/
import Derived.Test.YtjfmjfheeijfiaaDoorGp
set_option linter.unusedVariables false
set_option linter.unusedSimpArgs false
set_option maxHeartbeats 4000000
namespace Gp
open Go Gw Go.Proofs
theorem tile_colour_1_calls (p0 : Int)  (r : Bool) (w : World)  (hf : tile_colour_1 p0 = some r) :
  CallsR Tryd.prog 96 #[(iv p0)] w (fun v w' => v = (.bool r) ∧ Keeps NoS w w') := by
 have hS : St NoS w w [] [] := St.init (ro_nil _ _)
 refine enter 9 Tryd.func96 rfl Tryd.ntmps96 rfl ?_
 unfold tile_colour_1 at hf
 refine WC.seq ?_
 refine WC.region ?_
 refine seg 1 [] [0] [(0, (iv p0))] [] (fun fb => by kernel_rfl) rfl trivial ?_
 refine WL.done rfl ?_
 refine WX.next ?_
 refine WC.seq ?_
 refine WC.region ?_
 refine seg 3 [] [0, 5] [(0, (iv p0)), (5, (.bool (decide (p0 < 0))))] [] (fun fb => by kernel_rfl) rfl trivial ?_
 refine WL.cutV (T := Bool) 6 (fun t => [(8, (.bool t))]) (fun t => ((decide (p0 < 0)) || (decide (p0 ≥ 1000))) = t) (fun K => ?_) ?_
 ·
  rcases Bool.eq_false_or_eq_true (decide (p0 < 0)) with h410 | h410
  ·
   refine WL.setB 5 h410 rfl ?_
   refine seg 6 [] [8] [(8, (.bool true))] [] (fun fb => by kernel_rfl) rfl trivial ?_
   exact WL.toV K true [8] rfl (by first | (rw [h410]; done) | (rw [h410]; rfl))
  refine WL.setB 5 h410 rfl ?_
  refine seg 6 [] [8] [(8, (.bool (decide (p0 ≥ 1000))))] [] (fun fb => by kernel_rfl) rfl trivial ?_
  exact WL.toV K (decide (p0 ≥ 1000)) [8] rfl (by first | (rw [h410]; done) | (rw [h410]; rfl))
 rintro b411 rfl
 refine seg 7 [] [2] [(2, (.bool ((decide (p0 < 0)) || (decide (p0 ≥ 1000)))))] [] (fun fb => by kernel_rfl) rfl trivial ?_
 refine WL.done rfl ?_
 refine WX.next ?_
 refine WC.ret ?_
 injection hf with hf
 subst hf
 exact WX.ret_ [] (.bool ((decide (p0 < 0)) || (decide (p0 ≥ 1000)))) [] (fun fb => by kernel_rfl) trivial ⟨_, rfl, rfl, hS.keep⟩
theorem slices_IndexFunc_int_int_with_tile_colour_1_calls (k : Nat) (p0 : List Int) (A_p0 : Option Addr) (c_p0 : Nat) (r : Int) (w : World) (hR0 : RO NoS w (rowR encInt A_p0 c_p0 p0)) (hf : slices_IndexFunc_int_int_with_tile_colour_1 k p0 = some r) :
  CallsR Tryd.prog 99 #[(.slice A_p0 p0.length c_p0), (.func (.func 96) #[] #[])] w (fun v w' => v = (iv r) ∧ Keeps NoS w w') := by
 have hS : St NoS w w [rowR encInt A_p0 c_p0 p0] [] := St.init (ro_cons hR0 (ro_nil _ _))
 refine enter 19 Tryd.func99 rfl Tryd.ntmps99 rfl ?_
 unfold slices_IndexFunc_int_int_with_tile_colour_1 at hf
 refine WC.seq ?_
 refine WC.region ?_
 refine seg 1 [] [0, 1] [(0, (.slice A_p0 p0.length c_p0)), (1, (.func (.func 96) #[] #[]))] [] (fun fb => by kernel_rfl) rfl trivial ?_
 refine WL.done rfl ?_
 refine WX.next ?_
 refine WC.seq ?_
 refine WC.seq ?_
 refine WC.region ?_
 refine seg 3 [] [0, 1, 7, 8] [(0, (.slice A_p0 p0.length c_p0)), (1, (.func (.func 96) #[] #[])), (7, (iv (p0.length : Int))), (8, (iv 0))] [] (fun fb => by kernel_rfl) rfl trivial ?_
 refine WL.done rfl ?_
 refine WX.next ?_
 obtain ⟨x428, hx429, hf⟩ := bind_some hf
 refine WC.cutN (T := Unit) (fun t => []) (fun t w1 => St NoS w w1 [rowR encInt A_p0 c_p0 p0] [] ∧ x428 = .inr t) (fun Kx428 => ?_) ?_
 ·
  refine WC.block ?_
  refine WC.loop (T := Int) (fun t => [(0, (.slice A_p0 p0.length c_p0)), (1, (.func (.func 96) #[] #[])), (7, (iv (p0.length : Int))), (8, (iv t))]) (fun n t w1 => St NoS w w1 [rowR encInt A_p0 c_p0 p0] [] ∧ slices_IndexFunc_int_int_with_tile_colour_1.l0 n t p0 = some x428) k 0 [0, 1, 7, 8] rfl ⟨(hS.subR [0]).sub [] (by decide), hx429⟩ ?_
  rintro k430 x427 w431 ⟨hS432, hl433⟩
  cases k430 with
  | zero => rw [slices_IndexFunc_int_int_with_tile_colour_1.l0] at hl433; cases hl433
  | succ k430 =>
   rw [slices_IndexFunc_int_int_with_tile_colour_1.l0] at hl433
   refine WC.seq ?_
   refine WC.region ?_
   refine seg 1 [] [0, 1, 7, 8, 9] [(0, (.slice A_p0 p0.length c_p0)), (1, (.func (.func 96) #[] #[])), (7, (iv (p0.length : Int))), (8, (iv x427)), (9, (.bool (decide (x427 < (p0.length : Int)))))] [] (fun fb => by kernel_rfl) rfl trivial ?_
   refine WL.done rfl ?_
   refine WX.next ?_
   refine WC.seq ?_
   rcases br_some hl433 with ⟨h434, hl433⟩ | ⟨h434, hl433⟩
   ·refine WC.condT2 (fun fb => by kernel_rfl) h434 ?_
    refine WC.skip ?_
    refine WX.next ?_
    refine WC.seq ?_
    refine WC.block ?_
    refine WC.seq ?_
    refine WC.region ?_
    refine seg 2 [] [0, 1, 5, 7, 8] [(0, (.slice A_p0 p0.length c_p0)), (1, (.func (.func 96) #[] #[])), (5, (iv x427)), (7, (iv (p0.length : Int))), (8, (iv x427))] [] (fun fb => by kernel_rfl) rfl trivial ?_
    refine WL.done rfl ?_
    refine WX.next ?_
    refine WC.seq ?_
    refine WC.region ?_
    refine seg 3 [] [0, 1, 5, 7, 8, 11, 12, 13] [(0, (.slice A_p0 p0.length c_p0)), (1, (.func (.func 96) #[] #[])), (5, (iv x427)), (7, (iv (p0.length : Int))), (8, (iv x427)), (11, (.func (.func 96) #[] #[])), (12, (.slice A_p0 p0.length c_p0)), (13, (iv x427))] [] (fun fb => by kernel_rfl) rfl trivial ?_
    obtain ⟨h435, hl433⟩ := as_some hl433
    refine seg 5 [.v (iv (rdD p0 x427 0))] [0, 1, 5, 7, 8, 11, 15] [(0, (.slice A_p0 p0.length c_p0)), (1, (.func (.func 96) #[] #[])), (5, (iv x427)), (7, (iv (p0.length : Int))), (8, (iv x427)), (11, (.func (.func 96) #[] #[])), (15, (iv (rdD p0 x427 0)))] [.idx A_p0 x427 p0.length, .cell ((adr A_p0).add ((x427).toNat * 1)) (iv (rdD p0 x427 0))] (fun fb => by kernel_rfl) rfl ⟨rowR.adr (hS432.rd 0).1 h435.1 h435.2, rowR.cell (hS432.rd 0).1 0 h435.1 h435.2 0 rfl, trivial⟩ ?_
    obtain ⟨t436, ht437, hl433⟩ := bind_some hl433
    refine WL.call (some 16) 96 #[(iv (rdD p0 x427 0))] (fun fb => by kernel_rfl) (tile_colour_1_calls (rdD p0 x427 0) t436 _ ht437) (fun v w438 hR439 => ?_)
    obtain ⟨rfl, hk_⟩ := hR439
    have hS440 := hS432.keepN hk_
    refine ⟨trivial, ?_⟩
    refine WL.done rfl ?_
    refine WX.next ?_
    rcases br_some hl433 with ⟨h441, hl433⟩ | ⟨h441, hl433⟩
    ·refine WC.condT2 (fun fb => by kernel_rfl) h441 ?_
     refine WC.seq ?_
     refine WC.region ?_
     refine seg 2 [] [4] [(4, (iv x427))] [] (fun fb => by kernel_rfl) rfl trivial ?_
     refine WL.done rfl ?_
     refine WX.next ?_
     refine WC.ret ?_
     injection hl433 with hl433
     subst hl433
     injection hf with hf
     subst hf
     exact WX.blockR (WX.thenR (WX.thenR (WX.blockR (WX.thenR (WX.ret_ [] (iv x427) [] (fun fb => by kernel_rfl) trivial ⟨_, rfl, rfl, hS440.keep⟩)))))
    refine WC.condF2 (fun fb => by kernel_rfl) h441 ?_
    refine WC.skip ?_
    refine WX.blockN (WX.next ?_)
    refine WC.region ?_
    refine seg 2 [] [0, 1, 7, 8] [(0, (.slice A_p0 p0.length c_p0)), (1, (.func (.func 96) #[] #[])), (7, (iv (p0.length : Int))), (8, (iv (w64 (x427 + 1))))] [] (fun fb => by kernel_rfl) rfl trivial ?_
    refine WL.done rfl ?_
    exact WX.again k430 (Nat.lt_succ_self _) (w64 (x427 + 1)) [0, 1, 7, 8] rfl ⟨(hS440.subR [0]).sub [] (by decide), hl433⟩
   refine WC.condF2 (fun fb => by kernel_rfl) h434 ?_
   refine WC.exit ?_
   injection hl433 with hl433
   exact WX.thenX (WX.thenX (WX.blockHere (WX.to Kx428 () [] rfl ⟨(hS432.subR [0]).sub [] (by decide), hl433.symm⟩)))
 rintro y445 w442 ⟨hS443, hq444⟩
 subst hq444
 have hf := sum_inr hf
 refine WX.next ?_
 refine WC.seq ?_
 refine WC.region ?_
 refine seg 1 [] [4] [(4, (iv (-1)))] [] (fun fb => by kernel_rfl) rfl trivial ?_
 refine WL.done rfl ?_
 refine WX.next ?_
 refine WC.ret ?_
 injection hf with hf
 subst hf
 exact WX.ret_ [] (iv (-1)) [] (fun fb => by kernel_rfl) trivial ⟨_, rfl, rfl, hS443.keep⟩
theorem slices_ContainsFunc_int_int_with_tile_colour_1_calls (k : Nat) (p0 : List Int) (A_p0 : Option Addr) (c_p0 : Nat) (r : Bool) (w : World) (hR0 : RO NoS w (rowR encInt A_p0 c_p0 p0)) (hf : slices_ContainsFunc_int_int_with_tile_colour_1 k p0 = some r) :
  CallsR Tryd.prog 89 #[(.slice A_p0 p0.length c_p0), (.func (.func 96) #[] #[])] w (fun v w' => v = (.bool r) ∧ Keeps NoS w w') := by
 have hS : St NoS w w [rowR encInt A_p0 c_p0 p0] [] := St.init (ro_cons hR0 (ro_nil _ _))
 refine enter 9 Tryd.func89 rfl Tryd.ntmps89 rfl ?_
 unfold slices_ContainsFunc_int_int_with_tile_colour_1 at hf
 refine WC.seq ?_
 refine WC.region ?_
 refine seg 1 [] [0, 1] [(0, (.slice A_p0 p0.length c_p0)), (1, (.func (.func 96) #[] #[]))] [] (fun fb => by kernel_rfl) rfl trivial ?_
 refine WL.done rfl ?_
 refine WX.next ?_
 refine WC.seq ?_
 refine WC.region ?_
 refine seg 2 [] [5, 6] [(5, (.slice A_p0 p0.length c_p0)), (6, (.func (.func 96) #[] #[]))] [] (fun fb => by kernel_rfl) rfl trivial ?_
 obtain ⟨t447, ht448, hf⟩ := bind_some hf
 refine WL.call (some 7) 99 #[(.slice A_p0 p0.length c_p0), (.func (.func 96) #[] #[])] (fun fb => by kernel_rfl) (slices_IndexFunc_int_int_with_tile_colour_1_calls _ p0 A_p0 c_p0 t447 _ (hS.rd 0) ht448) (fun v w449 hR450 => ?_)
 obtain ⟨rfl, hk_⟩ := hR450
 have hS451 := hS.keepN hk_
 refine ⟨trivial, ?_⟩
 refine seg 5 [] [4] [(4, (.bool (decide (t447 ≥ 0))))] [] (fun fb => by kernel_rfl) rfl trivial ?_
 refine WL.done rfl ?_
 refine WX.next ?_
 refine WC.ret ?_
 injection hf with hf
 subst hf
 exact WX.ret_ [] (.bool (decide (t447 ≥ 0))) [] (fun fb => by kernel_rfl) trivial ⟨_, rfl, rfl, hS451.keep⟩
theorem tile_colour_calls (k : Nat) (p0 : List Int) (A_p0 : Option Addr) (c_p0 : Nat) (r : Bool) (w : World) (hR0 : RO NoS w (rowR encInt A_p0 c_p0 p0)) (hf : tile_colour k p0 = some r) :
  CallsR Tryd.prog 80 #[(.slice A_p0 p0.length c_p0)] w (fun v w' => v = (.bool r) ∧ Keeps NoS w w') := by
 have hS : St NoS w w [rowR encInt A_p0 c_p0 p0] [] := St.init (ro_cons hR0 (ro_nil _ _))
 refine enter 6 Tryd.func80 rfl Tryd.ntmps80 rfl ?_
 unfold tile_colour at hf
 refine WC.seq ?_
 refine WC.region ?_
 refine seg 1 [] [0] [(0, (.slice A_p0 p0.length c_p0))] [] (fun fb => by kernel_rfl) rfl trivial ?_
 refine WL.done rfl ?_
 refine WX.next ?_
 refine WC.seq ?_
 refine WC.region ?_
 refine seg 1 [] [3] [(3, (.slice A_p0 p0.length c_p0))] [] (fun fb => by kernel_rfl) rfl trivial ?_
 obtain ⟨t452, ht453, hf⟩ := bind_some hf
 refine WL.call (some 4) 89 #[(.slice A_p0 p0.length c_p0), (.func (.func 96) #[] #[])] (fun fb => by kernel_rfl) (slices_ContainsFunc_int_int_with_tile_colour_1_calls _ p0 A_p0 c_p0 t452 _ (hS.rd 0) ht453) (fun v w454 hR455 => ?_)
 obtain ⟨rfl, hk_⟩ := hR455
 have hS456 := hS.keepN hk_
 refine ⟨trivial, ?_⟩
 refine seg 4 [] [2] [(2, (.bool (!t452)))] [] (fun fb => by kernel_rfl) rfl trivial ?_
 refine WL.done rfl ?_
 refine WX.next ?_
 refine WC.ret ?_
 injection hf with hf
 subst hf
 exact WX.ret_ [] (.bool (!t452)) [] (fun fb => by kernel_rfl) trivial ⟨_, rfl, rfl, hS456.keep⟩
theorem tile_Valid_key40 : KeyK Tryd.prog 40 (aggI ints_Tile) := KeyK.struct (n := 4) (by kernel_rfl) ints_Tile (fun _ => rfl) (fun x y h => by cases x; cases y; simp only [ints_Tile, List.cons.injEq, and_true] at h; obtain ⟨rfl, rfl, rfl, rfl⟩ := h; rfl)
theorem tile_Valid_calls (k : Nat) (p0 : List Tile) (A_p0 : Option Addr) (c_p0 : Nat) (r : Bool) (w : World) (hR0 : RO NoS w (rowR enc_Tile A_p0 c_p0 p0)) (hf : tile_Valid k p0 = some r) :
  CallsR Tryd.prog 52 #[(.slice A_p0 p0.length c_p0)] w (fun v w' => v = (.bool r) ∧ Keeps NoS w w') := by
 have hS : St NoS w w [rowR enc_Tile A_p0 c_p0 p0] [] := St.init (ro_cons hR0 (ro_nil _ _))
 refine enter 35 Tryd.func52 rfl Tryd.ntmps52 rfl ?_
 unfold tile_Valid at hf
 refine WC.seq ?_
 refine WC.region ?_
 refine seg 1 [] [0] [(0, (.slice A_p0 p0.length c_p0))] [] (fun fb => by kernel_rfl) rfl trivial ?_
 refine WL.done rfl ?_
 refine WX.next ?_
 refine WC.seq ?_
 refine WC.seq ?_
 refine WC.region ?_
 refine seg 3 [] [0, 8] [(0, (.slice A_p0 p0.length c_p0)), (8, (.bool (decide ((p0.length : Int) > 1000))))] [] (fun fb => by kernel_rfl) rfl trivial ?_
 refine WL.done rfl ?_
 refine WX.next ?_
 rcases br_some hf with ⟨h391, hf⟩ | ⟨h391, hf⟩
 ·refine WC.condT2 (fun fb => by kernel_rfl) h391 ?_
  refine WC.seq ?_
  refine WC.region ?_
  refine seg 1 [] [2] [(2, (.bool false))] [] (fun fb => by kernel_rfl) rfl trivial ?_
  refine WL.done rfl ?_
  refine WX.next ?_
  refine WC.ret ?_
  injection hf with hf
  subst hf
  exact WX.thenR (WX.ret_ [] (.bool false) [] (fun fb => by kernel_rfl) trivial ⟨_, rfl, rfl, hS.keep⟩)
 refine WC.condF2 (fun fb => by kernel_rfl) h391 ?_
 refine WC.skip ?_
 refine WX.next ?_
 refine WC.seq ?_
 refine WC.region ?_
 refine WL.new hS 9 [] (fun g => (.map (some g))) (mapObj (aggI ints_Tile) vB ([] : List (Tile × Bool))) [] (fun fb g => by kernel_rfl) trivial (fun g392 w393 hS394 => ?_)
 refine ⟨trivial, ?_⟩
 refine seg 2 [] [0, 3] [(0, (.slice A_p0 p0.length c_p0)), (3, (.map (some g392)))] [] (fun fb => by kernel_rfl) rfl trivial ?_
 refine WL.done rfl ?_
 refine WX.next ?_
 refine WC.seq ?_
 refine WC.seq ?_
 refine WC.region ?_
 refine seg 3 [] [3, 10, 11, 12] [(3, (.map (some g392))), (10, (.slice A_p0 p0.length c_p0)), (11, (iv (p0.length : Int))), (12, (iv 0))] [] (fun fb => by kernel_rfl) rfl trivial ?_
 refine WL.done rfl ?_
 refine WX.next ?_
 obtain ⟨x528, hx529, hf⟩ := bind_some hf
 refine WC.cutN (T := Unit) (fun t => []) (fun t w1 => St NoS w w1 [rowR enc_Tile A_p0 c_p0 p0] [] ∧ x528 = .inr t) (fun Kx528 => ?_) ?_
 ·
  refine WC.block ?_
  refine WC.loop (T := (List (Tile × Bool)) × Int) (fun t => [(3, (.map (some g392))), (10, (.slice A_p0 p0.length c_p0)), (11, (iv (p0.length : Int))), (12, (iv t.2))]) (fun n t w1 => St NoS w w1 [rowR enc_Tile A_p0 c_p0 p0] [blk g392 (mapObj (aggI ints_Tile) vB t.1)] ∧ tile_Valid.l0 n t.1 t.2 p0 = some x528) k (([] : List (Tile × Bool)), 0) [3, 10, 11, 12] rfl ⟨(hS394.subR [0]).sub [0] (by decide), hx529⟩ ?_
  rintro k530 ⟨l526, x527⟩ w531 ⟨hS532, hl533⟩
  cases k530 with
  | zero => rw [tile_Valid.l0] at hl533; cases hl533
  | succ k530 =>
   rw [tile_Valid.l0] at hl533
   refine WC.seq ?_
   refine WC.region ?_
   refine seg 1 [] [3, 10, 11, 12, 13] [(3, (.map (some g392))), (10, (.slice A_p0 p0.length c_p0)), (11, (iv (p0.length : Int))), (12, (iv x527)), (13, (.bool (decide (x527 < (p0.length : Int)))))] [] (fun fb => by kernel_rfl) rfl trivial ?_
   refine WL.done rfl ?_
   refine WX.next ?_
   refine WC.seq ?_
   rcases br_some hl533 with ⟨h534, hl533⟩ | ⟨h534, hl533⟩
   ·refine WC.condT2 (fun fb => by kernel_rfl) h534 ?_
    refine WC.skip ?_
    refine WX.next ?_
    refine WC.seq ?_
    refine WC.block ?_
    refine WC.seq ?_
    refine WC.region ?_
    obtain ⟨h535, hl533⟩ := as_some hl533
    refine seg 2 [.v (iv ((rdD p0 x527 z_Tile).N)), .v (iv ((rdD p0 x527 z_Tile).E)), .v (iv ((rdD p0 x527 z_Tile).S)), .v (iv ((rdD p0 x527 z_Tile).W))] [3, 10, 11, 12, 15] [(3, (.map (some g392))), (10, (.slice A_p0 p0.length c_p0)), (11, (iv (p0.length : Int))), (12, (iv x527)), (15, (.agg #[(iv ((rdD p0 x527 z_Tile).N)), (iv ((rdD p0 x527 z_Tile).E)), (iv ((rdD p0 x527 z_Tile).S)), (iv ((rdD p0 x527 z_Tile).W))]))] [.idx A_p0 x527 p0.length, .cell ((adr A_p0).add ((x527).toNat * 4)) (iv ((rdD p0 x527 z_Tile).N)), .cell (((adr A_p0).add ((x527).toNat * 4)).add 1) (iv ((rdD p0 x527 z_Tile).E)), .cell (((adr A_p0).add ((x527).toNat * 4)).add 2) (iv ((rdD p0 x527 z_Tile).S)), .cell (((adr A_p0).add ((x527).toNat * 4)).add 3) (iv ((rdD p0 x527 z_Tile).W))] (fun fb => by kernel_rfl) rfl ⟨rowR.adr (hS532.rd 0).1 h535.1 h535.2, rowR.cell (hS532.rd 0).1 z_Tile h535.1 h535.2 0 rfl, rowR.cell (hS532.rd 0).1 z_Tile h535.1 h535.2 1 rfl, rowR.cell (hS532.rd 0).1 z_Tile h535.1 h535.2 2 rfl, rowR.cell (hS532.rd 0).1 z_Tile h535.1 h535.2 3 rfl, trivial⟩ ?_
    refine WL.new hS532 5 [] (fun g => (.pointer (some ⟨g, 0, none⟩))) (.cells #[(iv 0), (iv 0), (iv 0), (iv 0)] 40 (0, 0)) [] (fun fb g => by kernel_rfl) trivial (fun g536 w537 hS538 => ?_)
    refine ⟨trivial, ?_⟩
    refine WL.store hS538 0 rfl [(0, (iv ((rdD p0 x527 z_Tile).N))), (1, (iv ((rdD p0 x527 z_Tile).E))), (2, (iv ((rdD p0 x527 z_Tile).S))), (3, (iv ((rdD p0 x527 z_Tile).W)))] #[(iv ((rdD p0 x527 z_Tile).N)), (iv ((rdD p0 x527 z_Tile).E)), (iv ((rdD p0 x527 z_Tile).S)), (iv ((rdD p0 x527 z_Tile).W))] (fun fb => by kernel_rfl) (by kernel_rfl) rfl [1] (by decide) (by decide) (fun w540 hS541 => ?_)
    refine ⟨trivial, ?_⟩
    refine WL.done rfl ?_
    refine WX.next ?_
    refine WC.seq ?_
    refine WC.seq ?_
    refine WC.region ?_
    refine seg 2 [.v (iv ((rdD p0 x527 z_Tile).N)), .v (iv ((rdD p0 x527 z_Tile).E)), .v (iv ((rdD p0 x527 z_Tile).S)), .v (iv ((rdD p0 x527 z_Tile).W))] [3, 5, 10, 11, 12, 16, 17] [(3, (.map (some g392))), (5, (pt g536)), (10, (.slice A_p0 p0.length c_p0)), (11, (iv (p0.length : Int))), (12, (iv x527)), (16, (.map (some g392))), (17, (.agg #[(iv ((rdD p0 x527 z_Tile).N)), (iv ((rdD p0 x527 z_Tile).E)), (iv ((rdD p0 x527 z_Tile).S)), (iv ((rdD p0 x527 z_Tile).W))]))] [.cell ⟨g536, 0, none⟩ (iv ((rdD p0 x527 z_Tile).N)), .cell ⟨g536, 1, none⟩ (iv ((rdD p0 x527 z_Tile).E)), .cell ⟨g536, 2, none⟩ (iv ((rdD p0 x527 z_Tile).S)), .cell ⟨g536, 3, none⟩ (iv ((rdD p0 x527 z_Tile).W))] (fun fb => by kernel_rfl) rfl ⟨hS541.cell 0 rfl 0 rfl, hS541.cell 0 rfl 1 rfl, hS541.cell 0 rfl 2 rfl, hS541.cell 0 rfl 3 rfl, trivial⟩ ?_
    refine WL.lookup (hS541.own 1).1 (rdD p0 x527 z_Tile) (d := 18) (c := false) (t := 114) (kT := 40) (eT := 4) (z := false) (kE := (aggI ints_Tile)) (vE := vB) (l := l526) (.bool (mget (rdD p0 x527 z_Tile) false l526)) (fun fb => by kernel_rfl) tile_Valid_key40 (by kernel_rfl) (fun _ => by kernel_rfl) rfl ?_
    refine ⟨trivial, ?_⟩
    refine seg 4 [] [3, 5, 10, 11, 12, 19] [(3, (.map (some g392))), (5, (pt g536)), (10, (.slice A_p0 p0.length c_p0)), (11, (iv (p0.length : Int))), (12, (iv x527)), (19, (.bool (mget (rdD p0 x527 z_Tile) false l526)))] [] (fun fb => by kernel_rfl) rfl trivial ?_
    obtain ⟨x553, hx554, hl533⟩ := bind_some hl533
    refine WL.cutW (T := Bool) 16 (fun t => [(3, (.map (some g392))), (5, (pt g536)), (10, (.slice A_p0 p0.length c_p0)), (11, (iv (p0.length : Int))), (12, (iv x527)), (31, (.bool t))]) (fun t w1 => (St NoS w w1 [rowR enc_Tile A_p0 c_p0 p0] [blk g392 (mapObj (aggI ints_Tile) vB l526), blk g536 (.cells #[(iv ((rdD p0 x527 z_Tile).N)), (iv ((rdD p0 x527 z_Tile).E)), (iv ((rdD p0 x527 z_Tile).S)), (iv ((rdD p0 x527 z_Tile).W))] 40 (0, 0))] ∧ x553 = t) ∧ CellsOK [] w1) (fun K => ?_) ?_
    ·
     rcases br_some hx554 with ⟨h555, hx554⟩ | ⟨h555, hx554⟩
     ·
      refine WL.setB 19 h555 rfl ?_
      refine seg 16 [] [3, 5, 10, 11, 12, 31] [(3, (.map (some g392))), (5, (pt g536)), (10, (.slice A_p0 p0.length c_p0)), (11, (iv (p0.length : Int))), (12, (iv x527)), (31, (.bool true))] [] (fun fb => by kernel_rfl) rfl trivial ?_
      injection hx554 with hx554
      exact WL.to K true [3, 5, 10, 11, 12, 31] rfl ⟨⟨(hS541.subR [0]).sub [1, 0] (by decide), hx554.symm⟩, trivial⟩
     refine WL.setB 19 h555 rfl ?_
     refine seg 12 [.v (iv ((rdD p0 x527 z_Tile).N)), .v (iv ((rdD p0 x527 z_Tile).E)), .v (iv ((rdD p0 x527 z_Tile).S)), .v (iv ((rdD p0 x527 z_Tile).W))] [3, 5, 10, 11, 12, 19, 21, 23, 25, 27] [(3, (.map (some g392))), (5, (pt g536)), (10, (.slice A_p0 p0.length c_p0)), (11, (iv (p0.length : Int))), (12, (iv x527)), (19, (.bool false)), (21, (iv ((rdD p0 x527 z_Tile).N))), (23, (iv ((rdD p0 x527 z_Tile).E))), (25, (iv ((rdD p0 x527 z_Tile).S))), (27, (iv ((rdD p0 x527 z_Tile).W)))] [.cell ⟨g536, 0, none⟩ (iv ((rdD p0 x527 z_Tile).N)), .cell ⟨g536, 1, none⟩ (iv ((rdD p0 x527 z_Tile).E)), .cell ⟨g536, 2, none⟩ (iv ((rdD p0 x527 z_Tile).S)), .cell ⟨g536, 3, none⟩ (iv ((rdD p0 x527 z_Tile).W))] (fun fb => by kernel_rfl) rfl ⟨hS541.cell 0 rfl 0 rfl, hS541.cell 0 rfl 1 rfl, hS541.cell 0 rfl 2 rfl, hS541.cell 0 rfl 3 rfl, trivial⟩ ?_
     refine WL.new hS541 28 [] (fun g => (.slice (some ⟨g, 0, none⟩) 4 4)) (.cells #[(iv ((rdD p0 x527 z_Tile).N)), (iv ((rdD p0 x527 z_Tile).E)), (iv ((rdD p0 x527 z_Tile).S)), (iv ((rdD p0 x527 z_Tile).W))] 3 (0, 0)) [] (fun fb g => by kernel_rfl) trivial (fun g556 w557 hS558 => ?_)
     refine ⟨trivial, ?_⟩
     have hS560 : St NoS w w557 [rowR enc_Tile A_p0 c_p0 p0] [rowO 3 encInt (some ⟨g556, 0, none⟩) 4 [(rdD p0 x527 z_Tile).N, (rdD p0 x527 z_Tile).E, (rdD p0 x527 z_Tile).S, (rdD p0 x527 z_Tile).W], blk g536 (.cells #[(iv ((rdD p0 x527 z_Tile).N)), (iv ((rdD p0 x527 z_Tile).E)), (iv ((rdD p0 x527 z_Tile).S)), (iv ((rdD p0 x527 z_Tile).W))] 40 (0, 0)), blk g392 (mapObj (aggI ints_Tile) vB l526)] := hS558.map1 0 _ (fun h => rowO.ofBlk h rfl (Nat.le_of_ble_eq_true (by kernel_rfl))) (fun _ h => by obtain ⟨_, h1, h2⟩ := h; injection h1 with h1; subst h1; exact h2) [1, 2] (by decide) (by decide)
     obtain ⟨t561, ht562, hx554⟩ := bind_some hx554
     refine WL.call (some 29) 80 #[(.slice (some ⟨g556, 0, none⟩) [(rdD p0 x527 z_Tile).N, (rdD p0 x527 z_Tile).E, (rdD p0 x527 z_Tile).S, (rdD p0 x527 z_Tile).W].length 4)] (fun fb => by kernel_rfl) (tile_colour_calls _ [(rdD p0 x527 z_Tile).N, (rdD p0 x527 z_Tile).E, (rdD p0 x527 z_Tile).S, (rdD p0 x527 z_Tile).W] (some ⟨g556, 0, none⟩) 4 t561 _ (hS560.ow 0).ofO ht562) (fun v w563 hR564 => ?_)
     obtain ⟨rfl, hk_⟩ := hR564
     have hS565 := hS560.keepN hk_
     refine ⟨trivial, ?_⟩
     refine seg 16 [] [3, 5, 10, 11, 12, 31] [(3, (.map (some g392))), (5, (pt g536)), (10, (.slice A_p0 p0.length c_p0)), (11, (iv (p0.length : Int))), (12, (iv x527)), (31, (.bool (!t561)))] [] (fun fb => by kernel_rfl) rfl trivial ?_
     injection hx554 with hx554
     exact WL.to K (!t561) [3, 5, 10, 11, 12, 31] rfl ⟨⟨(hS565.subR [0]).sub [2, 1] (by decide), hx554.symm⟩, trivial⟩
    rintro y566 w568 ⟨⟨hS569, hq567⟩, hF570⟩
    subst hq567
    refine WL.done rfl ?_
    refine WX.next ?_
    rcases br_some hl533 with ⟨h571, hl533⟩ | ⟨h571, hl533⟩
    ·refine WC.condT2 (fun fb => by kernel_rfl) h571 ?_
     refine WC.seq ?_
     refine WC.region ?_
     refine seg 1 [] [2] [(2, (.bool false))] [] (fun fb => by kernel_rfl) rfl trivial ?_
     refine WL.done rfl ?_
     refine WX.next ?_
     refine WC.ret ?_
     injection hl533 with hl533
     subst hl533
     injection hf with hf
     subst hf
     exact WX.thenR (WX.blockR (WX.thenR (WX.thenR (WX.blockR (WX.thenR (WX.ret_ [] (.bool false) [] (fun fb => by kernel_rfl) trivial ⟨_, rfl, rfl, hS569.keep⟩))))))
    refine WC.condF2 (fun fb => by kernel_rfl) h571 ?_
    refine WC.skip ?_
    refine WX.next ?_
    refine WC.region ?_
    refine seg 2 [.v (iv ((rdD p0 x527 z_Tile).N)), .v (iv ((rdD p0 x527 z_Tile).E)), .v (iv ((rdD p0 x527 z_Tile).S)), .v (iv ((rdD p0 x527 z_Tile).W))] [3, 10, 11, 12, 32, 33] [(3, (.map (some g392))), (10, (.slice A_p0 p0.length c_p0)), (11, (iv (p0.length : Int))), (12, (iv x527)), (32, (.map (some g392))), (33, (.agg #[(iv ((rdD p0 x527 z_Tile).N)), (iv ((rdD p0 x527 z_Tile).E)), (iv ((rdD p0 x527 z_Tile).S)), (iv ((rdD p0 x527 z_Tile).W))]))] [.cell ⟨g536, 0, none⟩ (iv ((rdD p0 x527 z_Tile).N)), .cell ⟨g536, 1, none⟩ (iv ((rdD p0 x527 z_Tile).E)), .cell ⟨g536, 2, none⟩ (iv ((rdD p0 x527 z_Tile).S)), .cell ⟨g536, 3, none⟩ (iv ((rdD p0 x527 z_Tile).W))] (fun fb => by kernel_rfl) rfl ⟨hS569.cell 1 rfl 0 rfl, hS569.cell 1 rfl 1 rfl, hS569.cell 1 rfl 2 rfl, hS569.cell 1 rfl 3 rfl, trivial⟩ ?_
    refine WL.mapput hS569 0 (t := 114) (kT := 40) (eT := 4) (kE := (aggI ints_Tile)) (vE := vB) (l := l526) rfl (rdD p0 x527 z_Tile) true (fun fb => by kernel_rfl) tile_Valid_key40 (by kernel_rfl) [1] (by decide) (by decide) (fun w572 hS573 => ?_)
    refine ⟨trivial, ?_⟩
    refine WL.done rfl ?_
    refine WX.blockN (WX.next ?_)
    refine WC.region ?_
    refine seg 2 [] [3, 10, 11, 12] [(3, (.map (some g392))), (10, (.slice A_p0 p0.length c_p0)), (11, (iv (p0.length : Int))), (12, (iv (w64 (x527 + 1))))] [] (fun fb => by kernel_rfl) rfl trivial ?_
    refine WL.done rfl ?_
    exact WX.again k530 (Nat.lt_succ_self _) (mput (rdD p0 x527 z_Tile) true l526, w64 (x527 + 1)) [3, 10, 11, 12] rfl ⟨(hS573.subR [0]).sub [0] (by decide), hl533⟩
   refine WC.condF2 (fun fb => by kernel_rfl) h534 ?_
   refine WC.exit ?_
   injection hl533 with hl533
   exact WX.thenX (WX.thenX (WX.blockHere (WX.to Kx528 () [] rfl ⟨(hS532.subR [0]).sub [] (by decide), hl533.symm⟩)))
 rintro y577 w574 ⟨hS575, hq576⟩
 subst hq576
 have hf := sum_inr hf
 refine WX.next ?_
 refine WC.seq ?_
 refine WC.region ?_
 refine seg 1 [] [2] [(2, (.bool true))] [] (fun fb => by kernel_rfl) rfl trivial ?_
 refine WL.done rfl ?_
 refine WX.next ?_
 refine WC.ret ?_
 injection hf with hf
 subst hf
 exact WX.ret_ [] (.bool true) [] (fun fb => by kernel_rfl) trivial ⟨_, rfl, rfl, hS575.keep⟩
theorem tile_write_calls (k : Nat) (p0 : List Tile) (A_p0 : Option Addr) (c_p0 : Nat) (r : ByteArray) (w : World) (hR0 : RO NoS w (rowR enc_Tile A_p0 c_p0 p0)) (hf : tile_write k p0 = some r) :
  CallsR Tryd.prog 79 #[(.slice A_p0 p0.length c_p0)] w (fun v w' => v = (.string r) ∧ Keeps NoS w w') := by
 have hS : St NoS w w [rowR enc_Tile A_p0 c_p0 p0] [] := St.init (ro_cons hR0 (ro_nil _ _))
 refine enter 41 Tryd.func79 rfl Tryd.ntmps79 rfl ?_
 unfold tile_write at hf
 refine WC.seq ?_
 refine WC.region ?_
 refine seg 1 [] [0] [(0, (.slice A_p0 p0.length c_p0))] [] (fun fb => by kernel_rfl) rfl trivial ?_
 refine WL.done rfl ?_
 refine WX.next ?_
 refine WC.seq ?_
 refine WC.region ?_
 refine seg 1 [] [0, 3] [(0, (.slice A_p0 p0.length c_p0)), (3, (.slice none 0 0))] [] (fun fb => by kernel_rfl) rfl trivial ?_
 refine WL.done rfl ?_
 refine WX.next ?_
 refine WC.seq ?_
 refine WC.seq ?_
 refine WC.region ?_
 refine seg 3 [] [3, 9, 10, 11] [(3, (.slice none 0 0)), (9, (.slice A_p0 p0.length c_p0)), (10, (iv (p0.length : Int))), (11, (iv 0))] [] (fun fb => by kernel_rfl) rfl trivial ?_
 refine WL.done rfl ?_
 refine WX.next ?_
 have hS976 := hS.nilrow 9 encStr
 obtain ⟨x984, hx985, hf⟩ := bind_some hf
 refine WC.cutN (T := (List ByteArray) × (Option Addr) × Nat) (fun t => [(3, (.slice t.2.1 t.1.length t.2.2))]) (fun t w1 => St NoS w w1 [rowR enc_Tile A_p0 c_p0 p0] [rowO 9 encStr t.2.1 t.2.2 t.1] ∧ x984 = t.1) (fun Kx984 => ?_) ?_
 ·
  refine WC.block ?_
  refine WC.loop (T := ((List ByteArray) × Int) × (Option Addr) × Nat) (fun t => [(3, (.slice t.2.1 t.1.1.length t.2.2)), (9, (.slice A_p0 p0.length c_p0)), (10, (iv (p0.length : Int))), (11, (iv t.1.2))]) (fun n t w1 => St NoS w w1 [rowR enc_Tile A_p0 c_p0 p0] [rowO 9 encStr t.2.1 t.2.2 t.1.1] ∧ tile_write.l0 n t.1.1 t.1.2 p0 = some x984) k ((([] : List ByteArray), 0), none, 0) [3, 9, 10, 11] rfl ⟨(hS976.subR [0]).sub [0] (by decide), hx985⟩ ?_
  rintro k986 ⟨⟨l979, x980⟩, A977, c978⟩ w987 ⟨hS988, hl989⟩
  cases k986 with
  | zero => rw [tile_write.l0] at hl989; cases hl989
  | succ k986 =>
   rw [tile_write.l0] at hl989
   refine WC.seq ?_
   refine WC.region ?_
   refine seg 1 [] [3, 9, 10, 11, 12] [(3, (.slice A977 l979.length c978)), (9, (.slice A_p0 p0.length c_p0)), (10, (iv (p0.length : Int))), (11, (iv x980)), (12, (.bool (decide (x980 < (p0.length : Int)))))] [] (fun fb => by kernel_rfl) rfl trivial ?_
   refine WL.done rfl ?_
   refine WX.next ?_
   refine WC.seq ?_
   rcases br_some hl989 with ⟨h990, hl989⟩ | ⟨h990, hl989⟩
   ·refine WC.condT2 (fun fb => by kernel_rfl) h990 ?_
    refine WC.skip ?_
    refine WX.next ?_
    refine WC.seq ?_
    refine WC.block ?_
    refine WC.seq ?_
    refine WC.region ?_
    obtain ⟨h991, hl989⟩ := as_some hl989
    refine seg 2 [.v (iv ((rdD p0 x980 z_Tile).N)), .v (iv ((rdD p0 x980 z_Tile).E)), .v (iv ((rdD p0 x980 z_Tile).S)), .v (iv ((rdD p0 x980 z_Tile).W))] [3, 9, 10, 11, 14] [(3, (.slice A977 l979.length c978)), (9, (.slice A_p0 p0.length c_p0)), (10, (iv (p0.length : Int))), (11, (iv x980)), (14, (.agg #[(iv ((rdD p0 x980 z_Tile).N)), (iv ((rdD p0 x980 z_Tile).E)), (iv ((rdD p0 x980 z_Tile).S)), (iv ((rdD p0 x980 z_Tile).W))]))] [.idx A_p0 x980 p0.length, .cell ((adr A_p0).add ((x980).toNat * 4)) (iv ((rdD p0 x980 z_Tile).N)), .cell (((adr A_p0).add ((x980).toNat * 4)).add 1) (iv ((rdD p0 x980 z_Tile).E)), .cell (((adr A_p0).add ((x980).toNat * 4)).add 2) (iv ((rdD p0 x980 z_Tile).S)), .cell (((adr A_p0).add ((x980).toNat * 4)).add 3) (iv ((rdD p0 x980 z_Tile).W))] (fun fb => by kernel_rfl) rfl ⟨rowR.adr (hS988.rd 0).1 h991.1 h991.2, rowR.cell (hS988.rd 0).1 z_Tile h991.1 h991.2 0 rfl, rowR.cell (hS988.rd 0).1 z_Tile h991.1 h991.2 1 rfl, rowR.cell (hS988.rd 0).1 z_Tile h991.1 h991.2 2 rfl, rowR.cell (hS988.rd 0).1 z_Tile h991.1 h991.2 3 rfl, trivial⟩ ?_
    refine WL.new hS988 5 [] (fun g => (.pointer (some ⟨g, 0, none⟩))) (.cells #[(iv 0), (iv 0), (iv 0), (iv 0)] 40 (0, 0)) [] (fun fb g => by kernel_rfl) trivial (fun g992 w993 hS994 => ?_)
    refine ⟨trivial, ?_⟩
    refine WL.store hS994 0 rfl [(0, (iv ((rdD p0 x980 z_Tile).N))), (1, (iv ((rdD p0 x980 z_Tile).E))), (2, (iv ((rdD p0 x980 z_Tile).S))), (3, (iv ((rdD p0 x980 z_Tile).W)))] #[(iv ((rdD p0 x980 z_Tile).N)), (iv ((rdD p0 x980 z_Tile).E)), (iv ((rdD p0 x980 z_Tile).S)), (iv ((rdD p0 x980 z_Tile).W))] (fun fb => by kernel_rfl) (by kernel_rfl) rfl [1] (by decide) (by decide) (fun w996 hS997 => ?_)
    refine ⟨trivial, ?_⟩
    refine WL.done rfl ?_
    refine WX.next ?_
    refine WC.seq ?_
    refine WC.region ?_
    refine seg 1 [] [3, 5, 6, 9, 10, 11] [(3, (.slice A977 l979.length c978)), (5, (pt g992)), (6, (.slice none 0 0)), (9, (.slice A_p0 p0.length c_p0)), (10, (iv (p0.length : Int))), (11, (iv x980))] [] (fun fb => by kernel_rfl) rfl trivial ?_
    refine WL.done rfl ?_
    refine WX.next ?_
    refine WC.seq ?_
    refine WC.seq ?_
    refine WC.region ?_
    refine seg 10 [.v (iv ((rdD p0 x980 z_Tile).N)), .v (iv ((rdD p0 x980 z_Tile).E)), .v (iv ((rdD p0 x980 z_Tile).S)), .v (iv ((rdD p0 x980 z_Tile).W))] [3, 6, 9, 10, 11, 23, 24] [(3, (.slice A977 l979.length c978)), (6, (.slice none 0 0)), (9, (.slice A_p0 p0.length c_p0)), (10, (iv (p0.length : Int))), (11, (iv x980)), (23, (.agg #[(iv ((rdD p0 x980 z_Tile).N)), (iv ((rdD p0 x980 z_Tile).E)), (iv ((rdD p0 x980 z_Tile).S)), (iv ((rdD p0 x980 z_Tile).W))])), (24, (iv 0))] [.cell ⟨g992, 0, none⟩ (iv ((rdD p0 x980 z_Tile).N)), .cell ⟨g992, 1, none⟩ (iv ((rdD p0 x980 z_Tile).E)), .cell ⟨g992, 2, none⟩ (iv ((rdD p0 x980 z_Tile).S)), .cell ⟨g992, 3, none⟩ (iv ((rdD p0 x980 z_Tile).W))] (fun fb => by kernel_rfl) rfl ⟨hS997.cell 0 rfl 0 rfl, hS997.cell 0 rfl 1 rfl, hS997.cell 0 rfl 2 rfl, hS997.cell 0 rfl 3 rfl, trivial⟩ ?_
    refine WL.done rfl ?_
    refine WX.next ?_
    have hS1085 := hS997.nilrow 9 encStr
    obtain ⟨x1093, hx1094, hl989⟩ := bind_some hl989
    refine WC.cutN (T := (List ByteArray) × (Option Addr) × Nat) (fun t => [(3, (.slice A977 l979.length c978)), (6, (.slice t.2.1 t.1.length t.2.2)), (9, (.slice A_p0 p0.length c_p0)), (10, (iv (p0.length : Int))), (11, (iv x980))]) (fun t w1 => St NoS w w1 [rowR enc_Tile A_p0 c_p0 p0] [rowO 9 encStr A977 c978 l979, rowO 9 encStr t.2.1 t.2.2 t.1] ∧ x1093 = t.1) (fun Kx1093 => ?_) ?_
    ·
     refine WC.block ?_
     refine WC.loop (T := ((List ByteArray) × Int) × (Option Addr) × Nat) (fun t => [(3, (.slice A977 l979.length c978)), (6, (.slice t.2.1 t.1.1.length t.2.2)), (9, (.slice A_p0 p0.length c_p0)), (10, (iv (p0.length : Int))), (11, (iv x980)), (23, (.agg #[(iv ((rdD p0 x980 z_Tile).N)), (iv ((rdD p0 x980 z_Tile).E)), (iv ((rdD p0 x980 z_Tile).S)), (iv ((rdD p0 x980 z_Tile).W))])), (24, (iv t.1.2))]) (fun n t w1 => St NoS w w1 [rowR enc_Tile A_p0 c_p0 p0] [rowO 9 encStr A977 c978 l979, rowO 9 encStr t.2.1 t.2.2 t.1.1] ∧ tile_write.l1 n t.1.1 t.1.2 p0 x980 = some x1093) k986 ((([] : List ByteArray), 0), none, 0) [3, 6, 9, 10, 11, 23, 24] rfl ⟨(hS1085.subR [0]).sub [2, 0] (by decide), hx1094⟩ ?_
     rintro k1095 ⟨⟨l1088, x1089⟩, A1086, c1087⟩ w1096 ⟨hS1097, hl1098⟩
     cases k1095 with
     | zero => rw [tile_write.l1] at hl1098; cases hl1098
     | succ k1095 =>
      rw [tile_write.l1] at hl1098
      refine WC.seq ?_
      refine WC.region ?_
      refine seg 1 [] [3, 6, 9, 10, 11, 23, 24, 25] [(3, (.slice A977 l979.length c978)), (6, (.slice A1086 l1088.length c1087)), (9, (.slice A_p0 p0.length c_p0)), (10, (iv (p0.length : Int))), (11, (iv x980)), (23, (.agg #[(iv ((rdD p0 x980 z_Tile).N)), (iv ((rdD p0 x980 z_Tile).E)), (iv ((rdD p0 x980 z_Tile).S)), (iv ((rdD p0 x980 z_Tile).W))])), (24, (iv x1089)), (25, (.bool (decide (x1089 < 4))))] [] (fun fb => by kernel_rfl) rfl trivial ?_
      refine WL.done rfl ?_
      refine WX.next ?_
      refine WC.seq ?_
      rcases br_some hl1098 with ⟨h1099, hl1098⟩ | ⟨h1099, hl1098⟩
      ·refine WC.condT2 (fun fb => by kernel_rfl) h1099 ?_
       refine WC.skip ?_
       refine WX.next ?_
       refine WC.seq ?_
       refine WC.block ?_
       refine WC.seq ?_
       refine WC.region ?_
       rcases br_some hl1098 with ⟨h1100, hl1098⟩ | ⟨h1100, hl1098⟩
       ·
        refine WL.setI 24 (eq_of_beq h1100) rfl ?_
        refine seg 1 [] [3, 6, 9, 10, 11, 23, 24, 26] [(3, (.slice A977 l979.length c978)), (6, (.slice A1086 l1088.length c1087)), (9, (.slice A_p0 p0.length c_p0)), (10, (iv (p0.length : Int))), (11, (iv x980)), (23, (.agg #[(iv ((rdD p0 x980 z_Tile).N)), (iv ((rdD p0 x980 z_Tile).E)), (iv ((rdD p0 x980 z_Tile).S)), (iv ((rdD p0 x980 z_Tile).W))])), (24, (iv 0)), (26, (iv ((rdD p0 x980 z_Tile).N)))] [] (fun fb => by kernel_rfl) rfl trivial ?_
        refine WL.setI 24 (eq_of_beq h1100).symm rfl ?_
        refine seg 2 [] [3, 6, 8, 9, 10, 11, 23, 24] [(3, (.slice A977 l979.length c978)), (6, (.slice A1086 l1088.length c1087)), (8, (iv ((rdD p0 x980 z_Tile).N))), (9, (.slice A_p0 p0.length c_p0)), (10, (iv (p0.length : Int))), (11, (iv x980)), (23, (.agg #[(iv ((rdD p0 x980 z_Tile).N)), (iv ((rdD p0 x980 z_Tile).E)), (iv ((rdD p0 x980 z_Tile).S)), (iv ((rdD p0 x980 z_Tile).W))])), (24, (iv x1089))] [] (fun fb => by kernel_rfl) rfl trivial ?_
        refine WL.done rfl ?_
        refine WX.next ?_
        refine WC.region ?_
        refine seg 2 [] [3, 9, 10, 11, 23, 24, 27, 28] [(3, (.slice A977 l979.length c978)), (9, (.slice A_p0 p0.length c_p0)), (10, (iv (p0.length : Int))), (11, (iv x980)), (23, (.agg #[(iv ((rdD p0 x980 z_Tile).N)), (iv ((rdD p0 x980 z_Tile).E)), (iv ((rdD p0 x980 z_Tile).S)), (iv ((rdD p0 x980 z_Tile).W))])), (24, (iv x1089)), (27, (.slice A1086 l1088.length c1087)), (28, (iv ((rdD p0 x980 z_Tile).N)))] [] (fun fb => by kernel_rfl) rfl trivial ?_
        obtain ⟨t1104, ht1105, hl1098⟩ := bind_some hl1098
        refine WL.call (some 29) 94 #[(iv ((rdD p0 x980 z_Tile).N))] (fun fb => by kernel_rfl) (itoa_calls Tryd.strconv_Itoa_small ((rdD p0 x980 z_Tile).N) t1104 _ ht1105) (fun v w1102 hR1101 => ?_)
        obtain ⟨rfl, hk_⟩ := hR1101
        have hS1103 := hS1097.keepN hk_
        refine ⟨trivial, ?_⟩
        refine WL.new hS1103 30 [] (fun g => (.slice (some ⟨g, 0, none⟩) 1 1)) (.cells #[(.string t1104)] 9 (0, 0)) [] (fun fb g => by kernel_rfl) trivial (fun g1106 w1107 hS1108 => ?_)
        refine ⟨trivial, ?_⟩
        have hS1110 : St NoS w w1107 [rowR enc_Tile A_p0 c_p0 p0] [rowO 9 encStr (some ⟨g1106, 0, none⟩) 1 [t1104], rowO 9 encStr A977 c978 l979, rowO 9 encStr A1086 c1087 l1088] := hS1108.map1 0 _ (fun h => rowO.ofBlk h rfl (Nat.le_of_ble_eq_true (by kernel_rfl))) (fun _ h => by obtain ⟨_, h1, h2⟩ := h; injection h1 with h1; subst h1; exact h2) [1, 2] (by decide) (by decide)
        obtain ⟨h1111, hl1098⟩ := as_some hl1098
        refine WL.append hS1110 2 (d := 31) (tS := 106) (z := (.string ByteArray.empty)) (bytes := 16) (c2 := 1) rfl (fun fb => by kernel_rfl) (rowO.rd (hS1110.own 0).1) (by kernel_rfl) (by kernel_rfl) rfl (by decide) h1111 (by decide) [0, 1] (by decide) (by decide) (fun A1112 c1113 w1114 hS1115 => ?_)
        refine ⟨trivial, ?_⟩
        refine seg 6 [] [3, 6, 9, 10, 11, 23, 24] [(3, (.slice A977 l979.length c978)), (6, (.slice A1112 (l1088 ++ [t1104]).length c1113)), (9, (.slice A_p0 p0.length c_p0)), (10, (iv (p0.length : Int))), (11, (iv x980)), (23, (.agg #[(iv ((rdD p0 x980 z_Tile).N)), (iv ((rdD p0 x980 z_Tile).E)), (iv ((rdD p0 x980 z_Tile).S)), (iv ((rdD p0 x980 z_Tile).W))])), (24, (iv x1089))] [] (fun fb => by kernel_rfl) rfl trivial ?_
        refine WL.done rfl ?_
        refine WX.blockN (WX.next ?_)
        refine WC.region ?_
        refine seg 2 [] [3, 6, 9, 10, 11, 23, 24] [(3, (.slice A977 l979.length c978)), (6, (.slice A1112 (l1088 ++ [t1104]).length c1113)), (9, (.slice A_p0 p0.length c_p0)), (10, (iv (p0.length : Int))), (11, (iv x980)), (23, (.agg #[(iv ((rdD p0 x980 z_Tile).N)), (iv ((rdD p0 x980 z_Tile).E)), (iv ((rdD p0 x980 z_Tile).S)), (iv ((rdD p0 x980 z_Tile).W))])), (24, (iv (w64 (x1089 + 1))))] [] (fun fb => by kernel_rfl) rfl trivial ?_
        refine WL.done rfl ?_
        exact WX.again k1095 (Nat.lt_succ_self _) ((l1088 ++ [t1104], w64 (x1089 + 1)), A1112, c1113) [3, 6, 9, 10, 11, 23, 24] rfl ⟨(hS1115.subR [0]).sub [2, 0] (by decide), hl1098⟩
       rcases br_some hl1098 with ⟨h1116, hl1098⟩ | ⟨h1116, hl1098⟩
       ·
        refine WL.setI 24 (eq_of_beq h1116) rfl ?_
        refine seg 1 [] [3, 6, 9, 10, 11, 23, 24, 26] [(3, (.slice A977 l979.length c978)), (6, (.slice A1086 l1088.length c1087)), (9, (.slice A_p0 p0.length c_p0)), (10, (iv (p0.length : Int))), (11, (iv x980)), (23, (.agg #[(iv ((rdD p0 x980 z_Tile).N)), (iv ((rdD p0 x980 z_Tile).E)), (iv ((rdD p0 x980 z_Tile).S)), (iv ((rdD p0 x980 z_Tile).W))])), (24, (iv 1)), (26, (iv ((rdD p0 x980 z_Tile).E)))] [] (fun fb => by kernel_rfl) rfl trivial ?_
        refine WL.setI 24 (eq_of_beq h1116).symm rfl ?_
        refine seg 2 [] [3, 6, 8, 9, 10, 11, 23, 24] [(3, (.slice A977 l979.length c978)), (6, (.slice A1086 l1088.length c1087)), (8, (iv ((rdD p0 x980 z_Tile).E))), (9, (.slice A_p0 p0.length c_p0)), (10, (iv (p0.length : Int))), (11, (iv x980)), (23, (.agg #[(iv ((rdD p0 x980 z_Tile).N)), (iv ((rdD p0 x980 z_Tile).E)), (iv ((rdD p0 x980 z_Tile).S)), (iv ((rdD p0 x980 z_Tile).W))])), (24, (iv x1089))] [] (fun fb => by kernel_rfl) rfl trivial ?_
        refine WL.done rfl ?_
        refine WX.next ?_
        refine WC.region ?_
        refine seg 2 [] [3, 9, 10, 11, 23, 24, 27, 28] [(3, (.slice A977 l979.length c978)), (9, (.slice A_p0 p0.length c_p0)), (10, (iv (p0.length : Int))), (11, (iv x980)), (23, (.agg #[(iv ((rdD p0 x980 z_Tile).N)), (iv ((rdD p0 x980 z_Tile).E)), (iv ((rdD p0 x980 z_Tile).S)), (iv ((rdD p0 x980 z_Tile).W))])), (24, (iv x1089)), (27, (.slice A1086 l1088.length c1087)), (28, (iv ((rdD p0 x980 z_Tile).E)))] [] (fun fb => by kernel_rfl) rfl trivial ?_
        obtain ⟨t1120, ht1121, hl1098⟩ := bind_some hl1098
        refine WL.call (some 29) 94 #[(iv ((rdD p0 x980 z_Tile).E))] (fun fb => by kernel_rfl) (itoa_calls Tryd.strconv_Itoa_small ((rdD p0 x980 z_Tile).E) t1120 _ ht1121) (fun v w1118 hR1117 => ?_)
        obtain ⟨rfl, hk_⟩ := hR1117
        have hS1119 := hS1097.keepN hk_
        refine ⟨trivial, ?_⟩
        refine WL.new hS1119 30 [] (fun g => (.slice (some ⟨g, 0, none⟩) 1 1)) (.cells #[(.string t1120)] 9 (0, 0)) [] (fun fb g => by kernel_rfl) trivial (fun g1122 w1123 hS1124 => ?_)
        refine ⟨trivial, ?_⟩
        have hS1126 : St NoS w w1123 [rowR enc_Tile A_p0 c_p0 p0] [rowO 9 encStr (some ⟨g1122, 0, none⟩) 1 [t1120], rowO 9 encStr A977 c978 l979, rowO 9 encStr A1086 c1087 l1088] := hS1124.map1 0 _ (fun h => rowO.ofBlk h rfl (Nat.le_of_ble_eq_true (by kernel_rfl))) (fun _ h => by obtain ⟨_, h1, h2⟩ := h; injection h1 with h1; subst h1; exact h2) [1, 2] (by decide) (by decide)
        obtain ⟨h1127, hl1098⟩ := as_some hl1098
        refine WL.append hS1126 2 (d := 31) (tS := 106) (z := (.string ByteArray.empty)) (bytes := 16) (c2 := 1) rfl (fun fb => by kernel_rfl) (rowO.rd (hS1126.own 0).1) (by kernel_rfl) (by kernel_rfl) rfl (by decide) h1127 (by decide) [0, 1] (by decide) (by decide) (fun A1128 c1129 w1130 hS1131 => ?_)
        refine ⟨trivial, ?_⟩
        refine seg 6 [] [3, 6, 9, 10, 11, 23, 24] [(3, (.slice A977 l979.length c978)), (6, (.slice A1128 (l1088 ++ [t1120]).length c1129)), (9, (.slice A_p0 p0.length c_p0)), (10, (iv (p0.length : Int))), (11, (iv x980)), (23, (.agg #[(iv ((rdD p0 x980 z_Tile).N)), (iv ((rdD p0 x980 z_Tile).E)), (iv ((rdD p0 x980 z_Tile).S)), (iv ((rdD p0 x980 z_Tile).W))])), (24, (iv x1089))] [] (fun fb => by kernel_rfl) rfl trivial ?_
        refine WL.done rfl ?_
        refine WX.blockN (WX.next ?_)
        refine WC.region ?_
        refine seg 2 [] [3, 6, 9, 10, 11, 23, 24] [(3, (.slice A977 l979.length c978)), (6, (.slice A1128 (l1088 ++ [t1120]).length c1129)), (9, (.slice A_p0 p0.length c_p0)), (10, (iv (p0.length : Int))), (11, (iv x980)), (23, (.agg #[(iv ((rdD p0 x980 z_Tile).N)), (iv ((rdD p0 x980 z_Tile).E)), (iv ((rdD p0 x980 z_Tile).S)), (iv ((rdD p0 x980 z_Tile).W))])), (24, (iv (w64 (x1089 + 1))))] [] (fun fb => by kernel_rfl) rfl trivial ?_
        refine WL.done rfl ?_
        exact WX.again k1095 (Nat.lt_succ_self _) ((l1088 ++ [t1120], w64 (x1089 + 1)), A1128, c1129) [3, 6, 9, 10, 11, 23, 24] rfl ⟨(hS1131.subR [0]).sub [2, 0] (by decide), hl1098⟩
       rcases br_some hl1098 with ⟨h1132, hl1098⟩ | ⟨h1132, hl1098⟩
       ·
        refine WL.setI 24 (eq_of_beq h1132) rfl ?_
        refine seg 1 [] [3, 6, 9, 10, 11, 23, 24, 26] [(3, (.slice A977 l979.length c978)), (6, (.slice A1086 l1088.length c1087)), (9, (.slice A_p0 p0.length c_p0)), (10, (iv (p0.length : Int))), (11, (iv x980)), (23, (.agg #[(iv ((rdD p0 x980 z_Tile).N)), (iv ((rdD p0 x980 z_Tile).E)), (iv ((rdD p0 x980 z_Tile).S)), (iv ((rdD p0 x980 z_Tile).W))])), (24, (iv 2)), (26, (iv ((rdD p0 x980 z_Tile).S)))] [] (fun fb => by kernel_rfl) rfl trivial ?_
        refine WL.setI 24 (eq_of_beq h1132).symm rfl ?_
        refine seg 2 [] [3, 6, 8, 9, 10, 11, 23, 24] [(3, (.slice A977 l979.length c978)), (6, (.slice A1086 l1088.length c1087)), (8, (iv ((rdD p0 x980 z_Tile).S))), (9, (.slice A_p0 p0.length c_p0)), (10, (iv (p0.length : Int))), (11, (iv x980)), (23, (.agg #[(iv ((rdD p0 x980 z_Tile).N)), (iv ((rdD p0 x980 z_Tile).E)), (iv ((rdD p0 x980 z_Tile).S)), (iv ((rdD p0 x980 z_Tile).W))])), (24, (iv x1089))] [] (fun fb => by kernel_rfl) rfl trivial ?_
        refine WL.done rfl ?_
        refine WX.next ?_
        refine WC.region ?_
        refine seg 2 [] [3, 9, 10, 11, 23, 24, 27, 28] [(3, (.slice A977 l979.length c978)), (9, (.slice A_p0 p0.length c_p0)), (10, (iv (p0.length : Int))), (11, (iv x980)), (23, (.agg #[(iv ((rdD p0 x980 z_Tile).N)), (iv ((rdD p0 x980 z_Tile).E)), (iv ((rdD p0 x980 z_Tile).S)), (iv ((rdD p0 x980 z_Tile).W))])), (24, (iv x1089)), (27, (.slice A1086 l1088.length c1087)), (28, (iv ((rdD p0 x980 z_Tile).S)))] [] (fun fb => by kernel_rfl) rfl trivial ?_
        obtain ⟨t1136, ht1137, hl1098⟩ := bind_some hl1098
        refine WL.call (some 29) 94 #[(iv ((rdD p0 x980 z_Tile).S))] (fun fb => by kernel_rfl) (itoa_calls Tryd.strconv_Itoa_small ((rdD p0 x980 z_Tile).S) t1136 _ ht1137) (fun v w1134 hR1133 => ?_)
        obtain ⟨rfl, hk_⟩ := hR1133
        have hS1135 := hS1097.keepN hk_
        refine ⟨trivial, ?_⟩
        refine WL.new hS1135 30 [] (fun g => (.slice (some ⟨g, 0, none⟩) 1 1)) (.cells #[(.string t1136)] 9 (0, 0)) [] (fun fb g => by kernel_rfl) trivial (fun g1138 w1139 hS1140 => ?_)
        refine ⟨trivial, ?_⟩
        have hS1142 : St NoS w w1139 [rowR enc_Tile A_p0 c_p0 p0] [rowO 9 encStr (some ⟨g1138, 0, none⟩) 1 [t1136], rowO 9 encStr A977 c978 l979, rowO 9 encStr A1086 c1087 l1088] := hS1140.map1 0 _ (fun h => rowO.ofBlk h rfl (Nat.le_of_ble_eq_true (by kernel_rfl))) (fun _ h => by obtain ⟨_, h1, h2⟩ := h; injection h1 with h1; subst h1; exact h2) [1, 2] (by decide) (by decide)
        obtain ⟨h1143, hl1098⟩ := as_some hl1098
        refine WL.append hS1142 2 (d := 31) (tS := 106) (z := (.string ByteArray.empty)) (bytes := 16) (c2 := 1) rfl (fun fb => by kernel_rfl) (rowO.rd (hS1142.own 0).1) (by kernel_rfl) (by kernel_rfl) rfl (by decide) h1143 (by decide) [0, 1] (by decide) (by decide) (fun A1144 c1145 w1146 hS1147 => ?_)
        refine ⟨trivial, ?_⟩
        refine seg 6 [] [3, 6, 9, 10, 11, 23, 24] [(3, (.slice A977 l979.length c978)), (6, (.slice A1144 (l1088 ++ [t1136]).length c1145)), (9, (.slice A_p0 p0.length c_p0)), (10, (iv (p0.length : Int))), (11, (iv x980)), (23, (.agg #[(iv ((rdD p0 x980 z_Tile).N)), (iv ((rdD p0 x980 z_Tile).E)), (iv ((rdD p0 x980 z_Tile).S)), (iv ((rdD p0 x980 z_Tile).W))])), (24, (iv x1089))] [] (fun fb => by kernel_rfl) rfl trivial ?_
        refine WL.done rfl ?_
        refine WX.blockN (WX.next ?_)
        refine WC.region ?_
        refine seg 2 [] [3, 6, 9, 10, 11, 23, 24] [(3, (.slice A977 l979.length c978)), (6, (.slice A1144 (l1088 ++ [t1136]).length c1145)), (9, (.slice A_p0 p0.length c_p0)), (10, (iv (p0.length : Int))), (11, (iv x980)), (23, (.agg #[(iv ((rdD p0 x980 z_Tile).N)), (iv ((rdD p0 x980 z_Tile).E)), (iv ((rdD p0 x980 z_Tile).S)), (iv ((rdD p0 x980 z_Tile).W))])), (24, (iv (w64 (x1089 + 1))))] [] (fun fb => by kernel_rfl) rfl trivial ?_
        refine WL.done rfl ?_
        exact WX.again k1095 (Nat.lt_succ_self _) ((l1088 ++ [t1136], w64 (x1089 + 1)), A1144, c1145) [3, 6, 9, 10, 11, 23, 24] rfl ⟨(hS1147.subR [0]).sub [2, 0] (by decide), hl1098⟩
       rcases br_some hl1098 with ⟨h1148, hl1098⟩ | ⟨h1148, hl1098⟩
       ·
        refine WL.setI 24 (eq_of_beq h1148) rfl ?_
        refine seg 1 [] [3, 6, 9, 10, 11, 23, 24, 26] [(3, (.slice A977 l979.length c978)), (6, (.slice A1086 l1088.length c1087)), (9, (.slice A_p0 p0.length c_p0)), (10, (iv (p0.length : Int))), (11, (iv x980)), (23, (.agg #[(iv ((rdD p0 x980 z_Tile).N)), (iv ((rdD p0 x980 z_Tile).E)), (iv ((rdD p0 x980 z_Tile).S)), (iv ((rdD p0 x980 z_Tile).W))])), (24, (iv 3)), (26, (iv ((rdD p0 x980 z_Tile).W)))] [] (fun fb => by kernel_rfl) rfl trivial ?_
        refine WL.setI 24 (eq_of_beq h1148).symm rfl ?_
        refine seg 2 [] [3, 6, 8, 9, 10, 11, 23, 24] [(3, (.slice A977 l979.length c978)), (6, (.slice A1086 l1088.length c1087)), (8, (iv ((rdD p0 x980 z_Tile).W))), (9, (.slice A_p0 p0.length c_p0)), (10, (iv (p0.length : Int))), (11, (iv x980)), (23, (.agg #[(iv ((rdD p0 x980 z_Tile).N)), (iv ((rdD p0 x980 z_Tile).E)), (iv ((rdD p0 x980 z_Tile).S)), (iv ((rdD p0 x980 z_Tile).W))])), (24, (iv x1089))] [] (fun fb => by kernel_rfl) rfl trivial ?_
        refine WL.done rfl ?_
        refine WX.next ?_
        refine WC.region ?_
        refine seg 2 [] [3, 9, 10, 11, 23, 24, 27, 28] [(3, (.slice A977 l979.length c978)), (9, (.slice A_p0 p0.length c_p0)), (10, (iv (p0.length : Int))), (11, (iv x980)), (23, (.agg #[(iv ((rdD p0 x980 z_Tile).N)), (iv ((rdD p0 x980 z_Tile).E)), (iv ((rdD p0 x980 z_Tile).S)), (iv ((rdD p0 x980 z_Tile).W))])), (24, (iv x1089)), (27, (.slice A1086 l1088.length c1087)), (28, (iv ((rdD p0 x980 z_Tile).W)))] [] (fun fb => by kernel_rfl) rfl trivial ?_
        obtain ⟨t1152, ht1153, hl1098⟩ := bind_some hl1098
        refine WL.call (some 29) 94 #[(iv ((rdD p0 x980 z_Tile).W))] (fun fb => by kernel_rfl) (itoa_calls Tryd.strconv_Itoa_small ((rdD p0 x980 z_Tile).W) t1152 _ ht1153) (fun v w1150 hR1149 => ?_)
        obtain ⟨rfl, hk_⟩ := hR1149
        have hS1151 := hS1097.keepN hk_
        refine ⟨trivial, ?_⟩
        refine WL.new hS1151 30 [] (fun g => (.slice (some ⟨g, 0, none⟩) 1 1)) (.cells #[(.string t1152)] 9 (0, 0)) [] (fun fb g => by kernel_rfl) trivial (fun g1154 w1155 hS1156 => ?_)
        refine ⟨trivial, ?_⟩
        have hS1158 : St NoS w w1155 [rowR enc_Tile A_p0 c_p0 p0] [rowO 9 encStr (some ⟨g1154, 0, none⟩) 1 [t1152], rowO 9 encStr A977 c978 l979, rowO 9 encStr A1086 c1087 l1088] := hS1156.map1 0 _ (fun h => rowO.ofBlk h rfl (Nat.le_of_ble_eq_true (by kernel_rfl))) (fun _ h => by obtain ⟨_, h1, h2⟩ := h; injection h1 with h1; subst h1; exact h2) [1, 2] (by decide) (by decide)
        obtain ⟨h1159, hl1098⟩ := as_some hl1098
        refine WL.append hS1158 2 (d := 31) (tS := 106) (z := (.string ByteArray.empty)) (bytes := 16) (c2 := 1) rfl (fun fb => by kernel_rfl) (rowO.rd (hS1158.own 0).1) (by kernel_rfl) (by kernel_rfl) rfl (by decide) h1159 (by decide) [0, 1] (by decide) (by decide) (fun A1160 c1161 w1162 hS1163 => ?_)
        refine ⟨trivial, ?_⟩
        refine seg 6 [] [3, 6, 9, 10, 11, 23, 24] [(3, (.slice A977 l979.length c978)), (6, (.slice A1160 (l1088 ++ [t1152]).length c1161)), (9, (.slice A_p0 p0.length c_p0)), (10, (iv (p0.length : Int))), (11, (iv x980)), (23, (.agg #[(iv ((rdD p0 x980 z_Tile).N)), (iv ((rdD p0 x980 z_Tile).E)), (iv ((rdD p0 x980 z_Tile).S)), (iv ((rdD p0 x980 z_Tile).W))])), (24, (iv x1089))] [] (fun fb => by kernel_rfl) rfl trivial ?_
        refine WL.done rfl ?_
        refine WX.blockN (WX.next ?_)
        refine WC.region ?_
        refine seg 2 [] [3, 6, 9, 10, 11, 23, 24] [(3, (.slice A977 l979.length c978)), (6, (.slice A1160 (l1088 ++ [t1152]).length c1161)), (9, (.slice A_p0 p0.length c_p0)), (10, (iv (p0.length : Int))), (11, (iv x980)), (23, (.agg #[(iv ((rdD p0 x980 z_Tile).N)), (iv ((rdD p0 x980 z_Tile).E)), (iv ((rdD p0 x980 z_Tile).S)), (iv ((rdD p0 x980 z_Tile).W))])), (24, (iv (w64 (x1089 + 1))))] [] (fun fb => by kernel_rfl) rfl trivial ?_
        refine WL.done rfl ?_
        exact WX.again k1095 (Nat.lt_succ_self _) ((l1088 ++ [t1152], w64 (x1089 + 1)), A1160, c1161) [3, 6, 9, 10, 11, 23, 24] rfl ⟨(hS1163.subR [0]).sub [2, 0] (by decide), hl1098⟩
       cases hl1098
      refine WC.condF2 (fun fb => by kernel_rfl) h1099 ?_
      refine WC.exit ?_
      injection hl1098 with hl1098
      exact WX.thenX (WX.thenX (WX.blockHere (WX.to Kx1093 (l1088, A1086, c1087) [3, 6, 9, 10, 11] rfl ⟨(hS1097.subR [0]).sub [0, 1] (by decide), hl1098.symm⟩)))
    rintro ⟨y1167, A1090, c1091⟩ w1164 ⟨hS1165, hq1166⟩
    subst hq1166
    refine WX.next ?_
    refine WC.region ?_
    refine seg 2 [] [9, 10, 11, 33, 34] [(9, (.slice A_p0 p0.length c_p0)), (10, (iv (p0.length : Int))), (11, (iv x980)), (33, (.slice A977 l979.length c978)), (34, (.slice A1090 x1093.length c1091))] [] (fun fb => by kernel_rfl) rfl trivial ?_
    obtain ⟨t1171, ht1172, hl989⟩ := bind_some hl989
    refine WL.call (some 35) 95 #[(.slice A1090 x1093.length c1091), (.string (⟨#[46]⟩ : ByteArray))] (fun fb => by kernel_rfl) (join_calls Tryd.strings_Join Tryd.strings_Join_none x1093 (⟨#[46]⟩ : ByteArray) A1090 c1091 t1171 _ (hS1165.ow 1) ht1172) (fun v w1169 hR1168 => ?_)
    obtain ⟨rfl, hk_⟩ := hR1168
    have hS1170 := hS1165.keepN hk_
    refine ⟨trivial, ?_⟩
    refine WL.new hS1170 36 [] (fun g => (.slice (some ⟨g, 0, none⟩) 1 1)) (.cells #[(.string t1171)] 9 (0, 0)) [] (fun fb g => by kernel_rfl) trivial (fun g1173 w1174 hS1175 => ?_)
    refine ⟨trivial, ?_⟩
    have hS1177 : St NoS w w1174 [rowR enc_Tile A_p0 c_p0 p0] [rowO 9 encStr (some ⟨g1173, 0, none⟩) 1 [t1171], rowO 9 encStr A977 c978 l979, rowO 9 encStr A1090 c1091 x1093] := hS1175.map1 0 _ (fun h => rowO.ofBlk h rfl (Nat.le_of_ble_eq_true (by kernel_rfl))) (fun _ h => by obtain ⟨_, h1, h2⟩ := h; injection h1 with h1; subst h1; exact h2) [1, 2] (by decide) (by decide)
    obtain ⟨h1178, hl989⟩ := as_some hl989
    refine WL.append hS1177 1 (d := 37) (tS := 106) (z := (.string ByteArray.empty)) (bytes := 16) (c2 := 1) rfl (fun fb => by kernel_rfl) (rowO.rd (hS1177.own 0).1) (by kernel_rfl) (by kernel_rfl) rfl (by decide) h1178 (by decide) [0, 2] (by decide) (by decide) (fun A1179 c1180 w1181 hS1182 => ?_)
    refine ⟨trivial, ?_⟩
    refine seg 6 [] [3, 9, 10, 11] [(3, (.slice A1179 (l979 ++ [t1171]).length c1180)), (9, (.slice A_p0 p0.length c_p0)), (10, (iv (p0.length : Int))), (11, (iv x980))] [] (fun fb => by kernel_rfl) rfl trivial ?_
    refine WL.done rfl ?_
    refine WX.blockN (WX.next ?_)
    refine WC.region ?_
    refine seg 2 [] [3, 9, 10, 11] [(3, (.slice A1179 (l979 ++ [t1171]).length c1180)), (9, (.slice A_p0 p0.length c_p0)), (10, (iv (p0.length : Int))), (11, (iv (w64 (x980 + 1))))] [] (fun fb => by kernel_rfl) rfl trivial ?_
    refine WL.done rfl ?_
    exact WX.again k986 (Nat.lt_succ_self _) ((l979 ++ [t1171], w64 (x980 + 1)), A1179, c1180) [3, 9, 10, 11] rfl ⟨(hS1182.subR [0]).sub [0] (by decide), hl989⟩
   refine WC.condF2 (fun fb => by kernel_rfl) h990 ?_
   refine WC.exit ?_
   injection hl989 with hl989
   exact WX.thenX (WX.thenX (WX.blockHere (WX.to Kx984 (l979, A977, c978) [3] rfl ⟨(hS988.subR [0]).sub [0] (by decide), hl989.symm⟩)))
 rintro ⟨y1186, A981, c982⟩ w1183 ⟨hS1184, hq1185⟩
 subst hq1185
 refine WX.next ?_
 refine WC.seq ?_
 refine WC.region ?_
 refine seg 1 [] [39] [(39, (.slice A981 x984.length c982))] [] (fun fb => by kernel_rfl) rfl trivial ?_
 obtain ⟨t1190, ht1191, hf⟩ := bind_some hf
 refine WL.call (some 40) 95 #[(.slice A981 x984.length c982), (.string (⟨#[32]⟩ : ByteArray))] (fun fb => by kernel_rfl) (join_calls Tryd.strings_Join Tryd.strings_Join_none x984 (⟨#[32]⟩ : ByteArray) A981 c982 t1190 _ (hS1184.ow 0) ht1191) (fun v w1188 hR1187 => ?_)
 obtain ⟨rfl, hk_⟩ := hR1187
 have hS1189 := hS1184.keepN hk_
 refine ⟨trivial, ?_⟩
 refine seg 3 [] [2] [(2, (.string t1190))] [] (fun fb => by kernel_rfl) rfl trivial ?_
 refine WL.done rfl ?_
 refine WX.next ?_
 refine WC.ret ?_
 injection hf with hf
 subst hf
 exact WX.ret_ [] (.string t1190) [] (fun fb => by kernel_rfl) trivial ⟨_, rfl, rfl, hS1189.keep⟩
theorem tile_Parse_calls (k : Nat) (p0 : ByteArray) (mG : Int) (r : (List Tile) × Int) (w : World) (hR0 : RO NoS w (cel ⟨2, 0, none⟩ (iv mG))) (hf : tile_Parse k p0 = some r) :
  CallsR Tryd.prog 49 #[(.string p0)] w (fun v w' => ∃ (A1_ : Option Addr), ∃ (c1_ : Nat), v = (.tuple #[(.slice A1_ r.1.length c1_), (iv r.2)]) ∧ St NoS w w' [] [rowO 40 enc_Tile A1_ c1_ r.1]) := by
 have hS : St NoS w w [cel ⟨2, 0, none⟩ (iv mG)] [] := St.init (ro_cons hR0 (ro_nil _ _))
 refine enter 76 Tryd.func49 rfl Tryd.ntmps49 rfl ?_
 unfold tile_Parse at hf
 refine WC.seq ?_
 refine WC.region ?_
 refine seg 2 [] [0] [(0, (.string p0))] [] (fun fb => by kernel_rfl) rfl trivial ?_
 refine WL.done rfl ?_
 refine WX.next ?_
 refine WC.seq ?_
 refine WC.region ?_
 refine seg 1 [] [0, 4] [(0, (.string p0)), (4, (.slice none 0 0))] [] (fun fb => by kernel_rfl) rfl trivial ?_
 refine WL.done rfl ?_
 refine WX.next ?_
 refine WC.seq ?_
 refine WC.seq ?_
 refine WC.region ?_
 refine seg 1 [] [0, 4, 13] [(0, (.string p0)), (4, (.slice none 0 0)), (13, (.string p0))] [] (fun fb => by kernel_rfl) rfl trivial ?_
 refine seg 2 [] [0, 4, 14] [(0, (.string p0)), (4, (.slice none 0 0)), (14, (.bool (p0.toList == (⟨#[]⟩ : ByteArray).toList)))] [] (fun fb => by kernel_rfl) rfl trivial ?_
 refine WL.setB 14 (strEq_raw p0 (⟨#[]⟩ : ByteArray)) rfl ?_
 refine WL.done rfl ?_
 refine WX.next ?_
 rcases br_some hf with ⟨h2, hf⟩ | ⟨h2, hf⟩
 ·refine WC.condT2 (fun fb => by kernel_rfl) h2 ?_
  refine WC.seq ?_
  refine WC.region ?_
  refine seg 2 [] [2, 3] [(2, (.slice none 0 0)), (3, (iv 0))] [] (fun fb => by kernel_rfl) rfl trivial ?_
  refine WL.done rfl ?_
  refine WX.next ?_
  refine WC.ret ?_
  have hS3 := hS.nilrow 40 enc_Tile
  injection hf with hf
  subst hf
  exact WX.thenR (WX.ret_ [] (.tuple #[(.slice none ([] : List Tile).length 0), (iv 0)]) [] (fun fb => by kernel_rfl) trivial ⟨_, rfl, none, 0, rfl, (hS3.sub [0] (by decide)).noR⟩)
 refine WC.condF2 (fun fb => by kernel_rfl) h2 ?_
 refine WC.skip ?_
 refine WX.next ?_
 refine WC.seq ?_
 refine WC.seq ?_
 refine WC.region ?_
 refine seg 3 [] [0, 4, 17] [(0, (.string p0)), (4, (.slice none 0 0)), (17, (.bool (decide ((p0.size : Int) > 16000))))] [] (fun fb => by kernel_rfl) rfl trivial ?_
 refine WL.done rfl ?_
 refine WX.next ?_
 rcases br_some hf with ⟨h4, hf⟩ | ⟨h4, hf⟩
 ·refine WC.condT2 (fun fb => by kernel_rfl) h4 ?_
  refine WC.seq ?_
  refine WC.region ?_
  refine seg 2 [] [2, 3] [(2, (.slice none 0 0)), (3, (iv 3))] [] (fun fb => by kernel_rfl) rfl trivial ?_
  refine WL.done rfl ?_
  refine WX.next ?_
  refine WC.ret ?_
  have hS5 := hS.nilrow 40 enc_Tile
  injection hf with hf
  subst hf
  exact WX.thenR (WX.ret_ [] (.tuple #[(.slice none ([] : List Tile).length 0), (iv 3)]) [] (fun fb => by kernel_rfl) trivial ⟨_, rfl, none, 0, rfl, (hS5.sub [0] (by decide)).noR⟩)
 refine WC.condF2 (fun fb => by kernel_rfl) h4 ?_
 refine WC.skip ?_
 refine WX.next ?_
 refine WC.seq ?_
 refine WC.seq ?_
 refine WC.region ?_
 refine seg 1 [] [0, 4, 18] [(0, (.string p0)), (4, (.slice none 0 0)), (18, (.string p0))] [] (fun fb => by kernel_rfl) rfl trivial ?_
 obtain ⟨h9, hf⟩ := as_some hf
 refine WL.call (some 19) 77 #[(.string p0), (.string (⟨#[32]⟩ : ByteArray))] (fun fb => by kernel_rfl) (split_calls Tryd.strings_Split p0 (⟨#[32]⟩ : ByteArray) mG _ (hS.rd 0) h9) (fun v w7 hR6 => ?_)
 obtain ⟨A10, c11, rfl, hk_⟩ := hR6
 have hS8 : St NoS w w7 [cel ⟨2, 0, none⟩ (iv mG)] [rowO 9 encStr A10 c11 (splitP p0 (⟨#[32]⟩ : ByteArray))] := hS.call hk_ [] [] (fun g hg => hg.elim) (by simp) (by decide)
 refine ⟨trivial, ?_⟩
 refine seg 4 [] [0, 4, 19, 20, 21] [(0, (.string p0)), (4, (.slice none 0 0)), (19, (.slice A10 (splitP p0 (⟨#[32]⟩ : ByteArray)).length c11)), (20, (iv ((splitP p0 (⟨#[32]⟩ : ByteArray)).length : Int))), (21, (iv 0))] [] (fun fb => by kernel_rfl) rfl trivial ?_
 refine WL.done rfl ?_
 refine WX.next ?_
 have hS254 := hS8.nilrow 40 enc_Tile
 obtain ⟨x262, hx263, hf⟩ := bind_some hf
 refine WC.cutN (T := (List Tile) × (Option Addr) × Nat) (fun t => [(0, (.string p0)), (4, (.slice t.2.1 t.1.length t.2.2))]) (fun t w1 => St NoS w w1 [cel ⟨2, 0, none⟩ (iv mG)] [rowO 40 enc_Tile t.2.1 t.2.2 t.1] ∧ x262 = .inr t.1) (fun Kx262 => ?_) ?_
 ·
  refine WC.block ?_
  refine WC.loop (T := ((List Tile) × Int) × (Option Addr) × Nat) (fun t => [(0, (.string p0)), (4, (.slice t.2.1 t.1.1.length t.2.2)), (19, (.slice A10 (splitP p0 (⟨#[32]⟩ : ByteArray)).length c11)), (20, (iv ((splitP p0 (⟨#[32]⟩ : ByteArray)).length : Int))), (21, (iv t.1.2))]) (fun n t w1 => St NoS w w1 [cel ⟨2, 0, none⟩ (iv mG)] [rowO 40 enc_Tile t.2.1 t.2.2 t.1.1, rowO 9 encStr A10 c11 (splitP p0 (⟨#[32]⟩ : ByteArray))] ∧ tile_Parse.l0 n t.1.1 t.1.2 p0 = some x262) k ((([] : List Tile), 0), none, 0) [0, 4, 19, 20, 21] rfl ⟨(hS254.subR [0]).sub [0, 1] (by decide), hx263⟩ ?_
  rintro k264 ⟨⟨l257, x258⟩, A255, c256⟩ w265 ⟨hS266, hl267⟩
  cases k264 with
  | zero => rw [tile_Parse.l0] at hl267; cases hl267
  | succ k264 =>
   rw [tile_Parse.l0] at hl267
   refine WC.seq ?_
   refine WC.region ?_
   refine seg 1 [] [0, 4, 19, 20, 21, 22] [(0, (.string p0)), (4, (.slice A255 l257.length c256)), (19, (.slice A10 (splitP p0 (⟨#[32]⟩ : ByteArray)).length c11)), (20, (iv ((splitP p0 (⟨#[32]⟩ : ByteArray)).length : Int))), (21, (iv x258)), (22, (.bool (decide (x258 < ((splitP p0 (⟨#[32]⟩ : ByteArray)).length : Int)))))] [] (fun fb => by kernel_rfl) rfl trivial ?_
   refine WL.done rfl ?_
   refine WX.next ?_
   refine WC.seq ?_
   rcases br_some hl267 with ⟨h268, hl267⟩ | ⟨h268, hl267⟩
   ·refine WC.condT2 (fun fb => by kernel_rfl) h268 ?_
    refine WC.skip ?_
    refine WX.next ?_
    refine WC.seq ?_
    refine WC.block ?_
    refine WC.seq ?_
    refine WC.region ?_
    obtain ⟨h269, hl267⟩ := as_some hl267
    refine seg 3 [.v (.string (rdD (splitP p0 (⟨#[32]⟩ : ByteArray)) x258 ByteArray.empty))] [0, 4, 6, 19, 20, 21] [(0, (.string p0)), (4, (.slice A255 l257.length c256)), (6, (.string (rdD (splitP p0 (⟨#[32]⟩ : ByteArray)) x258 ByteArray.empty))), (19, (.slice A10 (splitP p0 (⟨#[32]⟩ : ByteArray)).length c11)), (20, (iv ((splitP p0 (⟨#[32]⟩ : ByteArray)).length : Int))), (21, (iv x258))] [.idx A10 x258 (splitP p0 (⟨#[32]⟩ : ByteArray)).length, .cell ((adr A10).add ((x258).toNat * 1)) (.string (rdD (splitP p0 (⟨#[32]⟩ : ByteArray)) x258 ByteArray.empty))] (fun fb => by kernel_rfl) rfl ⟨rowR.adr (rowO.rd (hS266.own 1).1) h269.1 h269.2, rowR.cell (rowO.rd (hS266.own 1).1) ByteArray.empty h269.1 h269.2 0 rfl, trivial⟩ ?_
    refine WL.done rfl ?_
    refine WX.next ?_
    refine WC.seq ?_
    refine WC.region ?_
    refine seg 1 [] [0, 4, 19, 20, 21, 25] [(0, (.string p0)), (4, (.slice A255 l257.length c256)), (19, (.slice A10 (splitP p0 (⟨#[32]⟩ : ByteArray)).length c11)), (20, (iv ((splitP p0 (⟨#[32]⟩ : ByteArray)).length : Int))), (21, (iv x258)), (25, (.string (rdD (splitP p0 (⟨#[32]⟩ : ByteArray)) x258 ByteArray.empty)))] [] (fun fb => by kernel_rfl) rfl trivial ?_
    obtain ⟨h273, hl267⟩ := as_some hl267
    refine WL.call (some 26) 77 #[(.string (rdD (splitP p0 (⟨#[32]⟩ : ByteArray)) x258 ByteArray.empty)), (.string (⟨#[46]⟩ : ByteArray))] (fun fb => by kernel_rfl) (split_calls Tryd.strings_Split (rdD (splitP p0 (⟨#[32]⟩ : ByteArray)) x258 ByteArray.empty) (⟨#[46]⟩ : ByteArray) mG _ (hS266.rd 0) h273) (fun v w271 hR270 => ?_)
    obtain ⟨A274, c275, rfl, hk_⟩ := hR270
    have hS272 : St NoS w w271 [cel ⟨2, 0, none⟩ (iv mG)] [rowO 9 encStr A274 c275 (splitP (rdD (splitP p0 (⟨#[32]⟩ : ByteArray)) x258 ByteArray.empty) (⟨#[46]⟩ : ByteArray)), rowO 40 enc_Tile A255 c256 l257, rowO 9 encStr A10 c11 (splitP p0 (⟨#[32]⟩ : ByteArray))] := hS266.call hk_ [] [0, 1] (fun g hg => hg.elim) (by simp) (by decide)
    refine ⟨trivial, ?_⟩
    refine seg 3 [] [0, 4, 7, 19, 20, 21] [(0, (.string p0)), (4, (.slice A255 l257.length c256)), (7, (.slice A274 (splitP (rdD (splitP p0 (⟨#[32]⟩ : ByteArray)) x258 ByteArray.empty) (⟨#[46]⟩ : ByteArray)).length c275)), (19, (.slice A10 (splitP p0 (⟨#[32]⟩ : ByteArray)).length c11)), (20, (iv ((splitP p0 (⟨#[32]⟩ : ByteArray)).length : Int))), (21, (iv x258))] [] (fun fb => by kernel_rfl) rfl trivial ?_
    refine WL.done rfl ?_
    refine WX.next ?_
    refine WC.seq ?_
    refine WC.seq ?_
    refine WC.region ?_
    refine seg 4 [] [0, 4, 7, 19, 20, 21, 30] [(0, (.string p0)), (4, (.slice A255 l257.length c256)), (7, (.slice A274 (splitP (rdD (splitP p0 (⟨#[32]⟩ : ByteArray)) x258 ByteArray.empty) (⟨#[46]⟩ : ByteArray)).length c275)), (19, (.slice A10 (splitP p0 (⟨#[32]⟩ : ByteArray)).length c11)), (20, (iv ((splitP p0 (⟨#[32]⟩ : ByteArray)).length : Int))), (21, (iv x258)), (30, (.bool (((splitP (rdD (splitP p0 (⟨#[32]⟩ : ByteArray)) x258 ByteArray.empty) (⟨#[46]⟩ : ByteArray)).length : Int) != 4)))] [] (fun fb => by kernel_rfl) rfl trivial ?_
    refine WL.cutV (T := Bool) 8 (fun t => [(34, (.bool t)), (0, (.string p0)), (4, (.slice A255 l257.length c256)), (7, (.slice A274 (splitP (rdD (splitP p0 (⟨#[32]⟩ : ByteArray)) x258 ByteArray.empty) (⟨#[46]⟩ : ByteArray)).length c275)), (19, (.slice A10 (splitP p0 (⟨#[32]⟩ : ByteArray)).length c11)), (20, (iv ((splitP p0 (⟨#[32]⟩ : ByteArray)).length : Int))), (21, (iv x258))]) (fun t => ((((splitP (rdD (splitP p0 (⟨#[32]⟩ : ByteArray)) x258 ByteArray.empty) (⟨#[46]⟩ : ByteArray)).length : Int) != 4) || (decide ((l257.length : Int) > 1000))) = t) (fun K => ?_) ?_
    ·
     rcases Bool.eq_false_or_eq_true (((splitP (rdD (splitP p0 (⟨#[32]⟩ : ByteArray)) x258 ByteArray.empty) (⟨#[46]⟩ : ByteArray)).length : Int) != 4) with h276 | h276
     ·
      refine WL.setB 30 h276 rfl ?_
      refine seg 8 [] [0, 4, 7, 19, 20, 21, 34] [(0, (.string p0)), (4, (.slice A255 l257.length c256)), (7, (.slice A274 (splitP (rdD (splitP p0 (⟨#[32]⟩ : ByteArray)) x258 ByteArray.empty) (⟨#[46]⟩ : ByteArray)).length c275)), (19, (.slice A10 (splitP p0 (⟨#[32]⟩ : ByteArray)).length c11)), (20, (iv ((splitP p0 (⟨#[32]⟩ : ByteArray)).length : Int))), (21, (iv x258)), (34, (.bool true))] [] (fun fb => by kernel_rfl) rfl trivial ?_
      exact WL.toV K true [34, 0, 4, 7, 19, 20, 21] rfl (by first | (rw [h276]; done) | (rw [h276]; rfl))
     refine WL.setB 30 h276 rfl ?_
     refine seg 8 [] [0, 4, 7, 19, 20, 21, 34] [(0, (.string p0)), (4, (.slice A255 l257.length c256)), (7, (.slice A274 (splitP (rdD (splitP p0 (⟨#[32]⟩ : ByteArray)) x258 ByteArray.empty) (⟨#[46]⟩ : ByteArray)).length c275)), (19, (.slice A10 (splitP p0 (⟨#[32]⟩ : ByteArray)).length c11)), (20, (iv ((splitP p0 (⟨#[32]⟩ : ByteArray)).length : Int))), (21, (iv x258)), (34, (.bool (decide ((l257.length : Int) > 1000))))] [] (fun fb => by kernel_rfl) rfl trivial ?_
     exact WL.toV K (decide ((l257.length : Int) > 1000)) [34, 0, 4, 7, 19, 20, 21] rfl (by first | (rw [h276]; done) | (rw [h276]; rfl))
    rintro b277 rfl
    refine WL.done rfl ?_
    refine WX.next ?_
    rcases br_some hl267 with ⟨h278, hl267⟩ | ⟨h278, hl267⟩
    ·refine WC.condT2 (fun fb => by kernel_rfl) h278 ?_
     refine WC.seq ?_
     refine WC.region ?_
     refine seg 2 [] [2, 3] [(2, (.slice none 0 0)), (3, (iv 3))] [] (fun fb => by kernel_rfl) rfl trivial ?_
     refine WL.done rfl ?_
     refine WX.next ?_
     refine WC.ret ?_
     have hS279 := hS272.nilrow 40 enc_Tile
     injection hl267 with hl267
     subst hl267
     injection hf with hf
     subst hf
     exact WX.thenR (WX.blockR (WX.thenR (WX.thenR (WX.blockR (WX.thenR (WX.ret_ [] (.tuple #[(.slice none ([] : List Tile).length 0), (iv 3)]) [] (fun fb => by kernel_rfl) trivial ⟨_, rfl, none, 0, rfl, (hS279.sub [0] (by decide)).noR⟩))))))
    refine WC.condF2 (fun fb => by kernel_rfl) h278 ?_
    refine WC.skip ?_
    refine WX.next ?_
    refine WC.seq ?_
    refine WC.region ?_
    refine WL.new hS272 8 [] (fun g => (.pointer (some ⟨g, 0, none⟩))) (.cells #[(iv 0), (iv 0), (iv 0), (iv 0)] 108 (0, 0)) [] (fun fb g => by kernel_rfl) trivial (fun g280 w281 hS282 => ?_)
    refine ⟨trivial, ?_⟩
    refine WL.done rfl ?_
    refine WX.next ?_
    refine WC.seq ?_
    refine WC.seq ?_
    refine WC.region ?_
    refine seg 3 [] [0, 4, 8, 19, 20, 21, 35, 36, 37] [(0, (.string p0)), (4, (.slice A255 l257.length c256)), (8, (pt g280)), (19, (.slice A10 (splitP p0 (⟨#[32]⟩ : ByteArray)).length c11)), (20, (iv ((splitP p0 (⟨#[32]⟩ : ByteArray)).length : Int))), (21, (iv x258)), (35, (.slice A274 (splitP (rdD (splitP p0 (⟨#[32]⟩ : ByteArray)) x258 ByteArray.empty) (⟨#[46]⟩ : ByteArray)).length c275)), (36, (iv ((splitP (rdD (splitP p0 (⟨#[32]⟩ : ByteArray)) x258 ByteArray.empty) (⟨#[46]⟩ : ByteArray)).length : Int))), (37, (iv 0))] [] (fun fb => by kernel_rfl) rfl trivial ?_
    refine WL.done rfl ?_
    refine WX.next ?_
    obtain ⟨x347, hx348, hl267⟩ := bind_some hl267
    refine WC.cutN (T := Int × Int × Int × Int) (fun t => [(0, (.string p0)), (4, (.slice A255 l257.length c256)), (8, (pt g280)), (19, (.slice A10 (splitP p0 (⟨#[32]⟩ : ByteArray)).length c11)), (20, (iv ((splitP p0 (⟨#[32]⟩ : ByteArray)).length : Int))), (21, (iv x258))]) (fun t w1 => St NoS w w1 [cel ⟨2, 0, none⟩ (iv mG)] [rowO 40 enc_Tile A255 c256 l257, blk g280 (.cells #[(iv t.1), (iv t.2.1), (iv t.2.2.1), (iv t.2.2.2)] 108 (0, 0)), rowO 9 encStr A10 c11 (splitP p0 (⟨#[32]⟩ : ByteArray))] ∧ x347 = t) (fun Kx347 => ?_) ?_
    ·
     refine WC.block ?_
     refine WC.loop (T := Int × Int × Int × Int × Int) (fun t => [(0, (.string p0)), (4, (.slice A255 l257.length c256)), (8, (pt g280)), (19, (.slice A10 (splitP p0 (⟨#[32]⟩ : ByteArray)).length c11)), (20, (iv ((splitP p0 (⟨#[32]⟩ : ByteArray)).length : Int))), (21, (iv x258)), (35, (.slice A274 (splitP (rdD (splitP p0 (⟨#[32]⟩ : ByteArray)) x258 ByteArray.empty) (⟨#[46]⟩ : ByteArray)).length c275)), (36, (iv ((splitP (rdD (splitP p0 (⟨#[32]⟩ : ByteArray)) x258 ByteArray.empty) (⟨#[46]⟩ : ByteArray)).length : Int))), (37, (iv t.2.2.2.2))]) (fun n t w1 => St NoS w w1 [cel ⟨2, 0, none⟩ (iv mG)] [rowO 40 enc_Tile A255 c256 l257, blk g280 (.cells #[(iv t.1), (iv t.2.1), (iv t.2.2.1), (iv t.2.2.2.1)] 108 (0, 0)), rowO 9 encStr A10 c11 (splitP p0 (⟨#[32]⟩ : ByteArray)), rowO 9 encStr A274 c275 (splitP (rdD (splitP p0 (⟨#[32]⟩ : ByteArray)) x258 ByteArray.empty) (⟨#[46]⟩ : ByteArray))] ∧ tile_Parse.l1 n t.1 t.2.1 t.2.2.1 t.2.2.2.1 t.2.2.2.2 p0 x258 = some x347) k264 (0, 0, 0, 0, 0) [0, 4, 8, 19, 20, 21, 35, 36, 37] rfl ⟨(hS282.subR [0]).sub [2, 0, 3, 1] (by decide), hx348⟩ ?_
     rintro k349 ⟨x338, x339, x340, x341, x342⟩ w350 ⟨hS351, hl352⟩
     cases k349 with
     | zero => rw [tile_Parse.l1] at hl352; cases hl352
     | succ k349 =>
      rw [tile_Parse.l1] at hl352
      refine WC.seq ?_
      refine WC.region ?_
      refine seg 1 [] [0, 4, 8, 19, 20, 21, 35, 36, 37, 38] [(0, (.string p0)), (4, (.slice A255 l257.length c256)), (8, (pt g280)), (19, (.slice A10 (splitP p0 (⟨#[32]⟩ : ByteArray)).length c11)), (20, (iv ((splitP p0 (⟨#[32]⟩ : ByteArray)).length : Int))), (21, (iv x258)), (35, (.slice A274 (splitP (rdD (splitP p0 (⟨#[32]⟩ : ByteArray)) x258 ByteArray.empty) (⟨#[46]⟩ : ByteArray)).length c275)), (36, (iv ((splitP (rdD (splitP p0 (⟨#[32]⟩ : ByteArray)) x258 ByteArray.empty) (⟨#[46]⟩ : ByteArray)).length : Int))), (37, (iv x342)), (38, (.bool (decide (x342 < ((splitP (rdD (splitP p0 (⟨#[32]⟩ : ByteArray)) x258 ByteArray.empty) (⟨#[46]⟩ : ByteArray)).length : Int)))))] [] (fun fb => by kernel_rfl) rfl trivial ?_
      refine WL.done rfl ?_
      refine WX.next ?_
      refine WC.seq ?_
      rcases br_some hl352 with ⟨h353, hl352⟩ | ⟨h353, hl352⟩
      ·refine WC.condT2 (fun fb => by kernel_rfl) h353 ?_
       refine WC.skip ?_
       refine WX.next ?_
       refine WC.seq ?_
       refine WC.block ?_
       refine WC.seq ?_
       refine WC.region ?_
       refine seg 1 [] [0, 4, 8, 19, 20, 21, 35, 36, 37, 39] [(0, (.string p0)), (4, (.slice A255 l257.length c256)), (8, (pt g280)), (19, (.slice A10 (splitP p0 (⟨#[32]⟩ : ByteArray)).length c11)), (20, (iv ((splitP p0 (⟨#[32]⟩ : ByteArray)).length : Int))), (21, (iv x258)), (35, (.slice A274 (splitP (rdD (splitP p0 (⟨#[32]⟩ : ByteArray)) x258 ByteArray.empty) (⟨#[46]⟩ : ByteArray)).length c275)), (36, (iv ((splitP (rdD (splitP p0 (⟨#[32]⟩ : ByteArray)) x258 ByteArray.empty) (⟨#[46]⟩ : ByteArray)).length : Int))), (37, (iv x342)), (39, (iv x342))] [] (fun fb => by kernel_rfl) rfl trivial ?_
       obtain ⟨h354, hl352⟩ := as_some hl352
       refine seg 5 [.v (.string (rdD (splitP (rdD (splitP p0 (⟨#[32]⟩ : ByteArray)) x258 ByteArray.empty) (⟨#[46]⟩ : ByteArray)) x342 ByteArray.empty))] [0, 4, 8, 9, 10, 19, 20, 21, 35, 36, 37] [(0, (.string p0)), (4, (.slice A255 l257.length c256)), (8, (pt g280)), (9, (iv x342)), (10, (.string (rdD (splitP (rdD (splitP p0 (⟨#[32]⟩ : ByteArray)) x258 ByteArray.empty) (⟨#[46]⟩ : ByteArray)) x342 ByteArray.empty))), (19, (.slice A10 (splitP p0 (⟨#[32]⟩ : ByteArray)).length c11)), (20, (iv ((splitP p0 (⟨#[32]⟩ : ByteArray)).length : Int))), (21, (iv x258)), (35, (.slice A274 (splitP (rdD (splitP p0 (⟨#[32]⟩ : ByteArray)) x258 ByteArray.empty) (⟨#[46]⟩ : ByteArray)).length c275)), (36, (iv ((splitP (rdD (splitP p0 (⟨#[32]⟩ : ByteArray)) x258 ByteArray.empty) (⟨#[46]⟩ : ByteArray)).length : Int))), (37, (iv x342))] [.idx A274 x342 (splitP (rdD (splitP p0 (⟨#[32]⟩ : ByteArray)) x258 ByteArray.empty) (⟨#[46]⟩ : ByteArray)).length, .cell ((adr A274).add ((x342).toNat * 1)) (.string (rdD (splitP (rdD (splitP p0 (⟨#[32]⟩ : ByteArray)) x258 ByteArray.empty) (⟨#[46]⟩ : ByteArray)) x342 ByteArray.empty))] (fun fb => by kernel_rfl) rfl ⟨rowR.adr (rowO.rd (hS351.own 3).1) h354.1 h354.2, rowR.cell (rowO.rd (hS351.own 3).1) ByteArray.empty h354.1 h354.2 0 rfl, trivial⟩ ?_
       refine WL.done rfl ?_
       refine WX.next ?_
       refine WC.seq ?_
       refine WC.region ?_
       refine seg 1 [] [0, 4, 8, 9, 19, 20, 21, 35, 36, 37, 43] [(0, (.string p0)), (4, (.slice A255 l257.length c256)), (8, (pt g280)), (9, (iv x342)), (19, (.slice A10 (splitP p0 (⟨#[32]⟩ : ByteArray)).length c11)), (20, (iv ((splitP p0 (⟨#[32]⟩ : ByteArray)).length : Int))), (21, (iv x258)), (35, (.slice A274 (splitP (rdD (splitP p0 (⟨#[32]⟩ : ByteArray)) x258 ByteArray.empty) (⟨#[46]⟩ : ByteArray)).length c275)), (36, (iv ((splitP (rdD (splitP p0 (⟨#[32]⟩ : ByteArray)) x258 ByteArray.empty) (⟨#[46]⟩ : ByteArray)).length : Int))), (37, (iv x342)), (43, (.string (rdD (splitP (rdD (splitP p0 (⟨#[32]⟩ : ByteArray)) x258 ByteArray.empty) (⟨#[46]⟩ : ByteArray)) x342 ByteArray.empty)))] [] (fun fb => by kernel_rfl) rfl trivial ?_
       obtain ⟨t358, ht359, hl352⟩ := bind_some hl352
       refine WL.call (some 44) 78 #[(.string (rdD (splitP (rdD (splitP p0 (⟨#[32]⟩ : ByteArray)) x258 ByteArray.empty) (⟨#[46]⟩ : ByteArray)) x342 ByteArray.empty))] (fun fb => by kernel_rfl) (atoi_calls Tryd.strconv_Atoi_ok (rdD (splitP (rdD (splitP p0 (⟨#[32]⟩ : ByteArray)) x258 ByteArray.empty) (⟨#[46]⟩ : ByteArray)) x342 ByteArray.empty) t358 _ ht359) (fun v w356 hR355 => ?_)
       obtain ⟨rfl, hk_⟩ := hR355
       have hS357 := hS351.keepN hk_
       refine ⟨trivial, ?_⟩
       refine seg 7 [] [0, 4, 8, 9, 11, 12, 19, 20, 21, 35, 36, 37] [(0, (.string p0)), (4, (.slice A255 l257.length c256)), (8, (pt g280)), (9, (iv x342)), (11, (iv t358)), (12, .nilIface), (19, (.slice A10 (splitP p0 (⟨#[32]⟩ : ByteArray)).length c11)), (20, (iv ((splitP p0 (⟨#[32]⟩ : ByteArray)).length : Int))), (21, (iv x258)), (35, (.slice A274 (splitP (rdD (splitP p0 (⟨#[32]⟩ : ByteArray)) x258 ByteArray.empty) (⟨#[46]⟩ : ByteArray)).length c275)), (36, (iv ((splitP (rdD (splitP p0 (⟨#[32]⟩ : ByteArray)) x258 ByteArray.empty) (⟨#[46]⟩ : ByteArray)).length : Int))), (37, (iv x342))] [] (fun fb => by kernel_rfl) rfl trivial ?_
       refine WL.done rfl ?_
       refine WX.next ?_
       refine WC.seq ?_
       refine WC.seq ?_
       refine WC.region ?_
       refine seg 2 [] [0, 4, 8, 9, 11, 19, 20, 21, 35, 36, 37, 48] [(0, (.string p0)), (4, (.slice A255 l257.length c256)), (8, (pt g280)), (9, (iv x342)), (11, (iv t358)), (19, (.slice A10 (splitP p0 (⟨#[32]⟩ : ByteArray)).length c11)), (20, (iv ((splitP p0 (⟨#[32]⟩ : ByteArray)).length : Int))), (21, (iv x258)), (35, (.slice A274 (splitP (rdD (splitP p0 (⟨#[32]⟩ : ByteArray)) x258 ByteArray.empty) (⟨#[46]⟩ : ByteArray)).length c275)), (36, (iv ((splitP (rdD (splitP p0 (⟨#[32]⟩ : ByteArray)) x258 ByteArray.empty) (⟨#[46]⟩ : ByteArray)).length : Int))), (37, (iv x342)), (48, (.bool false))] [] (fun fb => by kernel_rfl) rfl trivial ?_
       refine WL.done rfl ?_
       refine WX.next ?_
       refine WC.condF (fun fb => by kernel_rfl) ?_
       refine WC.skip ?_
       refine WX.next ?_
       refine WC.region ?_
       refine seg 2 [] [0, 4, 8, 19, 20, 21, 35, 36, 37, 49, 50] [(0, (.string p0)), (4, (.slice A255 l257.length c256)), (8, (pt g280)), (19, (.slice A10 (splitP p0 (⟨#[32]⟩ : ByteArray)).length c11)), (20, (iv ((splitP p0 (⟨#[32]⟩ : ByteArray)).length : Int))), (21, (iv x258)), (35, (.slice A274 (splitP (rdD (splitP p0 (⟨#[32]⟩ : ByteArray)) x258 ByteArray.empty) (⟨#[46]⟩ : ByteArray)).length c275)), (36, (iv ((splitP (rdD (splitP p0 (⟨#[32]⟩ : ByteArray)) x258 ByteArray.empty) (⟨#[46]⟩ : ByteArray)).length : Int))), (37, (iv x342)), (49, (iv x342)), (50, (iv t358))] [] (fun fb => by kernel_rfl) rfl trivial ?_
       rcases br_some hl352 with ⟨h360, hl352⟩ | ⟨h360, hl352⟩
       ·
        refine WL.setI 49 (eq_of_beq h360) rfl ?_
        refine seg 3 [] [0, 4, 8, 19, 20, 21, 35, 36, 37, 50, 51] [(0, (.string p0)), (4, (.slice A255 l257.length c256)), (8, (pt g280)), (19, (.slice A10 (splitP p0 (⟨#[32]⟩ : ByteArray)).length c11)), (20, (iv ((splitP p0 (⟨#[32]⟩ : ByteArray)).length : Int))), (21, (iv x258)), (35, (.slice A274 (splitP (rdD (splitP p0 (⟨#[32]⟩ : ByteArray)) x258 ByteArray.empty) (⟨#[46]⟩ : ByteArray)).length c275)), (36, (iv ((splitP (rdD (splitP p0 (⟨#[32]⟩ : ByteArray)) x258 ByteArray.empty) (⟨#[46]⟩ : ByteArray)).length : Int))), (37, (iv x342)), (50, (iv t358)), (51, (pt g280))] [] (fun fb => by kernel_rfl) rfl trivial ?_
        refine WL.store hS357 1 rfl [(0, (iv t358))] #[(iv t358), (iv x339), (iv x340), (iv x341)] (fun fb => by kernel_rfl) (by kernel_rfl) rfl [0, 2, 3] (by decide) (by decide) (fun w361 hS362 => ?_)
        refine ⟨trivial, ?_⟩
        refine WL.done rfl ?_
        refine WX.blockN (WX.next ?_)
        refine WC.region ?_
        refine seg 2 [] [0, 4, 8, 19, 20, 21, 35, 36, 37] [(0, (.string p0)), (4, (.slice A255 l257.length c256)), (8, (pt g280)), (19, (.slice A10 (splitP p0 (⟨#[32]⟩ : ByteArray)).length c11)), (20, (iv ((splitP p0 (⟨#[32]⟩ : ByteArray)).length : Int))), (21, (iv x258)), (35, (.slice A274 (splitP (rdD (splitP p0 (⟨#[32]⟩ : ByteArray)) x258 ByteArray.empty) (⟨#[46]⟩ : ByteArray)).length c275)), (36, (iv ((splitP (rdD (splitP p0 (⟨#[32]⟩ : ByteArray)) x258 ByteArray.empty) (⟨#[46]⟩ : ByteArray)).length : Int))), (37, (iv (w64 (x342 + 1))))] [] (fun fb => by kernel_rfl) rfl trivial ?_
        refine WL.done rfl ?_
        exact WX.again k349 (Nat.lt_succ_self _) (t358, x339, x340, x341, w64 (x342 + 1)) [0, 4, 8, 19, 20, 21, 35, 36, 37] rfl ⟨(hS362.subR [0]).sub [1, 0, 2, 3] (by decide), hl352⟩
       rcases br_some hl352 with ⟨h363, hl352⟩ | ⟨h363, hl352⟩
       ·
        refine WL.setI 49 (eq_of_beq h363) rfl ?_
        refine seg 3 [] [0, 4, 8, 19, 20, 21, 35, 36, 37, 50, 51] [(0, (.string p0)), (4, (.slice A255 l257.length c256)), (8, (pt g280)), (19, (.slice A10 (splitP p0 (⟨#[32]⟩ : ByteArray)).length c11)), (20, (iv ((splitP p0 (⟨#[32]⟩ : ByteArray)).length : Int))), (21, (iv x258)), (35, (.slice A274 (splitP (rdD (splitP p0 (⟨#[32]⟩ : ByteArray)) x258 ByteArray.empty) (⟨#[46]⟩ : ByteArray)).length c275)), (36, (iv ((splitP (rdD (splitP p0 (⟨#[32]⟩ : ByteArray)) x258 ByteArray.empty) (⟨#[46]⟩ : ByteArray)).length : Int))), (37, (iv x342)), (50, (iv t358)), (51, (.pointer (some ⟨g280, 1, none⟩)))] [] (fun fb => by kernel_rfl) rfl trivial ?_
        refine WL.store hS357 1 rfl [(1, (iv t358))] #[(iv x338), (iv t358), (iv x340), (iv x341)] (fun fb => by kernel_rfl) (by kernel_rfl) rfl [0, 2, 3] (by decide) (by decide) (fun w364 hS365 => ?_)
        refine ⟨trivial, ?_⟩
        refine WL.done rfl ?_
        refine WX.blockN (WX.next ?_)
        refine WC.region ?_
        refine seg 2 [] [0, 4, 8, 19, 20, 21, 35, 36, 37] [(0, (.string p0)), (4, (.slice A255 l257.length c256)), (8, (pt g280)), (19, (.slice A10 (splitP p0 (⟨#[32]⟩ : ByteArray)).length c11)), (20, (iv ((splitP p0 (⟨#[32]⟩ : ByteArray)).length : Int))), (21, (iv x258)), (35, (.slice A274 (splitP (rdD (splitP p0 (⟨#[32]⟩ : ByteArray)) x258 ByteArray.empty) (⟨#[46]⟩ : ByteArray)).length c275)), (36, (iv ((splitP (rdD (splitP p0 (⟨#[32]⟩ : ByteArray)) x258 ByteArray.empty) (⟨#[46]⟩ : ByteArray)).length : Int))), (37, (iv (w64 (x342 + 1))))] [] (fun fb => by kernel_rfl) rfl trivial ?_
        refine WL.done rfl ?_
        exact WX.again k349 (Nat.lt_succ_self _) (x338, t358, x340, x341, w64 (x342 + 1)) [0, 4, 8, 19, 20, 21, 35, 36, 37] rfl ⟨(hS365.subR [0]).sub [1, 0, 2, 3] (by decide), hl352⟩
       rcases br_some hl352 with ⟨h366, hl352⟩ | ⟨h366, hl352⟩
       ·
        refine WL.setI 49 (eq_of_beq h366) rfl ?_
        refine seg 3 [] [0, 4, 8, 19, 20, 21, 35, 36, 37, 50, 51] [(0, (.string p0)), (4, (.slice A255 l257.length c256)), (8, (pt g280)), (19, (.slice A10 (splitP p0 (⟨#[32]⟩ : ByteArray)).length c11)), (20, (iv ((splitP p0 (⟨#[32]⟩ : ByteArray)).length : Int))), (21, (iv x258)), (35, (.slice A274 (splitP (rdD (splitP p0 (⟨#[32]⟩ : ByteArray)) x258 ByteArray.empty) (⟨#[46]⟩ : ByteArray)).length c275)), (36, (iv ((splitP (rdD (splitP p0 (⟨#[32]⟩ : ByteArray)) x258 ByteArray.empty) (⟨#[46]⟩ : ByteArray)).length : Int))), (37, (iv x342)), (50, (iv t358)), (51, (.pointer (some ⟨g280, 2, none⟩)))] [] (fun fb => by kernel_rfl) rfl trivial ?_
        refine WL.store hS357 1 rfl [(2, (iv t358))] #[(iv x338), (iv x339), (iv t358), (iv x341)] (fun fb => by kernel_rfl) (by kernel_rfl) rfl [0, 2, 3] (by decide) (by decide) (fun w367 hS368 => ?_)
        refine ⟨trivial, ?_⟩
        refine WL.done rfl ?_
        refine WX.blockN (WX.next ?_)
        refine WC.region ?_
        refine seg 2 [] [0, 4, 8, 19, 20, 21, 35, 36, 37] [(0, (.string p0)), (4, (.slice A255 l257.length c256)), (8, (pt g280)), (19, (.slice A10 (splitP p0 (⟨#[32]⟩ : ByteArray)).length c11)), (20, (iv ((splitP p0 (⟨#[32]⟩ : ByteArray)).length : Int))), (21, (iv x258)), (35, (.slice A274 (splitP (rdD (splitP p0 (⟨#[32]⟩ : ByteArray)) x258 ByteArray.empty) (⟨#[46]⟩ : ByteArray)).length c275)), (36, (iv ((splitP (rdD (splitP p0 (⟨#[32]⟩ : ByteArray)) x258 ByteArray.empty) (⟨#[46]⟩ : ByteArray)).length : Int))), (37, (iv (w64 (x342 + 1))))] [] (fun fb => by kernel_rfl) rfl trivial ?_
        refine WL.done rfl ?_
        exact WX.again k349 (Nat.lt_succ_self _) (x338, x339, t358, x341, w64 (x342 + 1)) [0, 4, 8, 19, 20, 21, 35, 36, 37] rfl ⟨(hS368.subR [0]).sub [1, 0, 2, 3] (by decide), hl352⟩
       rcases br_some hl352 with ⟨h369, hl352⟩ | ⟨h369, hl352⟩
       ·
        refine WL.setI 49 (eq_of_beq h369) rfl ?_
        refine seg 3 [] [0, 4, 8, 19, 20, 21, 35, 36, 37, 50, 51] [(0, (.string p0)), (4, (.slice A255 l257.length c256)), (8, (pt g280)), (19, (.slice A10 (splitP p0 (⟨#[32]⟩ : ByteArray)).length c11)), (20, (iv ((splitP p0 (⟨#[32]⟩ : ByteArray)).length : Int))), (21, (iv x258)), (35, (.slice A274 (splitP (rdD (splitP p0 (⟨#[32]⟩ : ByteArray)) x258 ByteArray.empty) (⟨#[46]⟩ : ByteArray)).length c275)), (36, (iv ((splitP (rdD (splitP p0 (⟨#[32]⟩ : ByteArray)) x258 ByteArray.empty) (⟨#[46]⟩ : ByteArray)).length : Int))), (37, (iv x342)), (50, (iv t358)), (51, (.pointer (some ⟨g280, 3, none⟩)))] [] (fun fb => by kernel_rfl) rfl trivial ?_
        refine WL.store hS357 1 rfl [(3, (iv t358))] #[(iv x338), (iv x339), (iv x340), (iv t358)] (fun fb => by kernel_rfl) (by kernel_rfl) rfl [0, 2, 3] (by decide) (by decide) (fun w370 hS371 => ?_)
        refine ⟨trivial, ?_⟩
        refine WL.done rfl ?_
        refine WX.blockN (WX.next ?_)
        refine WC.region ?_
        refine seg 2 [] [0, 4, 8, 19, 20, 21, 35, 36, 37] [(0, (.string p0)), (4, (.slice A255 l257.length c256)), (8, (pt g280)), (19, (.slice A10 (splitP p0 (⟨#[32]⟩ : ByteArray)).length c11)), (20, (iv ((splitP p0 (⟨#[32]⟩ : ByteArray)).length : Int))), (21, (iv x258)), (35, (.slice A274 (splitP (rdD (splitP p0 (⟨#[32]⟩ : ByteArray)) x258 ByteArray.empty) (⟨#[46]⟩ : ByteArray)).length c275)), (36, (iv ((splitP (rdD (splitP p0 (⟨#[32]⟩ : ByteArray)) x258 ByteArray.empty) (⟨#[46]⟩ : ByteArray)).length : Int))), (37, (iv (w64 (x342 + 1))))] [] (fun fb => by kernel_rfl) rfl trivial ?_
        refine WL.done rfl ?_
        exact WX.again k349 (Nat.lt_succ_self _) (x338, x339, x340, t358, w64 (x342 + 1)) [0, 4, 8, 19, 20, 21, 35, 36, 37] rfl ⟨(hS371.subR [0]).sub [1, 0, 2, 3] (by decide), hl352⟩
       cases hl352
      refine WC.condF2 (fun fb => by kernel_rfl) h353 ?_
      refine WC.exit ?_
      injection hl352 with hl352
      exact WX.thenX (WX.thenX (WX.blockHere (WX.to Kx347 (x338, x339, x340, x341) [0, 4, 8, 19, 20, 21] rfl ⟨(hS351.subR [0]).sub [0, 1, 2] (by decide), hl352.symm⟩)))
    rintro y375 w372 ⟨hS373, hq374⟩
    subst hq374
    refine WX.next ?_
    refine WC.region ?_
    refine seg 10 [.v (iv x347.1), .v (iv x347.2.1), .v (iv x347.2.2.1), .v (iv x347.2.2.2)] [0, 19, 20, 21, 53, 62] [(0, (.string p0)), (19, (.slice A10 (splitP p0 (⟨#[32]⟩ : ByteArray)).length c11)), (20, (iv ((splitP p0 (⟨#[32]⟩ : ByteArray)).length : Int))), (21, (iv x258)), (53, (.slice A255 l257.length c256)), (62, (.agg #[(iv x347.1), (iv x347.2.1), (iv x347.2.2.1), (iv x347.2.2.2)]))] [.cell ⟨g280, 0, none⟩ (iv x347.1), .cell ⟨g280, 1, none⟩ (iv x347.2.1), .cell ⟨g280, 2, none⟩ (iv x347.2.2.1), .cell ⟨g280, 3, none⟩ (iv x347.2.2.2)] (fun fb => by kernel_rfl) rfl ⟨hS373.cell 1 rfl 0 rfl, hS373.cell 1 rfl 1 rfl, hS373.cell 1 rfl 2 rfl, hS373.cell 1 rfl 3 rfl, trivial⟩ ?_
    refine WL.new hS373 63 [] (fun g => (.slice (some ⟨g, 0, none⟩) 1 1)) (.cells #[(iv x347.1), (iv x347.2.1), (iv x347.2.2.1), (iv x347.2.2.2)] 40 (0, 0)) [] (fun fb g => by kernel_rfl) trivial (fun g376 w377 hS378 => ?_)
    refine ⟨trivial, ?_⟩
    have hS380 : St NoS w w377 [cel ⟨2, 0, none⟩ (iv mG)] [rowO 40 enc_Tile (some ⟨g376, 0, none⟩) 1 [(Tile.mk x347.1 x347.2.1 x347.2.2.1 x347.2.2.2)], rowO 40 enc_Tile A255 c256 l257, blk g280 (.cells #[(iv x347.1), (iv x347.2.1), (iv x347.2.2.1), (iv x347.2.2.2)] 108 (0, 0)), rowO 9 encStr A10 c11 (splitP p0 (⟨#[32]⟩ : ByteArray))] := hS378.map1 0 _ (fun h => rowO.ofBlk h rfl (Nat.le_of_ble_eq_true (by kernel_rfl))) (fun _ h => by obtain ⟨_, h1, h2⟩ := h; injection h1 with h1; subst h1; exact h2) [1, 2, 3] (by decide) (by decide)
    obtain ⟨h381, hl267⟩ := as_some hl267
    refine WL.append hS380 1 (d := 64) (tS := 22) (z := (.agg #[(iv 0), (iv 0), (iv 0), (iv 0)])) (bytes := 32) (c2 := 1) rfl (fun fb => by kernel_rfl) (rowO.rd (hS380.own 0).1) (by kernel_rfl) (by kernel_rfl) rfl (by decide) h381 (by decide) [0, 2, 3] (by decide) (by decide) (fun A382 c383 w384 hS385 => ?_)
    refine ⟨trivial, ?_⟩
    refine seg 13 [] [0, 4, 19, 20, 21] [(0, (.string p0)), (4, (.slice A382 (l257 ++ [(Tile.mk x347.1 x347.2.1 x347.2.2.1 x347.2.2.2)]).length c383)), (19, (.slice A10 (splitP p0 (⟨#[32]⟩ : ByteArray)).length c11)), (20, (iv ((splitP p0 (⟨#[32]⟩ : ByteArray)).length : Int))), (21, (iv x258))] [] (fun fb => by kernel_rfl) rfl trivial ?_
    refine WL.done rfl ?_
    refine WX.blockN (WX.next ?_)
    refine WC.region ?_
    refine seg 2 [] [0, 4, 19, 20, 21] [(0, (.string p0)), (4, (.slice A382 (l257 ++ [(Tile.mk x347.1 x347.2.1 x347.2.2.1 x347.2.2.2)]).length c383)), (19, (.slice A10 (splitP p0 (⟨#[32]⟩ : ByteArray)).length c11)), (20, (iv ((splitP p0 (⟨#[32]⟩ : ByteArray)).length : Int))), (21, (iv (w64 (x258 + 1))))] [] (fun fb => by kernel_rfl) rfl trivial ?_
    refine WL.done rfl ?_
    exact WX.again k264 (Nat.lt_succ_self _) ((l257 ++ [(Tile.mk x347.1 x347.2.1 x347.2.2.1 x347.2.2.2)], w64 (x258 + 1)), A382, c383) [0, 4, 19, 20, 21] rfl ⟨(hS385.subR [0]).sub [0, 3] (by decide), hl267⟩
   refine WC.condF2 (fun fb => by kernel_rfl) h268 ?_
   refine WC.exit ?_
   injection hl267 with hl267
   exact WX.thenX (WX.thenX (WX.blockHere (WX.to Kx262 (l257, A255, c256) [0, 4] rfl ⟨(hS266.subR [0]).sub [0] (by decide), hl267.symm⟩)))
 rintro ⟨y389, A259, c260⟩ w386 ⟨hS387, hq388⟩
 subst hq388
 have hf := sum_inr hf
 refine WX.next ?_
 refine WC.seq ?_
 refine WC.seq ?_
 refine WC.region ?_
 refine seg 1 [] [0, 4, 66] [(0, (.string p0)), (4, (.slice A259 y389.length c260)), (66, (.slice A259 y389.length c260))] [] (fun fb => by kernel_rfl) rfl trivial ?_
 obtain ⟨t579, ht580, hf⟩ := bind_some hf
 refine WL.call (some 67) 52 #[(.slice A259 y389.length c260)] (fun fb => by kernel_rfl) (tile_Valid_calls _ y389 A259 c260 t579 _ (hS387.ow 0).ofO ht580) (fun v w581 hR582 => ?_)
 obtain ⟨rfl, hk_⟩ := hR582
 have hS583 := hS387.keepN hk_
 refine ⟨trivial, ?_⟩
 refine seg 4 [] [0, 4, 69] [(0, (.string p0)), (4, (.slice A259 y389.length c260)), (69, (.bool (!t579)))] [] (fun fb => by kernel_rfl) rfl trivial ?_
 obtain ⟨x1198, hx1199, hf⟩ := bind_some hf
 refine WL.cutW (T := Bool) 9 (fun t => [(4, (.slice A259 y389.length c260)), (74, (.bool t))]) (fun t w1 => (St NoS w w1 [cel ⟨2, 0, none⟩ (iv mG)] [rowO 40 enc_Tile A259 c260 y389] ∧ x1198 = t) ∧ CellsOK [] w1) (fun K => ?_) ?_
 ·
  rcases br_some hx1199 with ⟨h1200, hx1199⟩ | ⟨h1200, hx1199⟩
  ·
   refine WL.setB 69 h1200 rfl ?_
   refine seg 9 [] [4, 74] [(4, (.slice A259 y389.length c260)), (74, (.bool true))] [] (fun fb => by kernel_rfl) rfl trivial ?_
   injection hx1199 with hx1199
   exact WL.to K true [4, 74] rfl ⟨⟨(hS583.subR [0]).sub [0] (by decide), hx1199.symm⟩, trivial⟩
  refine WL.setB 69 h1200 rfl ?_
  refine seg 5 [] [0, 4, 69, 70] [(0, (.string p0)), (4, (.slice A259 y389.length c260)), (69, (.bool false)), (70, (.slice A259 y389.length c260))] [] (fun fb => by kernel_rfl) rfl trivial ?_
  obtain ⟨t1201, ht1202, hx1199⟩ := bind_some hx1199
  refine WL.call (some 71) 79 #[(.slice A259 y389.length c260)] (fun fb => by kernel_rfl) (tile_write_calls _ y389 A259 c260 t1201 _ (hS583.ow 0).ofO ht1202) (fun v w1203 hR1204 => ?_)
  obtain ⟨rfl, hk_⟩ := hR1204
  have hS1205 := hS583.keepN hk_
  refine ⟨trivial, ?_⟩
  refine seg 7 [] [4, 69, 71, 72] [(4, (.slice A259 y389.length c260)), (69, (.bool false)), (71, (.string t1201)), (72, (.string p0))] [] (fun fb => by kernel_rfl) rfl trivial ?_
  refine seg 8 [] [4, 69, 73] [(4, (.slice A259 y389.length c260)), (69, (.bool false)), (73, (.bool (!(t1201.toList == p0.toList))))] [] (fun fb => by kernel_rfl) rfl trivial ?_
  refine WL.setB 73 (congrArg not (strEq_raw t1201 p0)) rfl ?_
  refine seg 9 [] [4, 74] [(4, (.slice A259 y389.length c260)), (74, (.bool (!(strEq t1201 p0))))] [] (fun fb => by kernel_rfl) rfl trivial ?_
  injection hx1199 with hx1199
  exact WL.to K (!(strEq t1201 p0)) [4, 74] rfl ⟨⟨(hS1205.subR [0]).sub [0] (by decide), hx1199.symm⟩, trivial⟩
 rintro y1206 w1208 ⟨⟨hS1209, hq1207⟩, hF1210⟩
 subst hq1207
 refine WL.done rfl ?_
 refine WX.next ?_
 rcases br_some hf with ⟨h1211, hf⟩ | ⟨h1211, hf⟩
 ·refine WC.condT2 (fun fb => by kernel_rfl) h1211 ?_
  refine WC.seq ?_
  refine WC.region ?_
  refine seg 2 [] [2, 3] [(2, (.slice none 0 0)), (3, (iv 3))] [] (fun fb => by kernel_rfl) rfl trivial ?_
  refine WL.done rfl ?_
  refine WX.next ?_
  refine WC.ret ?_
  have hS1212 := hS1209.nilrow 40 enc_Tile
  injection hf with hf
  subst hf
  exact WX.thenR (WX.ret_ [] (.tuple #[(.slice none ([] : List Tile).length 0), (iv 3)]) [] (fun fb => by kernel_rfl) trivial ⟨_, rfl, none, 0, rfl, (hS1212.sub [0] (by decide)).noR⟩)
 refine WC.condF2 (fun fb => by kernel_rfl) h1211 ?_
 refine WC.skip ?_
 refine WX.next ?_
 refine WC.seq ?_
 refine WC.region ?_
 refine seg 3 [] [2, 3] [(2, (.slice A259 y389.length c260)), (3, (iv 0))] [] (fun fb => by kernel_rfl) rfl trivial ?_
 refine WL.done rfl ?_
 refine WX.next ?_
 refine WC.ret ?_
 injection hf with hf
 subst hf
 exact WX.ret_ [] (.tuple #[(.slice A259 y389.length c260), (iv 0)]) [] (fun fb => by kernel_rfl) trivial ⟨_, rfl, A259, c260, rfl, (hS1209.sub [0] (by decide)).noR⟩
theorem rows_Few_calls (k : Nat) (p0 : List Tile) (p1 : Int) (A_p0 : Option Addr) (c_p0 : Nat) (r : Bool) (w : World) (hR0 : RO NoS w (rowR enc_Tile A_p0 c_p0 p0)) (hf : rows_Few k p0 p1 = some r) :
  CallsR Tryd.prog 53 #[(.slice A_p0 p0.length c_p0), (iv p1)] w (fun v w' => v = (.bool r) ∧ Keeps NoS w w') := by
 have hS : St NoS w w [rowR enc_Tile A_p0 c_p0 p0] [] := St.init (ro_cons hR0 (ro_nil _ _))
 refine enter 17 Tryd.func53 rfl Tryd.ntmps53 rfl ?_
 unfold rows_Few at hf
 refine WC.seq ?_
 refine WC.region ?_
 refine seg 1 [] [0, 1] [(0, (.slice A_p0 p0.length c_p0)), (1, (iv p1))] [] (fun fb => by kernel_rfl) rfl trivial ?_
 refine WL.done rfl ?_
 refine WX.next ?_
 refine WC.seq ?_
 refine WC.region ?_
 refine seg 1 [] [0, 1, 5] [(0, (.slice A_p0 p0.length c_p0)), (1, (iv p1)), (5, (iv 1))] [] (fun fb => by kernel_rfl) rfl trivial ?_
 refine WL.done rfl ?_
 refine WX.next ?_
 refine WC.seq ?_
 refine WC.seq ?_
 refine WC.region ?_
 refine seg 2 [] [0, 5, 6, 7] [(0, (.slice A_p0 p0.length c_p0)), (5, (iv 1)), (6, (iv p1)), (7, (iv 0))] [] (fun fb => by kernel_rfl) rfl trivial ?_
 refine WL.done rfl ?_
 refine WX.next ?_
 obtain ⟨x1254, hx1255, hf⟩ := bind_some hf
 refine WC.cutN (T := Unit) (fun t => []) (fun t w1 => St NoS w w1 [rowR enc_Tile A_p0 c_p0 p0] [] ∧ x1254 = .inr t) (fun Kx1254 => ?_) ?_
 ·
  refine WC.block ?_
  refine WC.loop (T := Int × Int) (fun t => [(0, (.slice A_p0 p0.length c_p0)), (5, (iv t.1)), (6, (iv p1)), (7, (iv t.2))]) (fun n t w1 => St NoS w w1 [rowR enc_Tile A_p0 c_p0 p0] [] ∧ rows_Few.l0 n t.1 t.2 p0 p1 = some x1254) k (1, 0) [0, 5, 6, 7] rfl ⟨(hS.subR [0]).sub [] (by decide), hx1255⟩ ?_
  rintro k1256 ⟨x1252, x1253⟩ w1257 ⟨hS1258, hl1259⟩
  cases k1256 with
  | zero => rw [rows_Few.l0] at hl1259; cases hl1259
  | succ k1256 =>
   rw [rows_Few.l0] at hl1259
   refine WC.seq ?_
   refine WC.region ?_
   refine seg 1 [] [0, 5, 6, 7, 8] [(0, (.slice A_p0 p0.length c_p0)), (5, (iv x1252)), (6, (iv p1)), (7, (iv x1253)), (8, (.bool (decide (x1253 < p1))))] [] (fun fb => by kernel_rfl) rfl trivial ?_
   refine WL.done rfl ?_
   refine WX.next ?_
   refine WC.seq ?_
   rcases br_some hl1259 with ⟨h1260, hl1259⟩ | ⟨h1260, hl1259⟩
   ·refine WC.condT2 (fun fb => by kernel_rfl) h1260 ?_
    refine WC.skip ?_
    refine WX.next ?_
    refine WC.seq ?_
    refine WC.block ?_
    refine WC.seq ?_
    refine WC.region ?_
    refine seg 6 [] [0, 5, 6, 7] [(0, (.slice A_p0 p0.length c_p0)), (5, (iv (w64 (x1252 * (maxI (p0.length : Int) 1))))), (6, (iv p1)), (7, (iv x1253))] [] (fun fb => by kernel_rfl) rfl trivial ?_
    refine WL.done rfl ?_
    refine WX.next ?_
    refine WC.seq ?_
    refine WC.region ?_
    refine seg 2 [] [0, 5, 6, 7, 15] [(0, (.slice A_p0 p0.length c_p0)), (5, (iv (w64 (x1252 * (maxI (p0.length : Int) 1))))), (6, (iv p1)), (7, (iv x1253)), (15, (.bool (decide (w64 (x1252 * (maxI (p0.length : Int) 1)) > 5000))))] [] (fun fb => by kernel_rfl) rfl trivial ?_
    refine WL.done rfl ?_
    refine WX.next ?_
    rcases br_some hl1259 with ⟨h1261, hl1259⟩ | ⟨h1261, hl1259⟩
    ·refine WC.condT2 (fun fb => by kernel_rfl) h1261 ?_
     refine WC.seq ?_
     refine WC.region ?_
     refine seg 1 [] [4] [(4, (.bool false))] [] (fun fb => by kernel_rfl) rfl trivial ?_
     refine WL.done rfl ?_
     refine WX.next ?_
     refine WC.ret ?_
     injection hl1259 with hl1259
     subst hl1259
     injection hf with hf
     subst hf
     exact WX.blockR (WX.thenR (WX.thenR (WX.blockR (WX.thenR (WX.ret_ [] (.bool false) [] (fun fb => by kernel_rfl) trivial ⟨_, rfl, rfl, hS1258.keep⟩)))))
    refine WC.condF2 (fun fb => by kernel_rfl) h1261 ?_
    refine WC.skip ?_
    refine WX.blockN (WX.next ?_)
    refine WC.region ?_
    refine seg 2 [] [0, 5, 6, 7] [(0, (.slice A_p0 p0.length c_p0)), (5, (iv (w64 (x1252 * (maxI (p0.length : Int) 1))))), (6, (iv p1)), (7, (iv (w64 (x1253 + 1))))] [] (fun fb => by kernel_rfl) rfl trivial ?_
    refine WL.done rfl ?_
    exact WX.again k1256 (Nat.lt_succ_self _) (w64 (x1252 * (maxI (p0.length : Int) 1)), w64 (x1253 + 1)) [0, 5, 6, 7] rfl ⟨(hS1258.subR [0]).sub [] (by decide), hl1259⟩
   refine WC.condF2 (fun fb => by kernel_rfl) h1260 ?_
   refine WC.exit ?_
   injection hl1259 with hl1259
   exact WX.thenX (WX.thenX (WX.blockHere (WX.to Kx1254 () [] rfl ⟨(hS1258.subR [0]).sub [] (by decide), hl1259.symm⟩)))
 rintro y1265 w1262 ⟨hS1263, hq1264⟩
 subst hq1264
 have hf := sum_inr hf
 refine WX.next ?_
 refine WC.seq ?_
 refine WC.region ?_
 refine seg 1 [] [4] [(4, (.bool true))] [] (fun fb => by kernel_rfl) rfl trivial ?_
 refine WL.done rfl ?_
 refine WX.next ?_
 refine WC.ret ?_
 injection hf with hf
 subst hf
 exact WX.ret_ [] (.bool true) [] (fun fb => by kernel_rfl) trivial ⟨_, rfl, rfl, hS1263.keep⟩
theorem rows_rowOf_calls (k : Nat) (p0 : List Tile) (p1 : List Int) (A_p0 : Option Addr) (c_p0 : Nat) (A_p1 : Option Addr) (c_p1 : Nat) (r : Row) (w : World) (hR0 : RO NoS w (rowR enc_Tile A_p0 c_p0 p0)) (hR1 : RO NoS w (rowR encInt A_p1 c_p1 p1)) (hf : rows_rowOf k p0 p1 = some r) :
  CallsR Tryd.prog 98 #[(.slice A_p0 p0.length c_p0), (.slice A_p1 p1.length c_p1)] w (fun v w' => ∃ (A1_ : Option Addr), ∃ (c1_ : Nat), v = (.agg #[(.slice A1_ r.Cells.length c1_), (iv r.South.e0), (iv r.South.e1), (iv r.South.e2), (iv r.South.e3), (iv r.South.e4), (iv r.South.e5), (iv r.South.e6), (iv r.South.e7), (iv r.North.e0), (iv r.North.e1), (iv r.North.e2), (iv r.North.e3), (iv r.North.e4), (iv r.North.e5), (iv r.North.e6), (iv r.North.e7), (iv r.West), (iv r.East)]) ∧ St NoS w w' [] [rowO 3 encInt A1_ c1_ r.Cells]) := by
 have hS : St NoS w w [rowR enc_Tile A_p0 c_p0 p0, rowR encInt A_p1 c_p1 p1] [] := St.init (ro_cons hR0 (ro_cons hR1 (ro_nil _ _)))
 refine enter 55 Tryd.func98 rfl Tryd.ntmps98 rfl ?_
 unfold rows_rowOf at hf
 refine WC.seq ?_
 refine WC.region ?_
 refine WL.new hS 4 [] (fun g => (.pointer (some ⟨g, 0, none⟩))) (.cells #[(.slice none 0 0), (iv 0), (iv 0), (iv 0), (iv 0), (iv 0), (iv 0), (iv 0), (iv 0), (iv 0), (iv 0), (iv 0), (iv 0), (iv 0), (iv 0), (iv 0), (iv 0), (iv 0), (iv 0)] 85 (0, 0)) [] (fun fb g => by kernel_rfl) trivial (fun g1314 w1315 hS1316 => ?_)
 refine ⟨trivial, ?_⟩
 refine WL.done rfl ?_
 refine WX.next ?_
 refine WC.seq ?_
 refine WC.region ?_
 refine seg 1 [] [0, 1, 4, 8] [(0, (.slice A_p0 p0.length c_p0)), (1, (.slice A_p1 p1.length c_p1)), (4, (pt g1314)), (8, (.slice A_p1 p1.length c_p1))] [] (fun fb => by kernel_rfl) rfl trivial ?_
 have hS1318 := hS1316.nilrow 3 encInt
 obtain ⟨h1319, hf⟩ := as_some hf
 refine WL.append hS1318 0 (d := 9) (tS := 25) (z := (iv 0)) (bytes := 8) (c2 := c_p1) rfl (fun fb => by kernel_rfl) (hS1318.rd 1).1 (by kernel_rfl) (by kernel_rfl) rfl (by decide) h1319 (by decide) [1] (by decide) (by decide) (fun A1320 c1321 w1322 hS1323 => ?_)
 refine ⟨trivial, ?_⟩
 refine seg 3 [] [0, 1, 4, 10] [(0, (.slice A_p0 p0.length c_p0)), (1, (.slice A_p1 p1.length c_p1)), (4, (pt g1314)), (10, (.agg #[(.slice A1320 (([] : List Int) ++ p1).length c1321), (iv 0), (iv 0), (iv 0), (iv 0), (iv 0), (iv 0), (iv 0), (iv 0), (iv 0), (iv 0), (iv 0), (iv 0), (iv 0), (iv 0), (iv 0), (iv 0), (iv 0), (iv 0)]))] [] (fun fb => by kernel_rfl) rfl trivial ?_
 refine WL.new hS1323 5 [] (fun g => (.pointer (some ⟨g, 0, none⟩))) (.cells #[(.slice none 0 0), (iv 0), (iv 0), (iv 0), (iv 0), (iv 0), (iv 0), (iv 0), (iv 0), (iv 0), (iv 0), (iv 0), (iv 0), (iv 0), (iv 0), (iv 0), (iv 0), (iv 0), (iv 0)] 85 (0, 0)) [] (fun fb g => by kernel_rfl) trivial (fun g1324 w1325 hS1326 => ?_)
 refine ⟨trivial, ?_⟩
 refine WL.store hS1326 0 rfl [(0, (.slice A1320 (([] : List Int) ++ p1).length c1321)), (1, (iv 0)), (2, (iv 0)), (3, (iv 0)), (4, (iv 0)), (5, (iv 0)), (6, (iv 0)), (7, (iv 0)), (8, (iv 0)), (9, (iv 0)), (10, (iv 0)), (11, (iv 0)), (12, (iv 0)), (13, (iv 0)), (14, (iv 0)), (15, (iv 0)), (16, (iv 0)), (17, (iv 0)), (18, (iv 0))] #[(.slice A1320 (([] : List Int) ++ p1).length c1321), (iv 0), (iv 0), (iv 0), (iv 0), (iv 0), (iv 0), (iv 0), (iv 0), (iv 0), (iv 0), (iv 0), (iv 0), (iv 0), (iv 0), (iv 0), (iv 0), (iv 0), (iv 0)] (fun fb => by kernel_rfl) (by kernel_rfl) (by kernel_rfl) [1, 2] (by decide) (by decide) (fun w1328 hS1329 => ?_)
 refine ⟨trivial, ?_⟩
 refine WL.done rfl ?_
 refine WX.next ?_
 refine WC.seq ?_
 refine WC.seq ?_
 refine WC.region ?_
 refine seg 3 [] [0, 1, 4, 5, 11, 12, 13] [(0, (.slice A_p0 p0.length c_p0)), (1, (.slice A_p1 p1.length c_p1)), (4, (pt g1314)), (5, (pt g1324)), (11, (.slice A_p1 p1.length c_p1)), (12, (iv (p1.length : Int))), (13, (iv 0))] [] (fun fb => by kernel_rfl) rfl trivial ?_
 refine WL.done rfl ?_
 refine WX.next ?_
 obtain ⟨x1408, hx1409, hf⟩ := bind_some hf
 refine WC.cutN (T := A8_Int × A8_Int) (fun t => [(0, (.slice A_p0 p0.length c_p0)), (1, (.slice A_p1 p1.length c_p1)), (4, (pt g1314)), (5, (pt g1324))]) (fun t w1 => St NoS w w1 [rowR enc_Tile A_p0 c_p0 p0, rowR encInt A_p1 c_p1 p1] [blk g1314 (.cells #[(.slice none 0 0), (iv 0), (iv 0), (iv 0), (iv 0), (iv 0), (iv 0), (iv 0), (iv 0), (iv 0), (iv 0), (iv 0), (iv 0), (iv 0), (iv 0), (iv 0), (iv 0), (iv 0), (iv 0)] 85 (0, 0)), blk g1324 (.cells #[(.slice A1320 (([] : List Int) ++ p1).length c1321), (iv t.1.e0), (iv t.1.e1), (iv t.1.e2), (iv t.1.e3), (iv t.1.e4), (iv t.1.e5), (iv t.1.e6), (iv t.1.e7), (iv t.2.e0), (iv t.2.e1), (iv t.2.e2), (iv t.2.e3), (iv t.2.e4), (iv t.2.e5), (iv t.2.e6), (iv t.2.e7), (iv 0), (iv 0)] 85 (0, 0)), rowO 3 encInt A1320 c1321 (([] : List Int) ++ p1)] ∧ x1408 = t) (fun Kx1408 => ?_) ?_
 ·
  refine WC.block ?_
  refine WC.loop (T := A8_Int × A8_Int × Int) (fun t => [(0, (.slice A_p0 p0.length c_p0)), (1, (.slice A_p1 p1.length c_p1)), (4, (pt g1314)), (5, (pt g1324)), (11, (.slice A_p1 p1.length c_p1)), (12, (iv (p1.length : Int))), (13, (iv t.2.2))]) (fun n t w1 => St NoS w w1 [rowR enc_Tile A_p0 c_p0 p0, rowR encInt A_p1 c_p1 p1] [blk g1314 (.cells #[(.slice none 0 0), (iv 0), (iv 0), (iv 0), (iv 0), (iv 0), (iv 0), (iv 0), (iv 0), (iv 0), (iv 0), (iv 0), (iv 0), (iv 0), (iv 0), (iv 0), (iv 0), (iv 0), (iv 0)] 85 (0, 0)), blk g1324 (.cells #[(.slice A1320 (([] : List Int) ++ p1).length c1321), (iv t.1.e0), (iv t.1.e1), (iv t.1.e2), (iv t.1.e3), (iv t.1.e4), (iv t.1.e5), (iv t.1.e6), (iv t.1.e7), (iv t.2.1.e0), (iv t.2.1.e1), (iv t.2.1.e2), (iv t.2.1.e3), (iv t.2.1.e4), (iv t.2.1.e5), (iv t.2.1.e6), (iv t.2.1.e7), (iv 0), (iv 0)] 85 (0, 0)), rowO 3 encInt A1320 c1321 (([] : List Int) ++ p1)] ∧ rows_rowOf.l0 n t.1 t.2.1 t.2.2 p0 p1 = some x1408) k ((A8_Int.mk 0 0 0 0 0 0 0 0), (A8_Int.mk 0 0 0 0 0 0 0 0), 0) [0, 1, 4, 5, 11, 12, 13] rfl ⟨(hS1329.subR [0, 1]).sub [2, 0, 1] (by decide), hx1409⟩ ?_
  rintro k1410 ⟨a1403, a1404, x1405⟩ w1411 ⟨hS1412, hl1413⟩
  cases k1410 with
  | zero => rw [rows_rowOf.l0] at hl1413; cases hl1413
  | succ k1410 =>
   rw [rows_rowOf.l0] at hl1413
   refine WC.seq ?_
   refine WC.region ?_
   refine seg 1 [] [0, 1, 4, 5, 11, 12, 13, 14] [(0, (.slice A_p0 p0.length c_p0)), (1, (.slice A_p1 p1.length c_p1)), (4, (pt g1314)), (5, (pt g1324)), (11, (.slice A_p1 p1.length c_p1)), (12, (iv (p1.length : Int))), (13, (iv x1405)), (14, (.bool (decide (x1405 < (p1.length : Int)))))] [] (fun fb => by kernel_rfl) rfl trivial ?_
   refine WL.done rfl ?_
   refine WX.next ?_
   refine WC.seq ?_
   rcases br_some hl1413 with ⟨h1414, hl1413⟩ | ⟨h1414, hl1413⟩
   ·refine WC.condT2 (fun fb => by kernel_rfl) h1414 ?_
    refine WC.skip ?_
    refine WX.next ?_
    refine WC.seq ?_
    refine WC.block ?_
    refine WC.seq ?_
    refine WC.region ?_
    refine seg 1 [] [0, 1, 4, 5, 11, 12, 13, 15] [(0, (.slice A_p0 p0.length c_p0)), (1, (.slice A_p1 p1.length c_p1)), (4, (pt g1314)), (5, (pt g1324)), (11, (.slice A_p1 p1.length c_p1)), (12, (iv (p1.length : Int))), (13, (iv x1405)), (15, (iv x1405))] [] (fun fb => by kernel_rfl) rfl trivial ?_
    obtain ⟨h1415, hl1413⟩ := as_some hl1413
    refine seg 5 [.v (iv (rdD p1 x1405 0))] [0, 1, 4, 5, 6, 7, 11, 12, 13] [(0, (.slice A_p0 p0.length c_p0)), (1, (.slice A_p1 p1.length c_p1)), (4, (pt g1314)), (5, (pt g1324)), (6, (iv x1405)), (7, (iv (rdD p1 x1405 0))), (11, (.slice A_p1 p1.length c_p1)), (12, (iv (p1.length : Int))), (13, (iv x1405))] [.idx A_p1 x1405 p1.length, .cell ((adr A_p1).add ((x1405).toNat * 1)) (iv (rdD p1 x1405 0))] (fun fb => by kernel_rfl) rfl ⟨rowR.adr (hS1412.rd 1).1 h1415.1 h1415.2, rowR.cell (hS1412.rd 1).1 0 h1415.1 h1415.2 0 rfl, trivial⟩ ?_
    refine WL.done rfl ?_
    refine WX.next ?_
    obtain ⟨h1430, hl1413⟩ := as_some hl1413
    obtain ⟨h1431, hl1413⟩ := as_some hl1413
    refine WC.regionD ([(6, (((adr A_p0).add (((rdD p1 x1405 0)).toNat * 4)).add 2), (iv ((rdD p0 (rdD p1 x1405 0) z_Tile).S))), (11, ((adr A_p0).add (((rdD p1 x1405 0)).toNat * 4)), (iv ((rdD p0 (rdD p1 x1405 0) z_Tile).N)))], [0, 1, 2, 3, 4, 5, 6, 7, 8, 9, 10, 11, 12, 13, 15, 16], [[], [], [], [], [2, 3], [2, 3, 4], [2, 3, 4, 5], [], [], [7, 8], [7, 8, 9], [7, 8, 9, 10], [], [0, 2, 3, 4, 5, 6, 12], [0, 2, 3, 4, 5, 6, 12, 13], [], [0, 1, 2, 3, 4, 5, 6, 7, 8, 9, 10, 11, 12, 13, 14, 15], [0, 1, 2, 3, 4, 5, 6, 7, 8, 9, 10, 11, 12, 13, 14, 15, 16]]) [[0, 1, 2, 3, 4, 5, 6, 7, 8, 9, 10, 11, 12, 13, 15, 14, 16, 17]] (by kernel_rfl) (by kernel_rfl) (NoPanic.block (NoPanic.seq (NoPanic.seq (NoPanic.block (NoPanic.seq (NoPanic.body)))))) ?_
    have hS1427 := hS1412.drew
    revert hS1427
    generalize World.drew w1411 = w1426
    intro hS1427
    refine ⟨⟨rowR.cell (hS1427.rd 0).1 z_Tile h1430.1 h1430.2 2 rfl, rowR.cell (hS1427.rd 0).1 z_Tile h1430.1 h1430.2 0 rfl, trivial⟩, forallC ?_ (forallN)⟩
    refine segF 15 [.v (iv ((rdD p0 (rdD p1 x1405 0) z_Tile).S)), .v (iv ((rdD p0 (rdD p1 x1405 0) z_Tile).N))] [0, 1, 4, 5, 11, 12, 13, 19, 24, 29, 31, 32] [(0, (.slice A_p0 p0.length c_p0)), (1, (.slice A_p1 p1.length c_p1)), (4, (pt g1314)), (5, (pt g1324)), (11, (.slice A_p1 p1.length c_p1)), (12, (iv (p1.length : Int))), (13, (iv x1405)), (19, (iv x1405)), (24, (iv ((rdD p0 (rdD p1 x1405 0) z_Tile).S))), (29, (iv ((rdD p0 (rdD p1 x1405 0) z_Tile).N))), (31, (.pointer (some (flatA ⟨g1324, 1, none⟩ (x1405.toNat * 1))))), (32, (.pointer (some ⟨g1324, 9, none⟩)))] [.idx A_p0 (rdD p1 x1405 0) p0.length, .idx A_p0 (rdD p1 x1405 0) p0.length, .idx (some ⟨0, 0, none⟩) x1405 8] [0, 1] [(6, (((adr A_p0).add (((rdD p1 x1405 0)).toNat * 4)).add 2), (iv ((rdD p0 (rdD p1 x1405 0) z_Tile).S))), (11, ((adr A_p0).add (((rdD p1 x1405 0)).toNat * 4)), (iv ((rdD p0 (rdD p1 x1405 0) z_Tile).N)))] (fun fb => by kernel_rfl) rfl ⟨rowR.adr (hS1427.rd 0).1 h1430.1 h1430.2, rowR.adr (hS1427.rd 0).1 h1430.1 h1430.2, ⟨h1431.1, h1431.2, rfl⟩, trivial⟩ rfl ?_
    have h1434 := (cases8 (Q := fun z_ => (([(1 + z_.toNat * 1, (iv ((rdD p0 (rdD p1 x1405 0) z_Tile).S)))] : List (Nat × Value)).all fun p_ => Nat.blt p_.1 (#[(.slice A1320 (([] : List Int) ++ p1).length c1321), (iv a1403.e0), (iv a1403.e1), (iv a1403.e2), (iv a1403.e3), (iv a1403.e4), (iv a1403.e5), (iv a1403.e6), (iv a1403.e7), (iv a1404.e0), (iv a1404.e1), (iv a1404.e2), (iv a1404.e3), (iv a1404.e4), (iv a1404.e5), (iv a1404.e6), (iv a1404.e7), (iv 0), (iv 0)] : Array Value).size) = true) h1431 (by kernel_rfl) (by kernel_rfl) (by kernel_rfl) (by kernel_rfl) (by kernel_rfl) (by kernel_rfl) (by kernel_rfl) (by kernel_rfl))
    have h1435 := (cases8 (Q := fun z_ => wrc (#[(.slice A1320 (([] : List Int) ++ p1).length c1321), (iv a1403.e0), (iv a1403.e1), (iv a1403.e2), (iv a1403.e3), (iv a1403.e4), (iv a1403.e5), (iv a1403.e6), (iv a1403.e7), (iv a1404.e0), (iv a1404.e1), (iv a1404.e2), (iv a1404.e3), (iv a1404.e4), (iv a1404.e5), (iv a1404.e6), (iv a1404.e7), (iv 0), (iv 0)] : Array Value) [(1 + z_.toNat * 1, (iv ((rdD p0 (rdD p1 x1405 0) z_Tile).S)))] = (#[(.slice A1320 (([] : List Int) ++ p1).length c1321), (iv ((A8_Int.set a1403 z_ ((rdD p0 (rdD p1 x1405 0) z_Tile).S)).e0)), (iv ((A8_Int.set a1403 z_ ((rdD p0 (rdD p1 x1405 0) z_Tile).S)).e1)), (iv ((A8_Int.set a1403 z_ ((rdD p0 (rdD p1 x1405 0) z_Tile).S)).e2)), (iv ((A8_Int.set a1403 z_ ((rdD p0 (rdD p1 x1405 0) z_Tile).S)).e3)), (iv ((A8_Int.set a1403 z_ ((rdD p0 (rdD p1 x1405 0) z_Tile).S)).e4)), (iv ((A8_Int.set a1403 z_ ((rdD p0 (rdD p1 x1405 0) z_Tile).S)).e5)), (iv ((A8_Int.set a1403 z_ ((rdD p0 (rdD p1 x1405 0) z_Tile).S)).e6)), (iv ((A8_Int.set a1403 z_ ((rdD p0 (rdD p1 x1405 0) z_Tile).S)).e7)), (iv a1404.e0), (iv a1404.e1), (iv a1404.e2), (iv a1404.e3), (iv a1404.e4), (iv a1404.e5), (iv a1404.e6), (iv a1404.e7), (iv 0), (iv 0)] : Array Value)) h1431 (by kernel_rfl) (by kernel_rfl) (by kernel_rfl) (by kernel_rfl) (by kernel_rfl) (by kernel_rfl) (by kernel_rfl) (by kernel_rfl))
    refine WL.store hS1427 1 rfl [(1 + x1405.toNat * 1, (iv ((rdD p0 (rdD p1 x1405 0) z_Tile).S)))] #[(.slice A1320 (([] : List Int) ++ p1).length c1321), (iv ((A8_Int.set a1403 x1405 ((rdD p0 (rdD p1 x1405 0) z_Tile).S)).e0)), (iv ((A8_Int.set a1403 x1405 ((rdD p0 (rdD p1 x1405 0) z_Tile).S)).e1)), (iv ((A8_Int.set a1403 x1405 ((rdD p0 (rdD p1 x1405 0) z_Tile).S)).e2)), (iv ((A8_Int.set a1403 x1405 ((rdD p0 (rdD p1 x1405 0) z_Tile).S)).e3)), (iv ((A8_Int.set a1403 x1405 ((rdD p0 (rdD p1 x1405 0) z_Tile).S)).e4)), (iv ((A8_Int.set a1403 x1405 ((rdD p0 (rdD p1 x1405 0) z_Tile).S)).e5)), (iv ((A8_Int.set a1403 x1405 ((rdD p0 (rdD p1 x1405 0) z_Tile).S)).e6)), (iv ((A8_Int.set a1403 x1405 ((rdD p0 (rdD p1 x1405 0) z_Tile).S)).e7)), (iv a1404.e0), (iv a1404.e1), (iv a1404.e2), (iv a1404.e3), (iv a1404.e4), (iv a1404.e5), (iv a1404.e6), (iv a1404.e7), (iv 0), (iv 0)] (fun fb => by kernel_rfl) h1434 h1435 [0, 2] (by decide) (by decide) (fun w1432 hS1433 => ?_)
    refine ⟨⟨rowR.cell (hS1433.rd 0).1 z_Tile h1430.1 h1430.2 0 rfl, trivial⟩, ?_⟩
    refine seg 17 [] [0, 1, 4, 5, 11, 12, 13, 29, 33] [(0, (.slice A_p0 p0.length c_p0)), (1, (.slice A_p1 p1.length c_p1)), (4, (pt g1314)), (5, (pt g1324)), (11, (.slice A_p1 p1.length c_p1)), (12, (iv (p1.length : Int))), (13, (iv x1405)), (29, (iv ((rdD p0 (rdD p1 x1405 0) z_Tile).N))), (33, (.pointer (some (flatA ⟨g1324, 9, none⟩ (x1405.toNat * 1)))))] [.idx (some ⟨0, 0, none⟩) x1405 8] (fun fb => by kernel_rfl) rfl ⟨⟨h1431.1, h1431.2, rfl⟩, trivial⟩ ?_
    have h1438 := (cases8 (Q := fun z_ => (([(9 + z_.toNat * 1, (iv ((rdD p0 (rdD p1 x1405 0) z_Tile).N)))] : List (Nat × Value)).all fun p_ => Nat.blt p_.1 (#[(.slice A1320 (([] : List Int) ++ p1).length c1321), (iv ((A8_Int.set a1403 x1405 ((rdD p0 (rdD p1 x1405 0) z_Tile).S)).e0)), (iv ((A8_Int.set a1403 x1405 ((rdD p0 (rdD p1 x1405 0) z_Tile).S)).e1)), (iv ((A8_Int.set a1403 x1405 ((rdD p0 (rdD p1 x1405 0) z_Tile).S)).e2)), (iv ((A8_Int.set a1403 x1405 ((rdD p0 (rdD p1 x1405 0) z_Tile).S)).e3)), (iv ((A8_Int.set a1403 x1405 ((rdD p0 (rdD p1 x1405 0) z_Tile).S)).e4)), (iv ((A8_Int.set a1403 x1405 ((rdD p0 (rdD p1 x1405 0) z_Tile).S)).e5)), (iv ((A8_Int.set a1403 x1405 ((rdD p0 (rdD p1 x1405 0) z_Tile).S)).e6)), (iv ((A8_Int.set a1403 x1405 ((rdD p0 (rdD p1 x1405 0) z_Tile).S)).e7)), (iv a1404.e0), (iv a1404.e1), (iv a1404.e2), (iv a1404.e3), (iv a1404.e4), (iv a1404.e5), (iv a1404.e6), (iv a1404.e7), (iv 0), (iv 0)] : Array Value).size) = true) h1431 (by kernel_rfl) (by kernel_rfl) (by kernel_rfl) (by kernel_rfl) (by kernel_rfl) (by kernel_rfl) (by kernel_rfl) (by kernel_rfl))
    have h1439 := (cases8 (Q := fun z_ => wrc (#[(.slice A1320 (([] : List Int) ++ p1).length c1321), (iv ((A8_Int.set a1403 x1405 ((rdD p0 (rdD p1 x1405 0) z_Tile).S)).e0)), (iv ((A8_Int.set a1403 x1405 ((rdD p0 (rdD p1 x1405 0) z_Tile).S)).e1)), (iv ((A8_Int.set a1403 x1405 ((rdD p0 (rdD p1 x1405 0) z_Tile).S)).e2)), (iv ((A8_Int.set a1403 x1405 ((rdD p0 (rdD p1 x1405 0) z_Tile).S)).e3)), (iv ((A8_Int.set a1403 x1405 ((rdD p0 (rdD p1 x1405 0) z_Tile).S)).e4)), (iv ((A8_Int.set a1403 x1405 ((rdD p0 (rdD p1 x1405 0) z_Tile).S)).e5)), (iv ((A8_Int.set a1403 x1405 ((rdD p0 (rdD p1 x1405 0) z_Tile).S)).e6)), (iv ((A8_Int.set a1403 x1405 ((rdD p0 (rdD p1 x1405 0) z_Tile).S)).e7)), (iv a1404.e0), (iv a1404.e1), (iv a1404.e2), (iv a1404.e3), (iv a1404.e4), (iv a1404.e5), (iv a1404.e6), (iv a1404.e7), (iv 0), (iv 0)] : Array Value) [(9 + z_.toNat * 1, (iv ((rdD p0 (rdD p1 x1405 0) z_Tile).N)))] = (#[(.slice A1320 (([] : List Int) ++ p1).length c1321), (iv ((A8_Int.set a1403 x1405 ((rdD p0 (rdD p1 x1405 0) z_Tile).S)).e0)), (iv ((A8_Int.set a1403 x1405 ((rdD p0 (rdD p1 x1405 0) z_Tile).S)).e1)), (iv ((A8_Int.set a1403 x1405 ((rdD p0 (rdD p1 x1405 0) z_Tile).S)).e2)), (iv ((A8_Int.set a1403 x1405 ((rdD p0 (rdD p1 x1405 0) z_Tile).S)).e3)), (iv ((A8_Int.set a1403 x1405 ((rdD p0 (rdD p1 x1405 0) z_Tile).S)).e4)), (iv ((A8_Int.set a1403 x1405 ((rdD p0 (rdD p1 x1405 0) z_Tile).S)).e5)), (iv ((A8_Int.set a1403 x1405 ((rdD p0 (rdD p1 x1405 0) z_Tile).S)).e6)), (iv ((A8_Int.set a1403 x1405 ((rdD p0 (rdD p1 x1405 0) z_Tile).S)).e7)), (iv ((A8_Int.set a1404 z_ ((rdD p0 (rdD p1 x1405 0) z_Tile).N)).e0)), (iv ((A8_Int.set a1404 z_ ((rdD p0 (rdD p1 x1405 0) z_Tile).N)).e1)), (iv ((A8_Int.set a1404 z_ ((rdD p0 (rdD p1 x1405 0) z_Tile).N)).e2)), (iv ((A8_Int.set a1404 z_ ((rdD p0 (rdD p1 x1405 0) z_Tile).N)).e3)), (iv ((A8_Int.set a1404 z_ ((rdD p0 (rdD p1 x1405 0) z_Tile).N)).e4)), (iv ((A8_Int.set a1404 z_ ((rdD p0 (rdD p1 x1405 0) z_Tile).N)).e5)), (iv ((A8_Int.set a1404 z_ ((rdD p0 (rdD p1 x1405 0) z_Tile).N)).e6)), (iv ((A8_Int.set a1404 z_ ((rdD p0 (rdD p1 x1405 0) z_Tile).N)).e7)), (iv 0), (iv 0)] : Array Value)) h1431 (by kernel_rfl) (by kernel_rfl) (by kernel_rfl) (by kernel_rfl) (by kernel_rfl) (by kernel_rfl) (by kernel_rfl) (by kernel_rfl))
    refine WL.store hS1433 0 rfl [(9 + x1405.toNat * 1, (iv ((rdD p0 (rdD p1 x1405 0) z_Tile).N)))] #[(.slice A1320 (([] : List Int) ++ p1).length c1321), (iv ((A8_Int.set a1403 x1405 ((rdD p0 (rdD p1 x1405 0) z_Tile).S)).e0)), (iv ((A8_Int.set a1403 x1405 ((rdD p0 (rdD p1 x1405 0) z_Tile).S)).e1)), (iv ((A8_Int.set a1403 x1405 ((rdD p0 (rdD p1 x1405 0) z_Tile).S)).e2)), (iv ((A8_Int.set a1403 x1405 ((rdD p0 (rdD p1 x1405 0) z_Tile).S)).e3)), (iv ((A8_Int.set a1403 x1405 ((rdD p0 (rdD p1 x1405 0) z_Tile).S)).e4)), (iv ((A8_Int.set a1403 x1405 ((rdD p0 (rdD p1 x1405 0) z_Tile).S)).e5)), (iv ((A8_Int.set a1403 x1405 ((rdD p0 (rdD p1 x1405 0) z_Tile).S)).e6)), (iv ((A8_Int.set a1403 x1405 ((rdD p0 (rdD p1 x1405 0) z_Tile).S)).e7)), (iv ((A8_Int.set a1404 x1405 ((rdD p0 (rdD p1 x1405 0) z_Tile).N)).e0)), (iv ((A8_Int.set a1404 x1405 ((rdD p0 (rdD p1 x1405 0) z_Tile).N)).e1)), (iv ((A8_Int.set a1404 x1405 ((rdD p0 (rdD p1 x1405 0) z_Tile).N)).e2)), (iv ((A8_Int.set a1404 x1405 ((rdD p0 (rdD p1 x1405 0) z_Tile).N)).e3)), (iv ((A8_Int.set a1404 x1405 ((rdD p0 (rdD p1 x1405 0) z_Tile).N)).e4)), (iv ((A8_Int.set a1404 x1405 ((rdD p0 (rdD p1 x1405 0) z_Tile).N)).e5)), (iv ((A8_Int.set a1404 x1405 ((rdD p0 (rdD p1 x1405 0) z_Tile).N)).e6)), (iv ((A8_Int.set a1404 x1405 ((rdD p0 (rdD p1 x1405 0) z_Tile).N)).e7)), (iv 0), (iv 0)] (fun fb => by kernel_rfl) h1438 h1439 [1, 2] (by decide) (by decide) (fun w1436 hS1437 => ?_)
    refine ⟨trivial, ?_⟩
    refine WL.done rfl ?_
    refine WX.blockN (WX.next ?_)
    refine WC.region ?_
    refine seg 2 [] [0, 1, 4, 5, 11, 12, 13] [(0, (.slice A_p0 p0.length c_p0)), (1, (.slice A_p1 p1.length c_p1)), (4, (pt g1314)), (5, (pt g1324)), (11, (.slice A_p1 p1.length c_p1)), (12, (iv (p1.length : Int))), (13, (iv (w64 (x1405 + 1))))] [] (fun fb => by kernel_rfl) rfl trivial ?_
    refine WL.done rfl ?_
    exact WX.again k1410 (Nat.lt_succ_self _) ((A8_Int.set a1403 x1405 ((rdD p0 (rdD p1 x1405 0) z_Tile).S)), (A8_Int.set a1404 x1405 ((rdD p0 (rdD p1 x1405 0) z_Tile).N)), w64 (x1405 + 1)) [0, 1, 4, 5, 11, 12, 13] rfl ⟨(hS1437.subR [0, 1]).sub [1, 0, 2] (by decide), hl1413⟩
   refine WC.condF2 (fun fb => by kernel_rfl) h1414 ?_
   refine WC.exit ?_
   injection hl1413 with hl1413
   exact WX.thenX (WX.thenX (WX.blockHere (WX.to Kx1408 (a1403, a1404) [0, 1, 4, 5] rfl ⟨(hS1412.subR [0, 1]).sub [0, 1, 2] (by decide), hl1413.symm⟩)))
 rintro y1443 w1440 ⟨hS1441, hq1442⟩
 subst hq1442
 refine WX.next ?_
 refine WC.seq ?_
 obtain ⟨h1458, hf⟩ := as_some hf
 obtain ⟨h1459, hf⟩ := as_some hf
 obtain ⟨h1460, hf⟩ := as_some hf
 obtain ⟨h1461, hf⟩ := as_some hf
 refine WC.regionD ([(3, ((adr A_p1).add (((0 : Int)).toNat * 1)), (iv (rdD p1 (0 : Int) 0))), (6, (((adr A_p0).add (((rdD p1 (0 : Int) 0)).toNat * 4)).add 3), (iv ((rdD p0 (rdD p1 (0 : Int) 0) z_Tile).W))), (13, ((adr A_p1).add ((w64 ((p1.length : Int) - 1)).toNat * 1)), (iv (rdD p1 (w64 ((p1.length : Int) - 1)) 0))), (16, (((adr A_p0).add (((rdD p1 (w64 ((p1.length : Int) - 1)) 0)).toNat * 4)).add 1), (iv ((rdD p0 (rdD p1 (w64 ((p1.length : Int) - 1)) 0) z_Tile).E)))], [0, 1, 2, 3, 4, 5, 6, 7, 8, 9, 10, 11, 12, 13, 14, 15, 16, 17, 19], [[], [], [1], [1, 2], [0, 1, 2, 3], [0, 1, 2, 3, 4], [0, 1, 2, 3, 4, 5], [], [], [], [9], [9, 10], [8, 9, 10, 11], [8, 9, 10, 11, 12], [7, 8, 9, 10, 11, 12, 13], [7, 8, 9, 10, 11, 12, 13, 14], [7, 8, 9, 10, 11, 12, 13, 14, 15], [0, 1, 2, 3, 4, 5, 6], [0, 1, 2, 3, 4, 5, 6, 17], [0, 1, 2, 3, 4, 5, 6, 7, 8, 9, 10, 11, 12, 13, 14, 15, 16, 17, 18], [0, 1, 2, 3, 4, 5, 6, 7, 8, 9, 10, 11, 12, 13, 14, 15, 16, 17, 18, 19]]) [[0, 1, 2, 3, 4, 5, 6, 7, 8, 9, 10, 11, 12, 13, 14, 15, 16, 17, 18, 19, 20]] (by kernel_rfl) (by kernel_rfl) (NoPanic.seq (NoPanic.body)) ?_
 have hS1453 := hS1441.drew
 revert hS1453
 generalize World.drew w1440 = w1452
 intro hS1453
 refine ⟨⟨rowR.cell (hS1453.rd 1).1 0 h1458.1 h1458.2 0 rfl, rowR.cell (hS1453.rd 0).1 z_Tile h1459.1 h1459.2 3 rfl, rowR.cell (hS1453.rd 1).1 0 h1460.1 h1460.2 0 rfl, rowR.cell (hS1453.rd 0).1 z_Tile h1461.1 h1461.2 1 rfl, trivial⟩, forallC ?_ (forallN)⟩
 refine segF 18 [.v (iv (rdD p1 (0 : Int) 0)), .v (iv ((rdD p0 (rdD p1 (0 : Int) 0) z_Tile).W)), .v (iv (rdD p1 (w64 ((p1.length : Int) - 1)) 0)), .v (iv ((rdD p0 (rdD p1 (w64 ((p1.length : Int) - 1)) 0) z_Tile).E))] [4, 5, 41, 51, 52] [(4, (pt g1314)), (5, (pt g1324)), (41, (iv ((rdD p0 (rdD p1 (0 : Int) 0) z_Tile).W))), (51, (iv ((rdD p0 (rdD p1 (w64 ((p1.length : Int) - 1)) 0) z_Tile).E))), (52, (.pointer (some ⟨g1324, 17, none⟩)))] [.idx A_p1 (0 : Int) p1.length, .idx A_p0 (rdD p1 (0 : Int) 0) p0.length, .idx A_p1 (w64 ((p1.length : Int) - 1)) p1.length, .idx A_p0 (rdD p1 (w64 ((p1.length : Int) - 1)) 0) p0.length] [0, 1, 2, 3] [(3, ((adr A_p1).add (((0 : Int)).toNat * 1)), (iv (rdD p1 (0 : Int) 0))), (6, (((adr A_p0).add (((rdD p1 (0 : Int) 0)).toNat * 4)).add 3), (iv ((rdD p0 (rdD p1 (0 : Int) 0) z_Tile).W))), (13, ((adr A_p1).add ((w64 ((p1.length : Int) - 1)).toNat * 1)), (iv (rdD p1 (w64 ((p1.length : Int) - 1)) 0))), (16, (((adr A_p0).add (((rdD p1 (w64 ((p1.length : Int) - 1)) 0)).toNat * 4)).add 1), (iv ((rdD p0 (rdD p1 (w64 ((p1.length : Int) - 1)) 0) z_Tile).E)))] (fun fb => by kernel_rfl) rfl ⟨rowR.adr (hS1453.rd 1).1 h1458.1 h1458.2, rowR.adr (hS1453.rd 0).1 h1459.1 h1459.2, rowR.adr (hS1453.rd 1).1 h1460.1 h1460.2, rowR.adr (hS1453.rd 0).1 h1461.1 h1461.2, trivial⟩ rfl ?_
 refine WL.store hS1453 1 rfl [(17, (iv ((rdD p0 (rdD p1 (0 : Int) 0) z_Tile).W)))] #[(.slice A1320 (([] : List Int) ++ p1).length c1321), (iv x1408.1.e0), (iv x1408.1.e1), (iv x1408.1.e2), (iv x1408.1.e3), (iv x1408.1.e4), (iv x1408.1.e5), (iv x1408.1.e6), (iv x1408.1.e7), (iv x1408.2.e0), (iv x1408.2.e1), (iv x1408.2.e2), (iv x1408.2.e3), (iv x1408.2.e4), (iv x1408.2.e5), (iv x1408.2.e6), (iv x1408.2.e7), (iv ((rdD p0 (rdD p1 (0 : Int) 0) z_Tile).W)), (iv 0)] (fun fb => by kernel_rfl) (by kernel_rfl) (by kernel_rfl) [0, 2] (by decide) (by decide) (fun w1462 hS1463 => ?_)
 refine ⟨⟨rowR.cell (hS1463.rd 1).1 0 h1460.1 h1460.2 0 rfl, rowR.cell (hS1463.rd 0).1 z_Tile h1461.1 h1461.2 1 rfl, trivial⟩, ?_⟩
 refine seg 20 [] [4, 5, 51, 53] [(4, (pt g1314)), (5, (pt g1324)), (51, (iv ((rdD p0 (rdD p1 (w64 ((p1.length : Int) - 1)) 0) z_Tile).E))), (53, (.pointer (some ⟨g1324, 18, none⟩)))] [] (fun fb => by kernel_rfl) rfl trivial ?_
 refine WL.store hS1463 0 rfl [(18, (iv ((rdD p0 (rdD p1 (w64 ((p1.length : Int) - 1)) 0) z_Tile).E)))] #[(.slice A1320 (([] : List Int) ++ p1).length c1321), (iv x1408.1.e0), (iv x1408.1.e1), (iv x1408.1.e2), (iv x1408.1.e3), (iv x1408.1.e4), (iv x1408.1.e5), (iv x1408.1.e6), (iv x1408.1.e7), (iv x1408.2.e0), (iv x1408.2.e1), (iv x1408.2.e2), (iv x1408.2.e3), (iv x1408.2.e4), (iv x1408.2.e5), (iv x1408.2.e6), (iv x1408.2.e7), (iv ((rdD p0 (rdD p1 (0 : Int) 0) z_Tile).W)), (iv ((rdD p0 (rdD p1 (w64 ((p1.length : Int) - 1)) 0) z_Tile).E))] (fun fb => by kernel_rfl) (by kernel_rfl) (by kernel_rfl) [1, 2] (by decide) (by decide) (fun w1464 hS1465 => ?_)
 refine ⟨trivial, ?_⟩
 refine WL.done rfl ?_
 refine WX.next ?_
 refine WC.seq ?_
 refine WC.region ?_
 refine seg 1 [.v (.slice A1320 (([] : List Int) ++ p1).length c1321), .v (iv x1408.1.e0), .v (iv x1408.1.e1), .v (iv x1408.1.e2), .v (iv x1408.1.e3), .v (iv x1408.1.e4), .v (iv x1408.1.e5), .v (iv x1408.1.e6), .v (iv x1408.1.e7), .v (iv x1408.2.e0), .v (iv x1408.2.e1), .v (iv x1408.2.e2), .v (iv x1408.2.e3), .v (iv x1408.2.e4), .v (iv x1408.2.e5), .v (iv x1408.2.e6), .v (iv x1408.2.e7), .v (iv ((rdD p0 (rdD p1 (0 : Int) 0) z_Tile).W)), .v (iv ((rdD p0 (rdD p1 (w64 ((p1.length : Int) - 1)) 0) z_Tile).E))] [4, 54] [(4, (pt g1314)), (54, (.agg #[(.slice A1320 (([] : List Int) ++ p1).length c1321), (iv x1408.1.e0), (iv x1408.1.e1), (iv x1408.1.e2), (iv x1408.1.e3), (iv x1408.1.e4), (iv x1408.1.e5), (iv x1408.1.e6), (iv x1408.1.e7), (iv x1408.2.e0), (iv x1408.2.e1), (iv x1408.2.e2), (iv x1408.2.e3), (iv x1408.2.e4), (iv x1408.2.e5), (iv x1408.2.e6), (iv x1408.2.e7), (iv ((rdD p0 (rdD p1 (0 : Int) 0) z_Tile).W)), (iv ((rdD p0 (rdD p1 (w64 ((p1.length : Int) - 1)) 0) z_Tile).E))]))] [.cell ⟨g1324, 0, none⟩ (.slice A1320 (([] : List Int) ++ p1).length c1321), .cell ⟨g1324, 1, none⟩ (iv x1408.1.e0), .cell ⟨g1324, 2, none⟩ (iv x1408.1.e1), .cell ⟨g1324, 3, none⟩ (iv x1408.1.e2), .cell ⟨g1324, 4, none⟩ (iv x1408.1.e3), .cell ⟨g1324, 5, none⟩ (iv x1408.1.e4), .cell ⟨g1324, 6, none⟩ (iv x1408.1.e5), .cell ⟨g1324, 7, none⟩ (iv x1408.1.e6), .cell ⟨g1324, 8, none⟩ (iv x1408.1.e7), .cell ⟨g1324, 9, none⟩ (iv x1408.2.e0), .cell ⟨g1324, 10, none⟩ (iv x1408.2.e1), .cell ⟨g1324, 11, none⟩ (iv x1408.2.e2), .cell ⟨g1324, 12, none⟩ (iv x1408.2.e3), .cell ⟨g1324, 13, none⟩ (iv x1408.2.e4), .cell ⟨g1324, 14, none⟩ (iv x1408.2.e5), .cell ⟨g1324, 15, none⟩ (iv x1408.2.e6), .cell ⟨g1324, 16, none⟩ (iv x1408.2.e7), .cell ⟨g1324, 17, none⟩ (iv ((rdD p0 (rdD p1 (0 : Int) 0) z_Tile).W)), .cell ⟨g1324, 18, none⟩ (iv ((rdD p0 (rdD p1 (w64 ((p1.length : Int) - 1)) 0) z_Tile).E))] (fun fb => by kernel_rfl) rfl ⟨hS1465.cell 0 rfl 0 rfl, hS1465.cell 0 rfl 1 rfl, hS1465.cell 0 rfl 2 rfl, hS1465.cell 0 rfl 3 rfl, hS1465.cell 0 rfl 4 rfl, hS1465.cell 0 rfl 5 rfl, hS1465.cell 0 rfl 6 rfl, hS1465.cell 0 rfl 7 rfl, hS1465.cell 0 rfl 8 rfl, hS1465.cell 0 rfl 9 rfl, hS1465.cell 0 rfl 10 rfl, hS1465.cell 0 rfl 11 rfl, hS1465.cell 0 rfl 12 rfl, hS1465.cell 0 rfl 13 rfl, hS1465.cell 0 rfl 14 rfl, hS1465.cell 0 rfl 15 rfl, hS1465.cell 0 rfl 16 rfl, hS1465.cell 0 rfl 17 rfl, hS1465.cell 0 rfl 18 rfl, trivial⟩ ?_
 refine WL.store hS1465 1 rfl [(0, (.slice A1320 (([] : List Int) ++ p1).length c1321)), (1, (iv x1408.1.e0)), (2, (iv x1408.1.e1)), (3, (iv x1408.1.e2)), (4, (iv x1408.1.e3)), (5, (iv x1408.1.e4)), (6, (iv x1408.1.e5)), (7, (iv x1408.1.e6)), (8, (iv x1408.1.e7)), (9, (iv x1408.2.e0)), (10, (iv x1408.2.e1)), (11, (iv x1408.2.e2)), (12, (iv x1408.2.e3)), (13, (iv x1408.2.e4)), (14, (iv x1408.2.e5)), (15, (iv x1408.2.e6)), (16, (iv x1408.2.e7)), (17, (iv ((rdD p0 (rdD p1 (0 : Int) 0) z_Tile).W))), (18, (iv ((rdD p0 (rdD p1 (w64 ((p1.length : Int) - 1)) 0) z_Tile).E)))] #[(.slice A1320 (([] : List Int) ++ p1).length c1321), (iv x1408.1.e0), (iv x1408.1.e1), (iv x1408.1.e2), (iv x1408.1.e3), (iv x1408.1.e4), (iv x1408.1.e5), (iv x1408.1.e6), (iv x1408.1.e7), (iv x1408.2.e0), (iv x1408.2.e1), (iv x1408.2.e2), (iv x1408.2.e3), (iv x1408.2.e4), (iv x1408.2.e5), (iv x1408.2.e6), (iv x1408.2.e7), (iv ((rdD p0 (rdD p1 (0 : Int) 0) z_Tile).W)), (iv ((rdD p0 (rdD p1 (w64 ((p1.length : Int) - 1)) 0) z_Tile).E))] (fun fb => by kernel_rfl) (by kernel_rfl) (by kernel_rfl) [0, 2] (by decide) (by decide) (fun w1466 hS1467 => ?_)
 refine ⟨trivial, ?_⟩
 refine WL.done rfl ?_
 refine WX.next ?_
 refine WC.ret ?_
 injection hf with hf
 subst hf
 exact WX.ret_ [.v (.slice A1320 (([] : List Int) ++ p1).length c1321), .v (iv x1408.1.e0), .v (iv x1408.1.e1), .v (iv x1408.1.e2), .v (iv x1408.1.e3), .v (iv x1408.1.e4), .v (iv x1408.1.e5), .v (iv x1408.1.e6), .v (iv x1408.1.e7), .v (iv x1408.2.e0), .v (iv x1408.2.e1), .v (iv x1408.2.e2), .v (iv x1408.2.e3), .v (iv x1408.2.e4), .v (iv x1408.2.e5), .v (iv x1408.2.e6), .v (iv x1408.2.e7), .v (iv ((rdD p0 (rdD p1 (0 : Int) 0) z_Tile).W)), .v (iv ((rdD p0 (rdD p1 (w64 ((p1.length : Int) - 1)) 0) z_Tile).E))] (.agg #[(.slice A1320 (([] : List Int) ++ p1).length c1321), (iv x1408.1.e0), (iv x1408.1.e1), (iv x1408.1.e2), (iv x1408.1.e3), (iv x1408.1.e4), (iv x1408.1.e5), (iv x1408.1.e6), (iv x1408.1.e7), (iv x1408.2.e0), (iv x1408.2.e1), (iv x1408.2.e2), (iv x1408.2.e3), (iv x1408.2.e4), (iv x1408.2.e5), (iv x1408.2.e6), (iv x1408.2.e7), (iv ((rdD p0 (rdD p1 (0 : Int) 0) z_Tile).W)), (iv ((rdD p0 (rdD p1 (w64 ((p1.length : Int) - 1)) 0) z_Tile).E))]) [.cell ⟨g1314, 0, none⟩ (.slice A1320 (([] : List Int) ++ p1).length c1321), .cell ⟨g1314, 1, none⟩ (iv x1408.1.e0), .cell ⟨g1314, 2, none⟩ (iv x1408.1.e1), .cell ⟨g1314, 3, none⟩ (iv x1408.1.e2), .cell ⟨g1314, 4, none⟩ (iv x1408.1.e3), .cell ⟨g1314, 5, none⟩ (iv x1408.1.e4), .cell ⟨g1314, 6, none⟩ (iv x1408.1.e5), .cell ⟨g1314, 7, none⟩ (iv x1408.1.e6), .cell ⟨g1314, 8, none⟩ (iv x1408.1.e7), .cell ⟨g1314, 9, none⟩ (iv x1408.2.e0), .cell ⟨g1314, 10, none⟩ (iv x1408.2.e1), .cell ⟨g1314, 11, none⟩ (iv x1408.2.e2), .cell ⟨g1314, 12, none⟩ (iv x1408.2.e3), .cell ⟨g1314, 13, none⟩ (iv x1408.2.e4), .cell ⟨g1314, 14, none⟩ (iv x1408.2.e5), .cell ⟨g1314, 15, none⟩ (iv x1408.2.e6), .cell ⟨g1314, 16, none⟩ (iv x1408.2.e7), .cell ⟨g1314, 17, none⟩ (iv ((rdD p0 (rdD p1 (0 : Int) 0) z_Tile).W)), .cell ⟨g1314, 18, none⟩ (iv ((rdD p0 (rdD p1 (w64 ((p1.length : Int) - 1)) 0) z_Tile).E))] (fun fb => by kernel_rfl) ⟨hS1467.cell 0 rfl 0 rfl, hS1467.cell 0 rfl 1 rfl, hS1467.cell 0 rfl 2 rfl, hS1467.cell 0 rfl 3 rfl, hS1467.cell 0 rfl 4 rfl, hS1467.cell 0 rfl 5 rfl, hS1467.cell 0 rfl 6 rfl, hS1467.cell 0 rfl 7 rfl, hS1467.cell 0 rfl 8 rfl, hS1467.cell 0 rfl 9 rfl, hS1467.cell 0 rfl 10 rfl, hS1467.cell 0 rfl 11 rfl, hS1467.cell 0 rfl 12 rfl, hS1467.cell 0 rfl 13 rfl, hS1467.cell 0 rfl 14 rfl, hS1467.cell 0 rfl 15 rfl, hS1467.cell 0 rfl 16 rfl, hS1467.cell 0 rfl 17 rfl, hS1467.cell 0 rfl 18 rfl, trivial⟩ ⟨_, rfl, A1320, c1321, rfl, (hS1467.sub [2] (by decide)).noR⟩
theorem rows_All_1_calls : ∀ (k : Nat) (p0 : Int) (f0 : Int) (f1 : List Row) (f2 : List Tile) (f3 : List Int) (g_f0 : Nat) (g_f1 : Nat) (A_f1 : Option Addr) (c_f1 : Nat) (H_f1 : Nat → HF) (g_f2 : Nat) (A_f2 : Option Addr) (c_f2 : Nat) (g_f3 : Nat) (A_f3 : Option Addr) (c_f3 : Nat) (g_f4 : Nat) (r : (List Row) × (List Int)) (w : World) (hR0 : RO (fpL [blk g_f1 (.cells #[(.slice A_f1 f1.length c_f1)] 79 (0, 0)), rowO 85 encN_Row A_f1 c_f1 (tag H_f1 f1), poolO [nestO subN_Row H_f1 f1], blk g_f3 (.cells #[(.slice A_f3 f3.length c_f3)] 25 (0, 0)), rowO 3 encInt A_f3 c_f3 f3]) w (blk g_f0 (.cells #[(iv f0)] 3 (0, 0)))) (hR1 : RO (fpL [blk g_f1 (.cells #[(.slice A_f1 f1.length c_f1)] 79 (0, 0)), rowO 85 encN_Row A_f1 c_f1 (tag H_f1 f1), poolO [nestO subN_Row H_f1 f1], blk g_f3 (.cells #[(.slice A_f3 f3.length c_f3)] 25 (0, 0)), rowO 3 encInt A_f3 c_f3 f3]) w (blk g_f2 (.cells #[(.slice A_f2 f2.length c_f2)] 22 (0, 0)))) (hR2 : RO (fpL [blk g_f1 (.cells #[(.slice A_f1 f1.length c_f1)] 79 (0, 0)), rowO 85 encN_Row A_f1 c_f1 (tag H_f1 f1), poolO [nestO subN_Row H_f1 f1], blk g_f3 (.cells #[(.slice A_f3 f3.length c_f3)] 25 (0, 0)), rowO 3 encInt A_f3 c_f3 f3]) w (rowR enc_Tile A_f2 c_f2 f2)) (hR3 : RO (fpL [blk g_f1 (.cells #[(.slice A_f1 f1.length c_f1)] 79 (0, 0)), rowO 85 encN_Row A_f1 c_f1 (tag H_f1 f1), poolO [nestO subN_Row H_f1 f1], blk g_f3 (.cells #[(.slice A_f3 f3.length c_f3)] 25 (0, 0)), rowO 3 encInt A_f3 c_f3 f3]) w (blk g_f4 (.cells #[(.func (.func 97) #[] #[(.pointer (some ⟨g_f0, 0, none⟩)), (.pointer (some ⟨g_f1, 0, none⟩)), (.pointer (some ⟨g_f2, 0, none⟩)), (.pointer (some ⟨g_f3, 0, none⟩)), (.pointer (some ⟨g_f4, 0, none⟩))])] 129 (0, 0)))) (hI : IoOK w [blk g_f1 (.cells #[(.slice A_f1 f1.length c_f1)] 79 (0, 0)), rowO 85 encN_Row A_f1 c_f1 (tag H_f1 f1), poolO [nestO subN_Row H_f1 f1], blk g_f3 (.cells #[(.slice A_f3 f3.length c_f3)] 25 (0, 0)), rowO 3 encInt A_f3 c_f3 f3]) (hf : rows_All_1 k p0 f0 f1 f2 f3 = some r),
  CallsR Tryd.prog 97 #[(iv p0), (.pointer (some ⟨g_f0, 0, none⟩)), (.pointer (some ⟨g_f1, 0, none⟩)), (.pointer (some ⟨g_f2, 0, none⟩)), (.pointer (some ⟨g_f3, 0, none⟩)), (.pointer (some ⟨g_f4, 0, none⟩))] w (fun v w' => ∃ (A1_ : Option Addr), ∃ (c1_ : Nat), ∃ (h1_ : Nat → HF), ∃ (A2_ : Option Addr), ∃ (c2_ : Nat), v = (.tuple #[]) ∧ St (fpL [blk g_f1 (.cells #[(.slice A_f1 f1.length c_f1)] 79 (0, 0)), rowO 85 encN_Row A_f1 c_f1 (tag H_f1 f1), poolO [nestO subN_Row H_f1 f1], blk g_f3 (.cells #[(.slice A_f3 f3.length c_f3)] 25 (0, 0)), rowO 3 encInt A_f3 c_f3 f3]) w w' [] [blk g_f1 (.cells #[(.slice A1_ r.1.length c1_)] 79 (0, 0)), rowO 85 encN_Row A1_ c1_ (tag h1_ r.1), poolO [nestO subN_Row h1_ r.1], blk g_f3 (.cells #[(.slice A2_ r.2.length c2_)] 25 (0, 0)), rowO 3 encInt A2_ c2_ r.2]) := by
 intro k
 induction k with
 | zero => intro p0 f0 f1 f2 f3 g_f0 g_f1 A_f1 c_f1 H_f1 g_f2 A_f2 c_f2 g_f3 A_f3 c_f3 g_f4 r w hR0 hR1 hR2 hR3 hI hf; rw [rows_All_1] at hf; cases hf
 | succ k ih_ =>
 intro p0 f0 f1 f2 f3 g_f0 g_f1 A_f1 c_f1 H_f1 g_f2 A_f2 c_f2 g_f3 A_f3 c_f3 g_f4 r w hR0 hR1 hR2 hR3 hI hf
 have hS : St (fpL [blk g_f1 (.cells #[(.slice A_f1 f1.length c_f1)] 79 (0, 0)), rowO 85 encN_Row A_f1 c_f1 (tag H_f1 f1), poolO [nestO subN_Row H_f1 f1], blk g_f3 (.cells #[(.slice A_f3 f3.length c_f3)] 25 (0, 0)), rowO 3 encInt A_f3 c_f3 f3]) w w [blk g_f0 (.cells #[(iv f0)] 3 (0, 0)), blk g_f2 (.cells #[(.slice A_f2 f2.length c_f2)] 22 (0, 0)), rowR enc_Tile A_f2 c_f2 f2, blk g_f4 (.cells #[(.func (.func 97) #[] #[(.pointer (some ⟨g_f0, 0, none⟩)), (.pointer (some ⟨g_f1, 0, none⟩)), (.pointer (some ⟨g_f2, 0, none⟩)), (.pointer (some ⟨g_f3, 0, none⟩)), (.pointer (some ⟨g_f4, 0, none⟩))])] 129 (0, 0))] [blk g_f1 (.cells #[(.slice A_f1 f1.length c_f1)] 79 (0, 0)), rowO 85 encN_Row A_f1 c_f1 (tag H_f1 f1), poolO [nestO subN_Row H_f1 f1], blk g_f3 (.cells #[(.slice A_f3 f3.length c_f3)] 25 (0, 0)), rowO 3 encInt A_f3 c_f3 f3] := St.initIO (ro_cons hR0 (ro_cons hR1 (ro_cons hR2 (ro_cons hR3 (ro_nil _ _))))) hI
 rw [rows_All_1] at hf
 generalize rows_All_1 k = rc_ at hf ih_
 refine enter 50 Tryd.func97 rfl Tryd.ntmps97 rfl ?_
 refine WC.seq ?_
 refine WC.seq ?_
 refine WC.region ?_
 refine seg 3 [.v (iv f0)] [0, 2, 3, 4, 5, 11] [(0, (iv p0)), (2, (.pointer (some ⟨g_f1, 0, none⟩))), (3, (.pointer (some ⟨g_f2, 0, none⟩))), (4, (.pointer (some ⟨g_f3, 0, none⟩))), (5, (.pointer (some ⟨g_f4, 0, none⟩))), (11, (.bool (p0 == f0)))] [.cell ⟨g_f0, 0, none⟩ (iv f0)] (fun fb => by kernel_rfl) rfl ⟨blk_cell (hS.rd 0).1 0 rfl, trivial⟩ ?_
 refine WL.done rfl ?_
 refine WX.next ?_
 rcases br_some hf with ⟨h1647, hf⟩ | ⟨h1647, hf⟩
 ·refine WC.condT2 (fun fb => by kernel_rfl) h1647 ?_
  refine WC.seq ?_
  refine WC.regionD ([(0, ⟨g_f1, 0, none⟩, (.slice A_f1 f1.length c_f1)), (1, ⟨g_f2, 0, none⟩, (.slice A_f2 f2.length c_f2)), (2, ⟨g_f3, 0, none⟩, (.slice A_f3 f3.length c_f3))], [0, 1, 2], [[], [], [], [1, 2], [1, 2, 3], [0, 1, 2, 3, 4], [0, 1, 2, 3, 4, 5]]) [[0, 1, 2, 3, 4, 5, 6]] (by kernel_rfl) (by kernel_rfl) (NoPanic.seq (NoPanic.seq (NoPanic.body))) ?_
  have hS1669 := hS.drew
  revert hS1669
  generalize World.drew w = w1668
  intro hS1669
  refine ⟨⟨hS1669.cell 0 rfl 0 rfl, blk_cell (hS1669.rd 1).1 0 rfl, hS1669.cell 3 rfl 0 rfl, trivial⟩, forallC ?_ (forallN)⟩
  refine segF 3 [.v (.slice A_f1 f1.length c_f1), .v (.slice A_f2 f2.length c_f2), .v (.slice A_f3 f3.length c_f3)] [2, 4, 12, 13, 14] [(2, (.pointer (some ⟨g_f1, 0, none⟩))), (4, (.pointer (some ⟨g_f3, 0, none⟩))), (12, (.slice A_f1 f1.length c_f1)), (13, (.slice A_f2 f2.length c_f2)), (14, (.slice A_f3 f3.length c_f3))] [] [0, 1, 2] [(0, ⟨g_f1, 0, none⟩, (.slice A_f1 f1.length c_f1)), (1, ⟨g_f2, 0, none⟩, (.slice A_f2 f2.length c_f2)), (2, ⟨g_f3, 0, none⟩, (.slice A_f3 f3.length c_f3))] (fun fb => by kernel_rfl) rfl trivial rfl ?_
  obtain ⟨t1670, ht1671, hf⟩ := bind_some hf
  refine WL.call (some 15) 98 #[(.slice A_f2 f2.length c_f2), (.slice A_f3 f3.length c_f3)] (fun fb => by kernel_rfl) (rows_rowOf_calls _ f2 f3 A_f2 c_f2 A_f3 c_f3 t1670 _ (hS1669.rd 2) (hS1669.ow 4).ofO ht1671) (fun v w1672 hR1673 => ?_)
  obtain ⟨A1675, c1676, rfl, hk_⟩ := hR1673
  have hS1674 : St (fpL [blk g_f1 (.cells #[(.slice A_f1 f1.length c_f1)] 79 (0, 0)), rowO 85 encN_Row A_f1 c_f1 (tag H_f1 f1), poolO [nestO subN_Row H_f1 f1], blk g_f3 (.cells #[(.slice A_f3 f3.length c_f3)] 25 (0, 0)), rowO 3 encInt A_f3 c_f3 f3]) w w1672 [blk g_f0 (.cells #[(iv f0)] 3 (0, 0)), blk g_f2 (.cells #[(.slice A_f2 f2.length c_f2)] 22 (0, 0)), rowR enc_Tile A_f2 c_f2 f2, blk g_f4 (.cells #[(.func (.func 97) #[] #[(.pointer (some ⟨g_f0, 0, none⟩)), (.pointer (some ⟨g_f1, 0, none⟩)), (.pointer (some ⟨g_f2, 0, none⟩)), (.pointer (some ⟨g_f3, 0, none⟩)), (.pointer (some ⟨g_f4, 0, none⟩))])] 129 (0, 0))] [rowO 3 encInt A1675 c1676 t1670.Cells, blk g_f1 (.cells #[(.slice A_f1 f1.length c_f1)] 79 (0, 0)), rowO 85 encN_Row A_f1 c_f1 (tag H_f1 f1), poolO [nestO subN_Row H_f1 f1], blk g_f3 (.cells #[(.slice A_f3 f3.length c_f3)] 25 (0, 0)), rowO 3 encInt A_f3 c_f3 f3] := hS1669.call hk_ [] [0, 1, 2, 3, 4] (fun g hg => hg.elim) (by simp) (by decide)
  refine ⟨⟨hS1674.cell 1 rfl 0 rfl, trivial⟩, ?_⟩
  refine WL.new hS1674 16 [] (fun g => (.slice (some ⟨g, 0, none⟩) 1 1)) (.cells #[(.slice A1675 t1670.Cells.length c1676), (iv t1670.South.e0), (iv t1670.South.e1), (iv t1670.South.e2), (iv t1670.South.e3), (iv t1670.South.e4), (iv t1670.South.e5), (iv t1670.South.e6), (iv t1670.South.e7), (iv t1670.North.e0), (iv t1670.North.e1), (iv t1670.North.e2), (iv t1670.North.e3), (iv t1670.North.e4), (iv t1670.North.e5), (iv t1670.North.e6), (iv t1670.North.e7), (iv t1670.West), (iv t1670.East)] 85 (0, 0)) [] (fun fb g => by kernel_rfl) trivial (fun g1677 w1678 hS1679 => ?_)
  refine ⟨⟨hS1679.cell 2 rfl 0 rfl, trivial⟩, ?_⟩
  have hS1681 : St (fpL [blk g_f1 (.cells #[(.slice A_f1 f1.length c_f1)] 79 (0, 0)), rowO 85 encN_Row A_f1 c_f1 (tag H_f1 f1), poolO [nestO subN_Row H_f1 f1], blk g_f3 (.cells #[(.slice A_f3 f3.length c_f3)] 25 (0, 0)), rowO 3 encInt A_f3 c_f3 f3]) w w1678 [blk g_f0 (.cells #[(iv f0)] 3 (0, 0)), blk g_f2 (.cells #[(.slice A_f2 f2.length c_f2)] 22 (0, 0)), rowR enc_Tile A_f2 c_f2 f2, blk g_f4 (.cells #[(.func (.func 97) #[] #[(.pointer (some ⟨g_f0, 0, none⟩)), (.pointer (some ⟨g_f1, 0, none⟩)), (.pointer (some ⟨g_f2, 0, none⟩)), (.pointer (some ⟨g_f3, 0, none⟩)), (.pointer (some ⟨g_f4, 0, none⟩))])] 129 (0, 0))] [rowO 85 encN_Row (some ⟨g1677, 0, none⟩) 1 [((hd1 A1675 c1676), t1670)], rowO 3 encInt A1675 c1676 t1670.Cells, blk g_f1 (.cells #[(.slice A_f1 f1.length c_f1)] 79 (0, 0)), rowO 85 encN_Row A_f1 c_f1 (tag H_f1 f1), poolO [nestO subN_Row H_f1 f1], blk g_f3 (.cells #[(.slice A_f3 f3.length c_f3)] 25 (0, 0)), rowO 3 encInt A_f3 c_f3 f3] := hS1679.map1 0 _ (fun h => rowO.ofBlk h rfl (Nat.le_of_ble_eq_true (by kernel_rfl))) (fun _ h => by obtain ⟨_, h1, h2⟩ := h; injection h1 with h1; subst h1; exact h2) [1, 2, 3, 4, 5, 6] (by decide) (by decide)
  obtain ⟨h1682, hf⟩ := as_some hf
  refine WL.appendN hS1681 3 (d := 17) (tS := 79) (z := (.agg #[(.slice none 0 0), (iv 0), (iv 0), (iv 0), (iv 0), (iv 0), (iv 0), (iv 0), (iv 0), (iv 0), (iv 0), (iv 0), (iv 0), (iv 0), (iv 0), (iv 0), (iv 0), (iv 0), (iv 0)])) (bytes := 168) (c2 := 1) (hx := (hd1 A1675 c1676)) (x := t1670) rfl (fun fb => by kernel_rfl) (rowO.rd (hS1681.own 0).1) (by kernel_rfl) (by kernel_rfl) rfl (by decide) h1682 (by decide) [0, 1, 2, 4, 5, 6] (by decide) (by decide) (fun A1683 c1684 w1685 hS1686 => ?_)
  have hS1687 : St (fpL [blk g_f1 (.cells #[(.slice A_f1 f1.length c_f1)] 79 (0, 0)), rowO 85 encN_Row A_f1 c_f1 (tag H_f1 f1), poolO [nestO subN_Row H_f1 f1], blk g_f3 (.cells #[(.slice A_f3 f3.length c_f3)] 25 (0, 0)), rowO 3 encInt A_f3 c_f3 f3]) w w1685 [blk g_f0 (.cells #[(iv f0)] 3 (0, 0)), blk g_f2 (.cells #[(.slice A_f2 f2.length c_f2)] 22 (0, 0)), rowR enc_Tile A_f2 c_f2 f2, blk g_f4 (.cells #[(.func (.func 97) #[] #[(.pointer (some ⟨g_f0, 0, none⟩)), (.pointer (some ⟨g_f1, 0, none⟩)), (.pointer (some ⟨g_f2, 0, none⟩)), (.pointer (some ⟨g_f3, 0, none⟩)), (.pointer (some ⟨g_f4, 0, none⟩))])] 129 (0, 0))] [poolO [nestO subN_Row (updH H_f1 f1.length (hd1 A1675 c1676)) (f1 ++ [t1670])], rowO 85 encN_Row A1683 c1684 (tag (updH H_f1 f1.length (hd1 A1675 c1676)) (f1 ++ [t1670])), rowO 85 encN_Row (some ⟨g1677, 0, none⟩) 1 [((hd1 A1675 c1676), t1670)], blk g_f1 (.cells #[(.slice A_f1 f1.length c_f1)] 79 (0, 0)), blk g_f3 (.cells #[(.slice A_f3 f3.length c_f3)] 25 (0, 0)), rowO 3 encInt A_f3 c_f3 f3] := hS1686.poolPush 4 rfl 0 (by simp) rfl (hd1 A1675 c1676) t1670 (hS1686.ow 2).ofO [2] (fun g hg => ⟨2, by simp, rowO.fpR (hS1686.own 2).1 g hg⟩) _ rfl [0, 1, 3, 5, 6] (by decide) (by decide)
  refine ⟨trivial, ?_⟩
  refine WL.store hS1687 3 rfl [(0, (.slice A1683 (f1 ++ [t1670]).length c1684))] #[(.slice A1683 (f1 ++ [t1670]).length c1684)] (fun fb => by kernel_rfl) (by kernel_rfl) rfl [0, 1, 2, 4, 5] (by decide) (by decide) (fun w1688 hS1689 => ?_)
  refine ⟨trivial, ?_⟩
  refine WL.done rfl ?_
  refine WX.next ?_
  refine WC.ret ?_
  injection hf with hf
  subst hf
  exact WX.thenR (WX.ret_ [] (.tuple #[]) [] (fun fb => by kernel_rfl) trivial ⟨_, rfl, A1683, c1684, (updH H_f1 f1.length (hd1 A1675 c1676)), A_f3, c_f3, rfl, (hS1689.sub [0, 2, 1, 4, 5] (by decide)).noR⟩)
 refine WC.condF2 (fun fb => by kernel_rfl) h1647 ?_
 refine WC.skip ?_
 refine WX.next ?_
 refine WC.seq ?_
 refine WC.region ?_
 refine seg 3 [.v (.slice A_f2 f2.length c_f2)] [0, 2, 3, 4, 5, 18, 19, 20] [(0, (iv p0)), (2, (.pointer (some ⟨g_f1, 0, none⟩))), (3, (.pointer (some ⟨g_f2, 0, none⟩))), (4, (.pointer (some ⟨g_f3, 0, none⟩))), (5, (.pointer (some ⟨g_f4, 0, none⟩))), (18, (.slice A_f2 f2.length c_f2)), (19, (iv (f2.length : Int))), (20, (iv 0))] [.cell ⟨g_f2, 0, none⟩ (.slice A_f2 f2.length c_f2)] (fun fb => by kernel_rfl) rfl ⟨blk_cell (hS.rd 1).1 0 rfl, trivial⟩ ?_
 refine WL.done rfl ?_
 refine WX.next ?_
 obtain ⟨x1873, hx1874, hf⟩ := bind_some hf
 refine WC.cutN (T := ((List Row) × (List Int)) × (Option Addr) × Nat × (Nat → HF) × (Option Addr) × Nat) (fun t => [(2, (.pointer (some ⟨g_f1, 0, none⟩))), (4, (.pointer (some ⟨g_f3, 0, none⟩)))]) (fun t w1 => St (fpL [blk g_f1 (.cells #[(.slice A_f1 f1.length c_f1)] 79 (0, 0)), rowO 85 encN_Row A_f1 c_f1 (tag H_f1 f1), poolO [nestO subN_Row H_f1 f1], blk g_f3 (.cells #[(.slice A_f3 f3.length c_f3)] 25 (0, 0)), rowO 3 encInt A_f3 c_f3 f3]) w w1 [blk g_f0 (.cells #[(iv f0)] 3 (0, 0)), blk g_f2 (.cells #[(.slice A_f2 f2.length c_f2)] 22 (0, 0)), rowR enc_Tile A_f2 c_f2 f2, blk g_f4 (.cells #[(.func (.func 97) #[] #[(.pointer (some ⟨g_f0, 0, none⟩)), (.pointer (some ⟨g_f1, 0, none⟩)), (.pointer (some ⟨g_f2, 0, none⟩)), (.pointer (some ⟨g_f3, 0, none⟩)), (.pointer (some ⟨g_f4, 0, none⟩))])] 129 (0, 0))] [blk g_f1 (.cells #[(.slice t.2.1 t.1.1.length t.2.2.1)] 79 (0, 0)), rowO 85 encN_Row t.2.1 t.2.2.1 (tag t.2.2.2.1 t.1.1), poolO [nestO subN_Row t.2.2.2.1 t.1.1], blk g_f3 (.cells #[(.slice t.2.2.2.2.1 t.1.2.length t.2.2.2.2.2)] 25 (0, 0)), rowO 3 encInt t.2.2.2.2.1 t.2.2.2.2.2 t.1.2] ∧ x1873 = t.1) (fun Kx1873 => ?_) ?_
 ·
  refine WC.block ?_
  refine WC.loop (T := ((List Row) × (List Int) × Int) × (Option Addr) × Nat × (Nat → HF) × (Option Addr) × Nat) (fun t => [(0, (iv p0)), (2, (.pointer (some ⟨g_f1, 0, none⟩))), (3, (.pointer (some ⟨g_f2, 0, none⟩))), (4, (.pointer (some ⟨g_f3, 0, none⟩))), (5, (.pointer (some ⟨g_f4, 0, none⟩))), (18, (.slice A_f2 f2.length c_f2)), (19, (iv (f2.length : Int))), (20, (iv t.1.2.2))]) (fun n t w1 => St (fpL [blk g_f1 (.cells #[(.slice A_f1 f1.length c_f1)] 79 (0, 0)), rowO 85 encN_Row A_f1 c_f1 (tag H_f1 f1), poolO [nestO subN_Row H_f1 f1], blk g_f3 (.cells #[(.slice A_f3 f3.length c_f3)] 25 (0, 0)), rowO 3 encInt A_f3 c_f3 f3]) w w1 [blk g_f0 (.cells #[(iv f0)] 3 (0, 0)), blk g_f2 (.cells #[(.slice A_f2 f2.length c_f2)] 22 (0, 0)), rowR enc_Tile A_f2 c_f2 f2, blk g_f4 (.cells #[(.func (.func 97) #[] #[(.pointer (some ⟨g_f0, 0, none⟩)), (.pointer (some ⟨g_f1, 0, none⟩)), (.pointer (some ⟨g_f2, 0, none⟩)), (.pointer (some ⟨g_f3, 0, none⟩)), (.pointer (some ⟨g_f4, 0, none⟩))])] 129 (0, 0))] [blk g_f1 (.cells #[(.slice t.2.1 t.1.1.length t.2.2.1)] 79 (0, 0)), rowO 85 encN_Row t.2.1 t.2.2.1 (tag t.2.2.2.1 t.1.1), poolO [nestO subN_Row t.2.2.2.1 t.1.1], blk g_f3 (.cells #[(.slice t.2.2.2.2.1 t.1.2.1.length t.2.2.2.2.2)] 25 (0, 0)), rowO 3 encInt t.2.2.2.2.1 t.2.2.2.2.2 t.1.2.1] ∧ rows_All_1.l0 n t.1.1 t.1.2.1 t.1.2.2 p0 f0 f2 rc_ = some x1873) k ((f1, f3, 0), A_f1, c_f1, H_f1, A_f3, c_f3) [0, 2, 3, 4, 5, 18, 19, 20] rfl ⟨(hS.subR [0, 1, 2, 3]).sub [0, 1, 2, 3, 4] (by decide), hx1874⟩ ?_
  rintro k1875 ⟨⟨l1860, l1864, x1865⟩, A1858, c1859, H1861, A1862, c1863⟩ w1876 ⟨hS1877, hl1878⟩
  cases k1875 with
  | zero => rw [rows_All_1.l0] at hl1878; cases hl1878
  | succ k1875 =>
   rw [rows_All_1.l0] at hl1878
   refine WC.seq ?_
   refine WC.region ?_
   refine seg 1 [] [0, 2, 3, 4, 5, 18, 19, 20, 21] [(0, (iv p0)), (2, (.pointer (some ⟨g_f1, 0, none⟩))), (3, (.pointer (some ⟨g_f2, 0, none⟩))), (4, (.pointer (some ⟨g_f3, 0, none⟩))), (5, (.pointer (some ⟨g_f4, 0, none⟩))), (18, (.slice A_f2 f2.length c_f2)), (19, (iv (f2.length : Int))), (20, (iv x1865)), (21, (.bool (decide (x1865 < (f2.length : Int)))))] [] (fun fb => by kernel_rfl) rfl trivial ?_
   refine WL.done rfl ?_
   refine WX.next ?_
   refine WC.seq ?_
   rcases br_some hl1878 with ⟨h1879, hl1878⟩ | ⟨h1879, hl1878⟩
   ·refine WC.condT2 (fun fb => by kernel_rfl) h1879 ?_
    refine WC.skip ?_
    refine WX.next ?_
    refine WC.seq ?_
    refine WC.block ?_
    refine WC.seq ?_
    refine WC.region ?_
    refine seg 1 [] [0, 2, 3, 4, 5, 18, 19, 20, 22] [(0, (iv p0)), (2, (.pointer (some ⟨g_f1, 0, none⟩))), (3, (.pointer (some ⟨g_f2, 0, none⟩))), (4, (.pointer (some ⟨g_f3, 0, none⟩))), (5, (.pointer (some ⟨g_f4, 0, none⟩))), (18, (.slice A_f2 f2.length c_f2)), (19, (iv (f2.length : Int))), (20, (iv x1865)), (22, (iv x1865))] [] (fun fb => by kernel_rfl) rfl trivial ?_
    obtain ⟨h1880, hl1878⟩ := as_some hl1878
    refine seg 3 [.v (iv ((rdD f2 x1865 z_Tile).N)), .v (iv ((rdD f2 x1865 z_Tile).E)), .v (iv ((rdD f2 x1865 z_Tile).S)), .v (iv ((rdD f2 x1865 z_Tile).W))] [0, 2, 3, 4, 5, 18, 19, 20, 22, 24] [(0, (iv p0)), (2, (.pointer (some ⟨g_f1, 0, none⟩))), (3, (.pointer (some ⟨g_f2, 0, none⟩))), (4, (.pointer (some ⟨g_f3, 0, none⟩))), (5, (.pointer (some ⟨g_f4, 0, none⟩))), (18, (.slice A_f2 f2.length c_f2)), (19, (iv (f2.length : Int))), (20, (iv x1865)), (22, (iv x1865)), (24, (.agg #[(iv ((rdD f2 x1865 z_Tile).N)), (iv ((rdD f2 x1865 z_Tile).E)), (iv ((rdD f2 x1865 z_Tile).S)), (iv ((rdD f2 x1865 z_Tile).W))]))] [.idx A_f2 x1865 f2.length, .cell ((adr A_f2).add ((x1865).toNat * 4)) (iv ((rdD f2 x1865 z_Tile).N)), .cell (((adr A_f2).add ((x1865).toNat * 4)).add 1) (iv ((rdD f2 x1865 z_Tile).E)), .cell (((adr A_f2).add ((x1865).toNat * 4)).add 2) (iv ((rdD f2 x1865 z_Tile).S)), .cell (((adr A_f2).add ((x1865).toNat * 4)).add 3) (iv ((rdD f2 x1865 z_Tile).W))] (fun fb => by kernel_rfl) rfl ⟨rowR.adr (hS1877.rd 2).1 h1880.1 h1880.2, rowR.cell (hS1877.rd 2).1 z_Tile h1880.1 h1880.2 0 rfl, rowR.cell (hS1877.rd 2).1 z_Tile h1880.1 h1880.2 1 rfl, rowR.cell (hS1877.rd 2).1 z_Tile h1880.1 h1880.2 2 rfl, rowR.cell (hS1877.rd 2).1 z_Tile h1880.1 h1880.2 3 rfl, trivial⟩ ?_
    refine WL.new hS1877 8 [] (fun g => (.pointer (some ⟨g, 0, none⟩))) (.cells #[(iv 0), (iv 0), (iv 0), (iv 0)] 40 (0, 0)) [] (fun fb g => by kernel_rfl) trivial (fun g1881 w1882 hS1883 => ?_)
    refine ⟨trivial, ?_⟩
    refine seg 5 [] [0, 2, 3, 4, 5, 7, 8, 18, 19, 20, 24] [(0, (iv p0)), (2, (.pointer (some ⟨g_f1, 0, none⟩))), (3, (.pointer (some ⟨g_f2, 0, none⟩))), (4, (.pointer (some ⟨g_f3, 0, none⟩))), (5, (.pointer (some ⟨g_f4, 0, none⟩))), (7, (iv x1865)), (8, (pt g1881)), (18, (.slice A_f2 f2.length c_f2)), (19, (iv (f2.length : Int))), (20, (iv x1865)), (24, (.agg #[(iv ((rdD f2 x1865 z_Tile).N)), (iv ((rdD f2 x1865 z_Tile).E)), (iv ((rdD f2 x1865 z_Tile).S)), (iv ((rdD f2 x1865 z_Tile).W))]))] [] (fun fb => by kernel_rfl) rfl trivial ?_
    refine WL.store hS1883 0 rfl [(0, (iv ((rdD f2 x1865 z_Tile).N))), (1, (iv ((rdD f2 x1865 z_Tile).E))), (2, (iv ((rdD f2 x1865 z_Tile).S))), (3, (iv ((rdD f2 x1865 z_Tile).W)))] #[(iv ((rdD f2 x1865 z_Tile).N)), (iv ((rdD f2 x1865 z_Tile).E)), (iv ((rdD f2 x1865 z_Tile).S)), (iv ((rdD f2 x1865 z_Tile).W))] (fun fb => by kernel_rfl) (by kernel_rfl) rfl [1, 2, 3, 4, 5] (by decide) (by decide) (fun w1885 hS1886 => ?_)
    refine ⟨trivial, ?_⟩
    refine WL.done rfl ?_
    refine WX.next ?_
    refine WC.seq ?_
    obtain ⟨x1899, hx1900, hl1878⟩ := bind_some hl1878
    refine WC.cutN (T := Bool) (fun t => [(0, (iv p0)), (2, (.pointer (some ⟨g_f1, 0, none⟩))), (3, (.pointer (some ⟨g_f2, 0, none⟩))), (4, (.pointer (some ⟨g_f3, 0, none⟩))), (5, (.pointer (some ⟨g_f4, 0, none⟩))), (7, (iv x1865)), (18, (.slice A_f2 f2.length c_f2)), (19, (iv (f2.length : Int))), (20, (iv x1865)), (40, (.bool t))]) (fun t w1 => St (fpL [blk g_f1 (.cells #[(.slice A_f1 f1.length c_f1)] 79 (0, 0)), rowO 85 encN_Row A_f1 c_f1 (tag H_f1 f1), poolO [nestO subN_Row H_f1 f1], blk g_f3 (.cells #[(.slice A_f3 f3.length c_f3)] 25 (0, 0)), rowO 3 encInt A_f3 c_f3 f3]) w w1 [blk g_f0 (.cells #[(iv f0)] 3 (0, 0)), blk g_f2 (.cells #[(.slice A_f2 f2.length c_f2)] 22 (0, 0)), rowR enc_Tile A_f2 c_f2 f2, blk g_f4 (.cells #[(.func (.func 97) #[] #[(.pointer (some ⟨g_f0, 0, none⟩)), (.pointer (some ⟨g_f1, 0, none⟩)), (.pointer (some ⟨g_f2, 0, none⟩)), (.pointer (some ⟨g_f3, 0, none⟩)), (.pointer (some ⟨g_f4, 0, none⟩))])] 129 (0, 0))] [blk g_f1 (.cells #[(.slice A1858 l1860.length c1859)] 79 (0, 0)), rowO 85 encN_Row A1858 c1859 (tag H1861 l1860), poolO [nestO subN_Row H1861 l1860], blk g_f3 (.cells #[(.slice A1862 l1864.length c1863)] 25 (0, 0)), rowO 3 encInt A1862 c1863 l1864] ∧ x1899 = t) (fun Kx1899 => ?_) ?_
    ·
     rcases br_some hx1900 with ⟨h1901, hx1900⟩ | ⟨h1901, hx1900⟩
     ·
      refine WC.regionD ([], [0, 1, 2, 3, 4, 5, 6, 7, 8, 9, 10, 11, 12, 13, 14, 15], [[], [0], [0, 1], [0, 1, 2], [0, 1, 2], [0, 1, 2], [0, 1, 2, 5], [0, 1, 2, 4, 5, 6], [0, 1, 2, 4, 5, 6, 7], [0, 1, 2, 3, 4, 5, 6, 7, 8], [0, 1, 2, 3, 4, 5, 6, 7, 8, 9], [0, 1, 2, 3, 4, 5, 6, 7, 8, 9, 10], [0, 1, 2], [0, 1, 2, 12], [0, 1, 2, 3, 4, 5, 6, 7, 8, 9, 10, 11, 12, 13], [0, 1, 2, 3, 4, 5, 6, 7, 8, 9, 10, 11, 12, 13, 14]]) [[0, 1, 2, 3, 4, 5, 6, 7, 8, 9, 10, 11, 12, 13, 14, 15]] (by kernel_rfl) (by kernel_rfl) (NoPanic.seq (NoPanic.block (NoPanic.seq (NoPanic.seq (NoPanic.block (NoPanic.body)))))) ?_
      have hS1903 := hS1886.drew
      revert hS1903
      generalize World.drew w1885 = w1902
      intro hS1903
      refine ⟨trivial, forallC ?_ (forallN)⟩
      refine seg 3 [] [0, 2, 3, 4, 5, 7, 8, 18, 19, 20, 27] [(0, (iv p0)), (2, (.pointer (some ⟨g_f1, 0, none⟩))), (3, (.pointer (some ⟨g_f2, 0, none⟩))), (4, (.pointer (some ⟨g_f3, 0, none⟩))), (5, (.pointer (some ⟨g_f4, 0, none⟩))), (7, (iv x1865)), (8, (pt g1881)), (18, (.slice A_f2 f2.length c_f2)), (19, (iv (f2.length : Int))), (20, (iv x1865)), (27, (.bool (p0 == 0)))] [] (fun fb => by kernel_rfl) rfl trivial ?_
      refine WL.setB 27 h1901 rfl ?_
      refine seg 16 [] [0, 2, 3, 4, 5, 7, 18, 19, 20, 40] [(0, (iv p0)), (2, (.pointer (some ⟨g_f1, 0, none⟩))), (3, (.pointer (some ⟨g_f2, 0, none⟩))), (4, (.pointer (some ⟨g_f3, 0, none⟩))), (5, (.pointer (some ⟨g_f4, 0, none⟩))), (7, (iv x1865)), (18, (.slice A_f2 f2.length c_f2)), (19, (iv (f2.length : Int))), (20, (iv x1865)), (40, (.bool true))] [] (fun fb => by kernel_rfl) rfl trivial ?_
      refine WL.done rfl ?_
      injection hx1900 with hx1900
      exact WX.to Kx1899 true [0, 2, 3, 4, 5, 7, 18, 19, 20, 40] rfl ⟨(hS1903.subR [0, 1, 2, 3]).sub [1, 2, 3, 4, 5] (by decide), hx1900.symm⟩
     obtain ⟨h1910, hx1900⟩ := as_some hx1900
     obtain ⟨h1911, hx1900⟩ := as_some hx1900
     refine WC.regionD ([(3, ⟨g_f2, 0, none⟩, (.slice A_f2 f2.length c_f2)), (4, ⟨g_f3, 0, none⟩, (.slice A1862 l1864.length c1863)), (8, ((adr A1862).add ((w64 (p0 - 1)).toNat * 1)), (iv (rdD l1864 (w64 (p0 - 1)) 0))), (11, (((adr A_f2).add (((rdD l1864 (w64 (p0 - 1)) 0)).toNat * 4)).add 1), (iv ((rdD f2 (rdD l1864 (w64 (p0 - 1)) 0) z_Tile).E))), (13, ⟨g1881, 3, none⟩, (iv ((rdD f2 x1865 z_Tile).W)))], [0, 1, 2, 3, 4, 5, 6, 7, 8, 9, 10, 11, 12, 13, 14, 15], [[], [0], [0, 1], [0, 1, 2], [0, 1, 2], [0, 1, 2], [0, 1, 2, 5], [0, 1, 2, 4, 5, 6], [0, 1, 2, 4, 5, 6, 7], [0, 1, 2, 3, 4, 5, 6, 7, 8], [0, 1, 2, 3, 4, 5, 6, 7, 8, 9], [0, 1, 2, 3, 4, 5, 6, 7, 8, 9, 10], [0, 1, 2], [0, 1, 2, 12], [0, 1, 2, 3, 4, 5, 6, 7, 8, 9, 10, 11, 12, 13], [0, 1, 2, 3, 4, 5, 6, 7, 8, 9, 10, 11, 12, 13, 14]]) [[0, 1, 2, 3, 4, 5, 6, 7, 8, 9, 10, 11, 12, 13, 14, 15]] (by kernel_rfl) (by kernel_rfl) (NoPanic.seq (NoPanic.block (NoPanic.seq (NoPanic.seq (NoPanic.block (NoPanic.body)))))) ?_
     have hS1907 := hS1886.drew
     revert hS1907
     generalize World.drew w1885 = w1906
     intro hS1907
     refine ⟨⟨blk_cell (hS1907.rd 1).1 0 rfl, hS1907.cell 4 rfl 0 rfl, rowR.cell (rowO.rd (hS1907.own 5).1) 0 h1910.1 h1910.2 0 rfl, rowR.cell (hS1907.rd 2).1 z_Tile h1911.1 h1911.2 1 rfl, hS1907.cell 0 rfl 3 rfl, trivial⟩, forallC ?_ (forallN)⟩
     refine seg 3 [] [0, 2, 3, 4, 5, 7, 8, 18, 19, 20, 27] [(0, (iv p0)), (2, (.pointer (some ⟨g_f1, 0, none⟩))), (3, (.pointer (some ⟨g_f2, 0, none⟩))), (4, (.pointer (some ⟨g_f3, 0, none⟩))), (5, (.pointer (some ⟨g_f4, 0, none⟩))), (7, (iv x1865)), (8, (pt g1881)), (18, (.slice A_f2 f2.length c_f2)), (19, (iv (f2.length : Int))), (20, (iv x1865)), (27, (.bool (p0 == 0)))] [] (fun fb => by kernel_rfl) rfl trivial ?_
     refine WL.setB 27 h1901 rfl ?_
     refine segF 16 [.v (.slice A_f2 f2.length c_f2), .v (.slice A1862 l1864.length c1863), .v (iv (rdD l1864 (w64 (p0 - 1)) 0)), .v (iv ((rdD f2 (rdD l1864 (w64 (p0 - 1)) 0) z_Tile).E)), .v (iv ((rdD f2 x1865 z_Tile).W))] [0, 2, 3, 4, 5, 7, 18, 19, 20, 40] [(0, (iv p0)), (2, (.pointer (some ⟨g_f1, 0, none⟩))), (3, (.pointer (some ⟨g_f2, 0, none⟩))), (4, (.pointer (some ⟨g_f3, 0, none⟩))), (5, (.pointer (some ⟨g_f4, 0, none⟩))), (7, (iv x1865)), (18, (.slice A_f2 f2.length c_f2)), (19, (iv (f2.length : Int))), (20, (iv x1865)), (40, (.bool (((rdD f2 (rdD l1864 (w64 (p0 - 1)) 0) z_Tile).E) == ((rdD f2 x1865 z_Tile).W))))] [.idx A1862 (w64 (p0 - 1)) l1864.length, .idx A_f2 (rdD l1864 (w64 (p0 - 1)) 0) f2.length] [0, 1, 2, 3, 4] [(3, ⟨g_f2, 0, none⟩, (.slice A_f2 f2.length c_f2)), (4, ⟨g_f3, 0, none⟩, (.slice A1862 l1864.length c1863)), (8, ((adr A1862).add ((w64 (p0 - 1)).toNat * 1)), (iv (rdD l1864 (w64 (p0 - 1)) 0))), (11, (((adr A_f2).add (((rdD l1864 (w64 (p0 - 1)) 0)).toNat * 4)).add 1), (iv ((rdD f2 (rdD l1864 (w64 (p0 - 1)) 0) z_Tile).E))), (13, ⟨g1881, 3, none⟩, (iv ((rdD f2 x1865 z_Tile).W)))] (fun fb => by kernel_rfl) rfl ⟨rowR.adr (rowO.rd (hS1907.own 5).1) h1910.1 h1910.2, rowR.adr (hS1907.rd 2).1 h1911.1 h1911.2, trivial⟩ rfl ?_
     refine WL.done rfl ?_
     injection hx1900 with hx1900
     exact WX.to Kx1899 (((rdD f2 (rdD l1864 (w64 (p0 - 1)) 0) z_Tile).E) == ((rdD f2 x1865 z_Tile).W)) [0, 2, 3, 4, 5, 7, 18, 19, 20, 40] rfl ⟨(hS1907.subR [0, 1, 2, 3]).sub [1, 2, 3, 4, 5] (by decide), hx1900.symm⟩
    rintro y1915 w1912 ⟨hS1913, hq1914⟩
    subst hq1914
    refine WX.next ?_
    obtain ⟨x1938, hx1939, hl1878⟩ := bind_some hl1878
    refine WC.cutN (T := ((List Row) × (List Int)) × (Option Addr) × Nat × (Nat → HF) × (Option Addr) × Nat) (fun t => [(0, (iv p0)), (2, (.pointer (some ⟨g_f1, 0, none⟩))), (3, (.pointer (some ⟨g_f2, 0, none⟩))), (4, (.pointer (some ⟨g_f3, 0, none⟩))), (5, (.pointer (some ⟨g_f4, 0, none⟩))), (18, (.slice A_f2 f2.length c_f2)), (19, (iv (f2.length : Int))), (20, (iv x1865))]) (fun t w1 => St (fpL [blk g_f1 (.cells #[(.slice A_f1 f1.length c_f1)] 79 (0, 0)), rowO 85 encN_Row A_f1 c_f1 (tag H_f1 f1), poolO [nestO subN_Row H_f1 f1], blk g_f3 (.cells #[(.slice A_f3 f3.length c_f3)] 25 (0, 0)), rowO 3 encInt A_f3 c_f3 f3]) w w1 [blk g_f0 (.cells #[(iv f0)] 3 (0, 0)), blk g_f2 (.cells #[(.slice A_f2 f2.length c_f2)] 22 (0, 0)), rowR enc_Tile A_f2 c_f2 f2, blk g_f4 (.cells #[(.func (.func 97) #[] #[(.pointer (some ⟨g_f0, 0, none⟩)), (.pointer (some ⟨g_f1, 0, none⟩)), (.pointer (some ⟨g_f2, 0, none⟩)), (.pointer (some ⟨g_f3, 0, none⟩)), (.pointer (some ⟨g_f4, 0, none⟩))])] 129 (0, 0))] [blk g_f1 (.cells #[(.slice t.2.1 t.1.1.length t.2.2.1)] 79 (0, 0)), rowO 85 encN_Row t.2.1 t.2.2.1 (tag t.2.2.2.1 t.1.1), poolO [nestO subN_Row t.2.2.2.1 t.1.1], blk g_f3 (.cells #[(.slice t.2.2.2.2.1 t.1.2.length t.2.2.2.2.2)] 25 (0, 0)), rowO 3 encInt t.2.2.2.2.1 t.2.2.2.2.2 t.1.2] ∧ x1938 = t.1) (fun Kx1938 => ?_) ?_
    ·
     rcases br_some hx1939 with ⟨h1940, hx1939⟩ | ⟨h1940, hx1939⟩
     ·refine WC.condT2 (fun fb => by kernel_rfl) h1940 ?_
      refine WC.seq ?_
      refine WC.region ?_
      refine seg 3 [.v (.slice A1862 l1864.length c1863)] [0, 2, 3, 4, 5, 18, 19, 20, 41, 42, 43] [(0, (iv p0)), (2, (.pointer (some ⟨g_f1, 0, none⟩))), (3, (.pointer (some ⟨g_f2, 0, none⟩))), (4, (.pointer (some ⟨g_f3, 0, none⟩))), (5, (.pointer (some ⟨g_f4, 0, none⟩))), (18, (.slice A_f2 f2.length c_f2)), (19, (iv (f2.length : Int))), (20, (iv x1865)), (41, (.slice A1862 l1864.length c1863)), (42, (iv p0)), (43, (iv x1865))] [.cell ⟨g_f3, 0, none⟩ (.slice A1862 l1864.length c1863)] (fun fb => by kernel_rfl) rfl ⟨hS1913.cell 3 rfl 0 rfl, trivial⟩ ?_
      obtain ⟨h1941, hx1939⟩ := as_some hx1939
      refine seg 4 [] [0, 2, 3, 4, 5, 18, 19, 20, 43, 44] [(0, (iv p0)), (2, (.pointer (some ⟨g_f1, 0, none⟩))), (3, (.pointer (some ⟨g_f2, 0, none⟩))), (4, (.pointer (some ⟨g_f3, 0, none⟩))), (5, (.pointer (some ⟨g_f4, 0, none⟩))), (18, (.slice A_f2 f2.length c_f2)), (19, (iv (f2.length : Int))), (20, (iv x1865)), (43, (iv x1865)), (44, (.pointer (some ((adr A1862).add ((p0).toNat * 1)))))] [.idx A1862 p0 l1864.length] (fun fb => by kernel_rfl) rfl ⟨rowR.adr (rowO.rd (hS1913.own 4).1) h1941.1 h1941.2, trivial⟩ ?_
      refine WL.storeRow hS1913 4 rfl (p0) (x1865) (0) [(0, (iv x1865))] (fun fb => by kernel_rfl) h1941.1 h1941.2 (by kernel_rfl) rfl [0, 1, 2, 3] (by decide) (by decide) (fun w1942 hS1943 => ?_)
      refine ⟨trivial, ?_⟩
      have hS1944 : St (fpL [blk g_f1 (.cells #[(.slice A_f1 f1.length c_f1)] 79 (0, 0)), rowO 85 encN_Row A_f1 c_f1 (tag H_f1 f1), poolO [nestO subN_Row H_f1 f1], blk g_f3 (.cells #[(.slice A_f3 f3.length c_f3)] 25 (0, 0)), rowO 3 encInt A_f3 c_f3 f3]) w w1942 [blk g_f0 (.cells #[(iv f0)] 3 (0, 0)), blk g_f2 (.cells #[(.slice A_f2 f2.length c_f2)] 22 (0, 0)), rowR enc_Tile A_f2 c_f2 f2, blk g_f4 (.cells #[(.func (.func 97) #[] #[(.pointer (some ⟨g_f0, 0, none⟩)), (.pointer (some ⟨g_f1, 0, none⟩)), (.pointer (some ⟨g_f2, 0, none⟩)), (.pointer (some ⟨g_f3, 0, none⟩)), (.pointer (some ⟨g_f4, 0, none⟩))])] 129 (0, 0))] [rowO 3 encInt A1862 c1863 (l1864.set (p0).toNat x1865), blk g_f1 (.cells #[(.slice A1858 l1860.length c1859)] 79 (0, 0)), rowO 85 encN_Row A1858 c1859 (tag H1861 l1860), poolO [nestO subN_Row H1861 l1860], blk g_f3 (.cells #[(.slice A1862 (l1864.set (p0).toNat x1865).length c1863)] 25 (0, 0))] := by simpa only [List.length_set] using (show St (fpL [blk g_f1 (.cells #[(.slice A_f1 f1.length c_f1)] 79 (0, 0)), rowO 85 encN_Row A_f1 c_f1 (tag H_f1 f1), poolO [nestO subN_Row H_f1 f1], blk g_f3 (.cells #[(.slice A_f3 f3.length c_f3)] 25 (0, 0)), rowO 3 encInt A_f3 c_f3 f3]) w w1942 [blk g_f0 (.cells #[(iv f0)] 3 (0, 0)), blk g_f2 (.cells #[(.slice A_f2 f2.length c_f2)] 22 (0, 0)), rowR enc_Tile A_f2 c_f2 f2, blk g_f4 (.cells #[(.func (.func 97) #[] #[(.pointer (some ⟨g_f0, 0, none⟩)), (.pointer (some ⟨g_f1, 0, none⟩)), (.pointer (some ⟨g_f2, 0, none⟩)), (.pointer (some ⟨g_f3, 0, none⟩)), (.pointer (some ⟨g_f4, 0, none⟩))])] 129 (0, 0))] [rowO 3 encInt A1862 c1863 (l1864.set (p0).toNat x1865), blk g_f1 (.cells #[(.slice A1858 l1860.length c1859)] 79 (0, 0)), rowO 85 encN_Row A1858 c1859 (tag H1861 l1860), poolO [nestO subN_Row H1861 l1860], blk g_f3 (.cells #[(.slice A1862 l1864.length c1863)] 25 (0, 0))] from hS1943)
      refine WL.done rfl ?_
      refine WX.next ?_
      refine WC.region ?_
      refine seg 3 [.v (.func (.func 97) #[] #[(.pointer (some ⟨g_f0, 0, none⟩)), (.pointer (some ⟨g_f1, 0, none⟩)), (.pointer (some ⟨g_f2, 0, none⟩)), (.pointer (some ⟨g_f3, 0, none⟩)), (.pointer (some ⟨g_f4, 0, none⟩))])] [0, 2, 3, 4, 5, 18, 19, 20, 45, 47] [(0, (iv p0)), (2, (.pointer (some ⟨g_f1, 0, none⟩))), (3, (.pointer (some ⟨g_f2, 0, none⟩))), (4, (.pointer (some ⟨g_f3, 0, none⟩))), (5, (.pointer (some ⟨g_f4, 0, none⟩))), (18, (.slice A_f2 f2.length c_f2)), (19, (iv (f2.length : Int))), (20, (iv x1865)), (45, (.func (.func 97) #[] #[(.pointer (some ⟨g_f0, 0, none⟩)), (.pointer (some ⟨g_f1, 0, none⟩)), (.pointer (some ⟨g_f2, 0, none⟩)), (.pointer (some ⟨g_f3, 0, none⟩)), (.pointer (some ⟨g_f4, 0, none⟩))])), (47, (iv (w64 (p0 + 1))))] [.cell ⟨g_f4, 0, none⟩ (.func (.func 97) #[] #[(.pointer (some ⟨g_f0, 0, none⟩)), (.pointer (some ⟨g_f1, 0, none⟩)), (.pointer (some ⟨g_f2, 0, none⟩)), (.pointer (some ⟨g_f3, 0, none⟩)), (.pointer (some ⟨g_f4, 0, none⟩))])] (fun fb => by kernel_rfl) rfl ⟨blk_cell (hS1944.rd 3).1 0 rfl, trivial⟩ ?_
      obtain ⟨t1945, ht1946, hx1939⟩ := bind_some hx1939
      refine WL.call (some 48) 97 #[(iv (w64 (p0 + 1))), (.pointer (some ⟨g_f0, 0, none⟩)), (.pointer (some ⟨g_f1, 0, none⟩)), (.pointer (some ⟨g_f2, 0, none⟩)), (.pointer (some ⟨g_f3, 0, none⟩)), (.pointer (some ⟨g_f4, 0, none⟩))] (fun fb => by kernel_rfl) (ih_ (w64 (p0 + 1)) f0 l1860 f2 (l1864.set (p0).toNat x1865) g_f0 g_f1 A1858 c1859 H1861 g_f2 A_f2 c_f2 g_f3 A1862 c1863 g_f4 t1945 _ (hS1944.rdT [1, 2, 3, 4, 0] 0) (hS1944.rdT [1, 2, 3, 4, 0] 1) (hS1944.rdT [1, 2, 3, 4, 0] 2) (hS1944.rdT [1, 2, 3, 4, 0] 3) (hS1944.io [1, 2, 3, 4, 0] (by decide)) ht1946) (fun v w1947 hR1948 => ?_)
      obtain ⟨A1950, c1951, H1952, A1953, c1954, rfl, hk_⟩ := hR1948
      have hS1949 : St (fpL [blk g_f1 (.cells #[(.slice A_f1 f1.length c_f1)] 79 (0, 0)), rowO 85 encN_Row A_f1 c_f1 (tag H_f1 f1), poolO [nestO subN_Row H_f1 f1], blk g_f3 (.cells #[(.slice A_f3 f3.length c_f3)] 25 (0, 0)), rowO 3 encInt A_f3 c_f3 f3]) w w1947 [blk g_f0 (.cells #[(iv f0)] 3 (0, 0)), blk g_f2 (.cells #[(.slice A_f2 f2.length c_f2)] 22 (0, 0)), rowR enc_Tile A_f2 c_f2 f2, blk g_f4 (.cells #[(.func (.func 97) #[] #[(.pointer (some ⟨g_f0, 0, none⟩)), (.pointer (some ⟨g_f1, 0, none⟩)), (.pointer (some ⟨g_f2, 0, none⟩)), (.pointer (some ⟨g_f3, 0, none⟩)), (.pointer (some ⟨g_f4, 0, none⟩))])] 129 (0, 0))] [blk g_f1 (.cells #[(.slice A1950 t1945.1.length c1951)] 79 (0, 0)), rowO 85 encN_Row A1950 c1951 (tag H1952 t1945.1), poolO [nestO subN_Row H1952 t1945.1], blk g_f3 (.cells #[(.slice A1953 t1945.2.length c1954)] 25 (0, 0)), rowO 3 encInt A1953 c1954 t1945.2] := hS1944.call hk_ [1, 2, 3, 4, 0] [] (fun g hg => fpL_sel g hg) (by decide) (by decide)
      refine ⟨trivial, ?_⟩
      refine WL.done rfl ?_
      injection hx1939 with hx1939
      exact WX.to Kx1938 ((t1945.1, t1945.2), A1950, c1951, H1952, A1953, c1954) [0, 2, 3, 4, 5, 18, 19, 20] rfl ⟨(hS1949.subR [0, 1, 2, 3]).sub [0, 1, 2, 3, 4] (by decide), hx1939.symm⟩
     refine WC.condF2 (fun fb => by kernel_rfl) h1940 ?_
     refine WC.skip ?_
     injection hx1939 with hx1939
     exact WX.to Kx1938 ((l1860, l1864), A1858, c1859, H1861, A1862, c1863) [0, 2, 3, 4, 5, 18, 19, 20] rfl ⟨(hS1913.subR [0, 1, 2, 3]).sub [0, 1, 2, 3, 4] (by decide), hx1939.symm⟩
    rintro ⟨y1958, A1931, c1932, H1934, A1935, c1936⟩ w1955 ⟨hS1956, hq1957⟩
    subst hq1957
    refine WX.blockN (WX.next ?_)
    refine WC.region ?_
    refine seg 2 [] [0, 2, 3, 4, 5, 18, 19, 20] [(0, (iv p0)), (2, (.pointer (some ⟨g_f1, 0, none⟩))), (3, (.pointer (some ⟨g_f2, 0, none⟩))), (4, (.pointer (some ⟨g_f3, 0, none⟩))), (5, (.pointer (some ⟨g_f4, 0, none⟩))), (18, (.slice A_f2 f2.length c_f2)), (19, (iv (f2.length : Int))), (20, (iv (w64 (x1865 + 1))))] [] (fun fb => by kernel_rfl) rfl trivial ?_
    refine WL.done rfl ?_
    exact WX.again k1875 (Nat.lt_succ_self _) ((x1938.1, x1938.2, w64 (x1865 + 1)), A1931, c1932, H1934, A1935, c1936) [0, 2, 3, 4, 5, 18, 19, 20] rfl ⟨(hS1956.subR [0, 1, 2, 3]).sub [0, 1, 2, 3, 4] (by decide), hl1878⟩
   refine WC.condF2 (fun fb => by kernel_rfl) h1879 ?_
   refine WC.exit ?_
   injection hl1878 with hl1878
   exact WX.thenX (WX.thenX (WX.blockHere (WX.to Kx1873 ((l1860, l1864), A1858, c1859, H1861, A1862, c1863) [2, 4] rfl ⟨(hS1877.subR [0, 1, 2, 3]).sub [0, 1, 2, 3, 4] (by decide), hl1878.symm⟩)))
 rintro ⟨y1962, A1866, c1867, H1869, A1870, c1871⟩ w1959 ⟨hS1960, hq1961⟩
 subst hq1961
 injection hf with hf
 subst hf
 exact WX.end_ [] (.tuple #[]) [] (fun fb => by kernel_rfl) trivial ⟨_, rfl, A1866, c1867, H1869, A1870, c1871, rfl, (hS1960.sub [0, 1, 2, 3, 4] (by decide)).noR⟩
theorem rows_All_calls (k : Nat) (p0 : List Tile) (p1 : Int) (A_p0 : Option Addr) (c_p0 : Nat) (r : (List Row)) (w : World) (hR0 : RO NoS w (rowR enc_Tile A_p0 c_p0 p0)) (hf : rows_All k p0 p1 = some r) :
  CallsR Tryd.prog 83 #[(.slice A_p0 p0.length c_p0), (iv p1)] w (fun v w' => ∃ (A1_ : Option Addr), ∃ (c1_ : Nat), ∃ (h1_ : Nat → HF), v = (.slice A1_ r.length c1_) ∧ St NoS w w' [] [rowO 85 encN_Row A1_ c1_ (tag h1_ r), poolO [nestO subN_Row h1_ r]]) := by
 have hS : St NoS w w [rowR enc_Tile A_p0 c_p0 p0] [] := St.init (ro_cons hR0 (ro_nil _ _))
 refine enter 14 Tryd.func83 rfl Tryd.ntmps83 rfl ?_
 unfold rows_All at hf
 refine WC.seq ?_
 refine WC.region ?_
 refine WL.new hS 2 [] (fun g => (.pointer (some ⟨g, 0, none⟩))) (.cells #[(.slice A_p0 p0.length c_p0)] 22 (0, 0)) [] (fun fb g => by kernel_rfl) trivial (fun g1285 w1286 hS1287 => ?_)
 refine ⟨trivial, ?_⟩
 refine WL.new hS1287 3 [] (fun g => (.pointer (some ⟨g, 0, none⟩))) (.cells #[(iv p1)] 3 (0, 0)) [] (fun fb g => by kernel_rfl) trivial (fun g1289 w1290 hS1291 => ?_)
 refine ⟨trivial, ?_⟩
 refine seg 3 [] [2, 3] [(2, (pt g1285)), (3, (pt g1289))] [] (fun fb => by kernel_rfl) rfl trivial ?_
 refine WL.done rfl ?_
 refine WX.next ?_
 refine WC.seq ?_
 refine WC.region ?_
 refine WL.new hS1291 5 [] (fun g => (.pointer (some ⟨g, 0, none⟩))) (.cells #[(.slice none 0 0)] 79 (0, 0)) [] (fun fb g => by kernel_rfl) trivial (fun g1293 w1294 hS1295 => ?_)
 refine ⟨trivial, ?_⟩
 refine WL.done rfl ?_
 refine WX.next ?_
 refine WC.seq ?_
 refine WC.region ?_
 refine seg 1 [.v (iv p1)] [2, 3, 5, 8] [(2, (pt g1285)), (3, (pt g1289)), (5, (pt g1293)), (8, (iv p1))] [.cell ⟨g1289, 0, none⟩ (iv p1)] (fun fb => by kernel_rfl) rfl ⟨hS1295.cell 1 rfl 0 rfl, trivial⟩ ?_
 obtain ⟨h1297, hf⟩ := as_some hf
 refine WL.make hS1295 (e := encInt) (T := 3) (tS := 25) (z := (iv 0)) (bytes := 8) (d := 9) (0 : Int) p1 (fun fb => by kernel_rfl) (by kernel_rfl) (by kernel_rfl) rfl (by decide) h1297 (by decide) (fun g1298 w1299 hS1300 => ?_)
 refine ⟨trivial, ?_⟩
 refine WL.new hS1300 6 [] (fun g => (.pointer (some ⟨g, 0, none⟩))) (.cells #[(.slice none 0 0)] 25 (0, 0)) [] (fun fb g => by kernel_rfl) trivial (fun g1301 w1302 hS1303 => ?_)
 refine ⟨trivial, ?_⟩
 refine WL.store hS1303 0 rfl [(0, (.slice (some ⟨g1298, 0, none⟩) (List.replicate p1.toNat (0 : Int)).length p1.toNat))] #[(.slice (some ⟨g1298, 0, none⟩) (List.replicate p1.toNat (0 : Int)).length p1.toNat)] (fun fb => by kernel_rfl) (by kernel_rfl) rfl [1, 2, 3, 4] (by decide) (by decide) (fun w1305 hS1306 => ?_)
 refine ⟨trivial, ?_⟩
 refine WL.done rfl ?_
 refine WX.next ?_
 refine WC.seq ?_
 refine WC.region ?_
 refine WL.new hS1306 7 [] (fun g => (.pointer (some ⟨g, 0, none⟩))) (.cells #[.nilFunc] 129 (0, 0)) [] (fun fb g => by kernel_rfl) trivial (fun g1307 w1308 hS1309 => ?_)
 refine ⟨trivial, ?_⟩
 refine WL.done rfl ?_
 refine WX.next ?_
 refine WC.seq ?_
 refine WC.region ?_
 refine seg 1 [] [5, 7, 10] [(5, (pt g1293)), (7, (pt g1307)), (10, (.func (.func 97) #[] #[(pt g1289), (pt g1293), (pt g1285), (pt g1301), (pt g1307)]))] [] (fun fb => by kernel_rfl) rfl trivial ?_
 refine WL.store hS1309 0 rfl [(0, (.func (.func 97) #[] #[(pt g1289), (pt g1293), (pt g1285), (pt g1301), (pt g1307)]))] #[(.func (.func 97) #[] #[(pt g1289), (pt g1293), (pt g1285), (pt g1301), (pt g1307)])] (fun fb => by kernel_rfl) (by kernel_rfl) rfl [1, 2, 3, 4, 5] (by decide) (by decide) (fun w1311 hS1312 => ?_)
 refine ⟨trivial, ?_⟩
 refine WL.done rfl ?_
 refine WX.next ?_
 refine WC.seq ?_
 refine WC.region ?_
 refine seg 1 [.v (.func (.func 97) #[] #[(pt g1289), (pt g1293), (pt g1285), (pt g1301), (pt g1307)])] [5, 11] [(5, (pt g1293)), (11, (.func (.func 97) #[] #[(pt g1289), (pt g1293), (pt g1285), (pt g1301), (pt g1307)]))] [.cell ⟨g1307, 0, none⟩ (.func (.func 97) #[] #[(pt g1289), (pt g1293), (pt g1285), (pt g1301), (pt g1307)])] (fun fb => by kernel_rfl) rfl ⟨hS1312.cell 0 rfl 0 rfl, trivial⟩ ?_
 have hS1963 : St NoS w w1311 [rowR enc_Tile A_p0 c_p0 p0] [rowO 85 encN_Row none 0 (tag h0 ([] : List Row)), blk g1307 (.cells #[(.func (.func 97) #[] #[(pt g1289), (pt g1293), (pt g1285), (pt g1301), (pt g1307)])] 129 (0, 0)), blk g1301 (.cells #[(.slice (some ⟨g1298, 0, none⟩) (List.replicate p1.toNat (0 : Int)).length p1.toNat)] 25 (0, 0)), rowO 3 encInt (some ⟨g1298, 0, none⟩) p1.toNat (List.replicate p1.toNat (0 : Int)), blk g1293 (.cells #[(.slice none 0 0)] 79 (0, 0)), blk g1289 (.cells #[(iv p1)] 3 (0, 0)), blk g1285 (.cells #[(.slice A_p0 p0.length c_p0)] 22 (0, 0))] := hS1312.nilrow 85 encN_Row
 have hS1964 := hS1963.poolNil subN_Row h0
 obtain ⟨t1965, ht1966, hf⟩ := bind_some hf
 refine WL.call (some 12) 97 #[(iv 0), (pt g1289), (pt g1293), (pt g1285), (pt g1301), (pt g1307)] (fun fb => by kernel_rfl) (rows_All_1_calls _ 0 p1 ([] : List Row) p0 (List.replicate p1.toNat (0 : Int)) g1289 g1293 none 0 h0 g1285 A_p0 c_p0 g1301 (some ⟨g1298, 0, none⟩) p1.toNat g1307 t1965 _ (hS1964.owT [5, 1, 0, 3, 4] 6 (by decide)) (hS1964.owT [5, 1, 0, 3, 4] 7 (by decide)) (hS1964.rdT [5, 1, 0, 3, 4] 0) (hS1964.owT [5, 1, 0, 3, 4] 2 (by decide)) (hS1964.io [5, 1, 0, 3, 4] (by decide)) ht1966) (fun v w1967 hR1968 => ?_)
 obtain ⟨A1970, c1971, H1972, A1973, c1974, rfl, hk_⟩ := hR1968
 have hS1969 : St NoS w w1967 [rowR enc_Tile A_p0 c_p0 p0] [blk g1293 (.cells #[(.slice A1970 t1965.1.length c1971)] 79 (0, 0)), rowO 85 encN_Row A1970 c1971 (tag H1972 t1965.1), poolO [nestO subN_Row H1972 t1965.1], blk g1301 (.cells #[(.slice A1973 t1965.2.length c1974)] 25 (0, 0)), rowO 3 encInt A1973 c1974 t1965.2, blk g1307 (.cells #[(.func (.func 97) #[] #[(pt g1289), (pt g1293), (pt g1285), (pt g1301), (pt g1307)])] 129 (0, 0)), blk g1289 (.cells #[(iv p1)] 3 (0, 0)), blk g1285 (.cells #[(.slice A_p0 p0.length c_p0)] 22 (0, 0))] := hS1964.call hk_ [5, 1, 0, 3, 4] [2, 6, 7] (fun g hg => fpL_sel g hg) (by decide) (by decide)
 refine ⟨trivial, ?_⟩
 refine WL.done rfl ?_
 refine WX.next ?_
 refine WC.seq ?_
 refine WC.region ?_
 refine seg 2 [.v (.slice A1970 t1965.1.length c1971)] [4] [(4, (.slice A1970 t1965.1.length c1971))] [.cell ⟨g1293, 0, none⟩ (.slice A1970 t1965.1.length c1971)] (fun fb => by kernel_rfl) rfl ⟨hS1969.cell 0 rfl 0 rfl, trivial⟩ ?_
 refine WL.done rfl ?_
 refine WX.next ?_
 refine WC.ret ?_
 injection hf with hf
 subst hf
 exact WX.ret_ [] (.slice A1970 t1965.1.length c1971) [] (fun fb => by kernel_rfl) trivial ⟨_, rfl, A1970, c1971, H1972, rfl, (hS1969.sub [1, 2] (by decide)).noR⟩
theorem torus_rings_calls (k : Nat) (p0 : List Tile) (p1 : Int) (A_p0 : Option Addr) (c_p0 : Nat) (r : (List Row)) (w : World) (hR0 : RO NoS w (rowR enc_Tile A_p0 c_p0 p0)) (hf : torus_rings k p0 p1 = some r) :
  CallsR Tryd.prog 81 #[(.slice A_p0 p0.length c_p0), (iv p1)] w (fun v w' => ∃ (A1_ : Option Addr), ∃ (c1_ : Nat), ∃ (h1_ : Nat → HF), v = (.slice A1_ r.length c1_) ∧ St NoS w w' [] [rowO 85 encN_Row A1_ c1_ (tag h1_ r), poolO [nestO subN_Row h1_ r]]) := by
 have hS : St NoS w w [rowR enc_Tile A_p0 c_p0 p0] [] := St.init (ro_cons hR0 (ro_nil _ _))
 refine enter 27 Tryd.func81 rfl Tryd.ntmps81 rfl ?_
 unfold torus_rings at hf
 refine WC.seq ?_
 refine WC.region ?_
 refine seg 1 [] [0, 1] [(0, (.slice A_p0 p0.length c_p0)), (1, (iv p1))] [] (fun fb => by kernel_rfl) rfl trivial ?_
 refine WL.done rfl ?_
 refine WX.next ?_
 refine WC.seq ?_
 refine WC.region ?_
 refine seg 1 [] [0, 1, 5] [(0, (.slice A_p0 p0.length c_p0)), (1, (iv p1)), (5, (.slice none 0 0))] [] (fun fb => by kernel_rfl) rfl trivial ?_
 refine WL.done rfl ?_
 refine WX.next ?_
 refine WC.seq ?_
 refine WC.seq ?_
 refine WC.region ?_
 refine seg 2 [] [5, 8, 9] [(5, (.slice none 0 0)), (8, (.slice A_p0 p0.length c_p0)), (9, (iv p1))] [] (fun fb => by kernel_rfl) rfl trivial ?_
 obtain ⟨t1975, ht1976, hf⟩ := bind_some hf
 refine WL.call (some 10) 83 #[(.slice A_p0 p0.length c_p0), (iv p1)] (fun fb => by kernel_rfl) (rows_All_calls _ p0 p1 A_p0 c_p0 t1975 _ (hS.rd 0) ht1976) (fun v w1977 hR1978 => ?_)
 obtain ⟨A1980, c1981, H1982, rfl, hk_⟩ := hR1978
 have hS1979 : St NoS w w1977 [rowR enc_Tile A_p0 c_p0 p0] [rowO 85 encN_Row A1980 c1981 (tag H1982 t1975), poolO [nestO subN_Row H1982 t1975]] := hS.call hk_ [] [] (fun g hg => hg.elim) (by simp) (by decide)
 refine ⟨trivial, ?_⟩
 refine seg 5 [] [5, 10, 11, 12] [(5, (.slice none 0 0)), (10, (.slice A1980 t1975.length c1981)), (11, (iv (t1975.length : Int))), (12, (iv 0))] [] (fun fb => by kernel_rfl) rfl trivial ?_
 refine WL.done rfl ?_
 refine WX.next ?_
 have hS2084 : St NoS w w1977 [rowR enc_Tile A_p0 c_p0 p0] [rowO 85 encN_Row none 0 (tag h0 ([] : List Row)), rowO 85 encN_Row A1980 c1981 (tag H1982 t1975), poolO [nestO subN_Row H1982 t1975]] := hS1979.nilrow 85 encN_Row
 have hS2085 := hS2084.poolNil subN_Row h0
 have hS2086 : St NoS w w1977 [rowR enc_Tile A_p0 c_p0 p0] [poolO [nestO subN_Row h0 ([] : List Row), nestO subN_Row H1982 t1975], rowO 85 encN_Row none 0 (tag h0 ([] : List Row)), rowO 85 encN_Row A1980 c1981 (tag H1982 t1975)] := hS2085.poolMerge 0 3 rfl rfl [1, 2] (by decide) (by decide)
 obtain ⟨x2096, hx2097, hf⟩ := bind_some hf
 refine WC.cutN (T := (List Row) × (Option Addr) × Nat × (Nat → HF)) (fun t => [(5, (.slice t.2.1 t.1.length t.2.2.1))]) (fun t w1 => St NoS w w1 [rowR enc_Tile A_p0 c_p0 p0] [rowO 85 encN_Row t.2.1 t.2.2.1 (tag t.2.2.2 t.1), poolO [nestO subN_Row t.2.2.2 t.1]] ∧ x2096 = t.1) (fun Kx2096 => ?_) ?_
 ·
  refine WC.block ?_
  refine WC.loop (T := ((List Row) × Int) × (Option Addr) × Nat × (Nat → HF)) (fun t => [(5, (.slice t.2.1 t.1.1.length t.2.2.1)), (10, (.slice A1980 t1975.length c1981)), (11, (iv (t1975.length : Int))), (12, (iv t.1.2))]) (fun n t w1 => St NoS w w1 [rowR enc_Tile A_p0 c_p0 p0] [rowO 85 encN_Row t.2.1 t.2.2.1 (tag t.2.2.2 t.1.1), poolO [nestO subN_Row t.2.2.2 t.1.1, nestO subN_Row H1982 t1975], rowO 85 encN_Row A1980 c1981 (tag H1982 t1975)] ∧ torus_rings.l0 n t.1.1 t.1.2 t1975 = some x2096) k ((([] : List Row), 0), none, 0, h0) [5, 10, 11, 12] rfl ⟨(hS2086.subR [0]).sub [1, 0, 2] (by decide), hx2097⟩ ?_
  rintro k2098 ⟨⟨l2089, x2091⟩, A2087, c2088, H2090⟩ w2099 ⟨hS2100, hl2101⟩
  cases k2098 with
  | zero => rw [torus_rings.l0] at hl2101; cases hl2101
  | succ k2098 =>
   rw [torus_rings.l0] at hl2101
   refine WC.seq ?_
   refine WC.region ?_
   refine seg 1 [] [5, 10, 11, 12, 13] [(5, (.slice A2087 l2089.length c2088)), (10, (.slice A1980 t1975.length c1981)), (11, (iv (t1975.length : Int))), (12, (iv x2091)), (13, (.bool (decide (x2091 < (t1975.length : Int)))))] [] (fun fb => by kernel_rfl) rfl trivial ?_
   refine WL.done rfl ?_
   refine WX.next ?_
   refine WC.seq ?_
   rcases br_some hl2101 with ⟨h2102, hl2101⟩ | ⟨h2102, hl2101⟩
   ·refine WC.condT2 (fun fb => by kernel_rfl) h2102 ?_
    refine WC.skip ?_
    refine WX.next ?_
    refine WC.seq ?_
    refine WC.block ?_
    refine WC.seq ?_
    refine WC.region ?_
    obtain ⟨h2103, hl2101⟩ := as_some hl2101
    refine seg 2 [.v (.slice ((H1982 x2091.toNat 0).1) ((rdD t1975 x2091 z_Row).Cells).length ((H1982 x2091.toNat 0).2)), .v (iv (((rdD t1975 x2091 z_Row).South).e0)), .v (iv (((rdD t1975 x2091 z_Row).South).e1)), .v (iv (((rdD t1975 x2091 z_Row).South).e2)), .v (iv (((rdD t1975 x2091 z_Row).South).e3)), .v (iv (((rdD t1975 x2091 z_Row).South).e4)), .v (iv (((rdD t1975 x2091 z_Row).South).e5)), .v (iv (((rdD t1975 x2091 z_Row).South).e6)), .v (iv (((rdD t1975 x2091 z_Row).South).e7)), .v (iv (((rdD t1975 x2091 z_Row).North).e0)), .v (iv (((rdD t1975 x2091 z_Row).North).e1)), .v (iv (((rdD t1975 x2091 z_Row).North).e2)), .v (iv (((rdD t1975 x2091 z_Row).North).e3)), .v (iv (((rdD t1975 x2091 z_Row).North).e4)), .v (iv (((rdD t1975 x2091 z_Row).North).e5)), .v (iv (((rdD t1975 x2091 z_Row).North).e6)), .v (iv (((rdD t1975 x2091 z_Row).North).e7)), .v (iv ((rdD t1975 x2091 z_Row).West)), .v (iv ((rdD t1975 x2091 z_Row).East))] [5, 10, 11, 12, 15] [(5, (.slice A2087 l2089.length c2088)), (10, (.slice A1980 t1975.length c1981)), (11, (iv (t1975.length : Int))), (12, (iv x2091)), (15, (.agg #[(.slice ((H1982 x2091.toNat 0).1) ((rdD t1975 x2091 z_Row).Cells).length ((H1982 x2091.toNat 0).2)), (iv (((rdD t1975 x2091 z_Row).South).e0)), (iv (((rdD t1975 x2091 z_Row).South).e1)), (iv (((rdD t1975 x2091 z_Row).South).e2)), (iv (((rdD t1975 x2091 z_Row).South).e3)), (iv (((rdD t1975 x2091 z_Row).South).e4)), (iv (((rdD t1975 x2091 z_Row).South).e5)), (iv (((rdD t1975 x2091 z_Row).South).e6)), (iv (((rdD t1975 x2091 z_Row).South).e7)), (iv (((rdD t1975 x2091 z_Row).North).e0)), (iv (((rdD t1975 x2091 z_Row).North).e1)), (iv (((rdD t1975 x2091 z_Row).North).e2)), (iv (((rdD t1975 x2091 z_Row).North).e3)), (iv (((rdD t1975 x2091 z_Row).North).e4)), (iv (((rdD t1975 x2091 z_Row).North).e5)), (iv (((rdD t1975 x2091 z_Row).North).e6)), (iv (((rdD t1975 x2091 z_Row).North).e7)), (iv ((rdD t1975 x2091 z_Row).West)), (iv ((rdD t1975 x2091 z_Row).East))]))] [.idx A1980 x2091 t1975.length, .cell ((adr A1980).add ((x2091).toNat * 19)) (.slice ((H1982 x2091.toNat 0).1) ((rdD t1975 x2091 z_Row).Cells).length ((H1982 x2091.toNat 0).2)), .cell (((adr A1980).add ((x2091).toNat * 19)).add 1) (iv (((rdD t1975 x2091 z_Row).South).e0)), .cell (((adr A1980).add ((x2091).toNat * 19)).add 2) (iv (((rdD t1975 x2091 z_Row).South).e1)), .cell (((adr A1980).add ((x2091).toNat * 19)).add 3) (iv (((rdD t1975 x2091 z_Row).South).e2)), .cell (((adr A1980).add ((x2091).toNat * 19)).add 4) (iv (((rdD t1975 x2091 z_Row).South).e3)), .cell (((adr A1980).add ((x2091).toNat * 19)).add 5) (iv (((rdD t1975 x2091 z_Row).South).e4)), .cell (((adr A1980).add ((x2091).toNat * 19)).add 6) (iv (((rdD t1975 x2091 z_Row).South).e5)), .cell (((adr A1980).add ((x2091).toNat * 19)).add 7) (iv (((rdD t1975 x2091 z_Row).South).e6)), .cell (((adr A1980).add ((x2091).toNat * 19)).add 8) (iv (((rdD t1975 x2091 z_Row).South).e7)), .cell (((adr A1980).add ((x2091).toNat * 19)).add 9) (iv (((rdD t1975 x2091 z_Row).North).e0)), .cell (((adr A1980).add ((x2091).toNat * 19)).add 10) (iv (((rdD t1975 x2091 z_Row).North).e1)), .cell (((adr A1980).add ((x2091).toNat * 19)).add 11) (iv (((rdD t1975 x2091 z_Row).North).e2)), .cell (((adr A1980).add ((x2091).toNat * 19)).add 12) (iv (((rdD t1975 x2091 z_Row).North).e3)), .cell (((adr A1980).add ((x2091).toNat * 19)).add 13) (iv (((rdD t1975 x2091 z_Row).North).e4)), .cell (((adr A1980).add ((x2091).toNat * 19)).add 14) (iv (((rdD t1975 x2091 z_Row).North).e5)), .cell (((adr A1980).add ((x2091).toNat * 19)).add 15) (iv (((rdD t1975 x2091 z_Row).North).e6)), .cell (((adr A1980).add ((x2091).toNat * 19)).add 16) (iv (((rdD t1975 x2091 z_Row).North).e7)), .cell (((adr A1980).add ((x2091).toNat * 19)).add 17) (iv ((rdD t1975 x2091 z_Row).West)), .cell (((adr A1980).add ((x2091).toNat * 19)).add 18) (iv ((rdD t1975 x2091 z_Row).East))] (fun fb => by kernel_rfl) rfl ⟨nrow_adr (rowO.rd (hS2100.own 2).1) h2103.1 h2103.2, nrow_cell (rowO.rd (hS2100.own 2).1) z_Row h2103.1 h2103.2 0 rfl, nrow_cell (rowO.rd (hS2100.own 2).1) z_Row h2103.1 h2103.2 1 rfl, nrow_cell (rowO.rd (hS2100.own 2).1) z_Row h2103.1 h2103.2 2 rfl, nrow_cell (rowO.rd (hS2100.own 2).1) z_Row h2103.1 h2103.2 3 rfl, nrow_cell (rowO.rd (hS2100.own 2).1) z_Row h2103.1 h2103.2 4 rfl, nrow_cell (rowO.rd (hS2100.own 2).1) z_Row h2103.1 h2103.2 5 rfl, nrow_cell (rowO.rd (hS2100.own 2).1) z_Row h2103.1 h2103.2 6 rfl, nrow_cell (rowO.rd (hS2100.own 2).1) z_Row h2103.1 h2103.2 7 rfl, nrow_cell (rowO.rd (hS2100.own 2).1) z_Row h2103.1 h2103.2 8 rfl, nrow_cell (rowO.rd (hS2100.own 2).1) z_Row h2103.1 h2103.2 9 rfl, nrow_cell (rowO.rd (hS2100.own 2).1) z_Row h2103.1 h2103.2 10 rfl, nrow_cell (rowO.rd (hS2100.own 2).1) z_Row h2103.1 h2103.2 11 rfl, nrow_cell (rowO.rd (hS2100.own 2).1) z_Row h2103.1 h2103.2 12 rfl, nrow_cell (rowO.rd (hS2100.own 2).1) z_Row h2103.1 h2103.2 13 rfl, nrow_cell (rowO.rd (hS2100.own 2).1) z_Row h2103.1 h2103.2 14 rfl, nrow_cell (rowO.rd (hS2100.own 2).1) z_Row h2103.1 h2103.2 15 rfl, nrow_cell (rowO.rd (hS2100.own 2).1) z_Row h2103.1 h2103.2 16 rfl, nrow_cell (rowO.rd (hS2100.own 2).1) z_Row h2103.1 h2103.2 17 rfl, nrow_cell (rowO.rd (hS2100.own 2).1) z_Row h2103.1 h2103.2 18 rfl, trivial⟩ ?_
    refine WL.new hS2100 7 [] (fun g => (.pointer (some ⟨g, 0, none⟩))) (.cells #[(.slice none 0 0), (iv 0), (iv 0), (iv 0), (iv 0), (iv 0), (iv 0), (iv 0), (iv 0), (iv 0), (iv 0), (iv 0), (iv 0), (iv 0), (iv 0), (iv 0), (iv 0), (iv 0), (iv 0)] 85 (0, 0)) [] (fun fb g => by kernel_rfl) trivial (fun g2104 w2105 hS2106 => ?_)
    refine ⟨trivial, ?_⟩
    refine WL.store hS2106 0 rfl [(0, (.slice ((H1982 x2091.toNat 0).1) ((rdD t1975 x2091 z_Row).Cells).length ((H1982 x2091.toNat 0).2))), (1, (iv (((rdD t1975 x2091 z_Row).South).e0))), (2, (iv (((rdD t1975 x2091 z_Row).South).e1))), (3, (iv (((rdD t1975 x2091 z_Row).South).e2))), (4, (iv (((rdD t1975 x2091 z_Row).South).e3))), (5, (iv (((rdD t1975 x2091 z_Row).South).e4))), (6, (iv (((rdD t1975 x2091 z_Row).South).e5))), (7, (iv (((rdD t1975 x2091 z_Row).South).e6))), (8, (iv (((rdD t1975 x2091 z_Row).South).e7))), (9, (iv (((rdD t1975 x2091 z_Row).North).e0))), (10, (iv (((rdD t1975 x2091 z_Row).North).e1))), (11, (iv (((rdD t1975 x2091 z_Row).North).e2))), (12, (iv (((rdD t1975 x2091 z_Row).North).e3))), (13, (iv (((rdD t1975 x2091 z_Row).North).e4))), (14, (iv (((rdD t1975 x2091 z_Row).North).e5))), (15, (iv (((rdD t1975 x2091 z_Row).North).e6))), (16, (iv (((rdD t1975 x2091 z_Row).North).e7))), (17, (iv ((rdD t1975 x2091 z_Row).West))), (18, (iv ((rdD t1975 x2091 z_Row).East)))] #[(.slice ((H1982 x2091.toNat 0).1) ((rdD t1975 x2091 z_Row).Cells).length ((H1982 x2091.toNat 0).2)), (iv (((rdD t1975 x2091 z_Row).South).e0)), (iv (((rdD t1975 x2091 z_Row).South).e1)), (iv (((rdD t1975 x2091 z_Row).South).e2)), (iv (((rdD t1975 x2091 z_Row).South).e3)), (iv (((rdD t1975 x2091 z_Row).South).e4)), (iv (((rdD t1975 x2091 z_Row).South).e5)), (iv (((rdD t1975 x2091 z_Row).South).e6)), (iv (((rdD t1975 x2091 z_Row).South).e7)), (iv (((rdD t1975 x2091 z_Row).North).e0)), (iv (((rdD t1975 x2091 z_Row).North).e1)), (iv (((rdD t1975 x2091 z_Row).North).e2)), (iv (((rdD t1975 x2091 z_Row).North).e3)), (iv (((rdD t1975 x2091 z_Row).North).e4)), (iv (((rdD t1975 x2091 z_Row).North).e5)), (iv (((rdD t1975 x2091 z_Row).North).e6)), (iv (((rdD t1975 x2091 z_Row).North).e7)), (iv ((rdD t1975 x2091 z_Row).West)), (iv ((rdD t1975 x2091 z_Row).East))] (fun fb => by kernel_rfl) (by kernel_rfl) (by kernel_rfl) [1, 2, 3] (by decide) (by decide) (fun w2108 hS2109 => ?_)
    refine ⟨trivial, ?_⟩
    refine WL.done rfl ?_
    refine WX.next ?_
    refine WC.seq ?_
    refine WC.region ?_
    refine seg 5 [.v (iv ((rdD t1975 x2091 z_Row).West)), .v (iv ((rdD t1975 x2091 z_Row).East))] [5, 7, 10, 11, 12, 20] [(5, (.slice A2087 l2089.length c2088)), (7, (pt g2104)), (10, (.slice A1980 t1975.length c1981)), (11, (iv (t1975.length : Int))), (12, (iv x2091)), (20, (.bool (((rdD t1975 x2091 z_Row).West) == ((rdD t1975 x2091 z_Row).East))))] [.cell ⟨g2104, 17, none⟩ (iv ((rdD t1975 x2091 z_Row).West)), .cell ⟨g2104, 18, none⟩ (iv ((rdD t1975 x2091 z_Row).East))] (fun fb => by kernel_rfl) rfl ⟨hS2109.cell 0 rfl 17 rfl, hS2109.cell 0 rfl 18 rfl, trivial⟩ ?_
    refine WL.done rfl ?_
    refine WX.next ?_
    obtain ⟨x2126, hx2127, hl2101⟩ := bind_some hl2101
    refine WC.cutN (T := (List Row) × (Option Addr) × Nat × (Nat → HF)) (fun t => [(5, (.slice t.2.1 t.1.length t.2.2.1)), (10, (.slice A1980 t1975.length c1981)), (11, (iv (t1975.length : Int))), (12, (iv x2091))]) (fun t w1 => St NoS w w1 [rowR enc_Tile A_p0 c_p0 p0] [rowO 85 encN_Row t.2.1 t.2.2.1 (tag t.2.2.2 t.1), poolO [nestO subN_Row t.2.2.2 t.1, nestO subN_Row H1982 t1975], rowO 85 encN_Row A1980 c1981 (tag H1982 t1975)] ∧ x2126 = t.1) (fun Kx2126 => ?_) ?_
    ·
     rcases br_some hx2127 with ⟨h2128, hx2127⟩ | ⟨h2128, hx2127⟩
     ·refine WC.condT2 (fun fb => by kernel_rfl) h2128 ?_
      refine WC.region ?_
      refine seg 2 [.v (.slice ((H1982 x2091.toNat 0).1) ((rdD t1975 x2091 z_Row).Cells).length ((H1982 x2091.toNat 0).2)), .v (iv (((rdD t1975 x2091 z_Row).South).e0)), .v (iv (((rdD t1975 x2091 z_Row).South).e1)), .v (iv (((rdD t1975 x2091 z_Row).South).e2)), .v (iv (((rdD t1975 x2091 z_Row).South).e3)), .v (iv (((rdD t1975 x2091 z_Row).South).e4)), .v (iv (((rdD t1975 x2091 z_Row).South).e5)), .v (iv (((rdD t1975 x2091 z_Row).South).e6)), .v (iv (((rdD t1975 x2091 z_Row).South).e7)), .v (iv (((rdD t1975 x2091 z_Row).North).e0)), .v (iv (((rdD t1975 x2091 z_Row).North).e1)), .v (iv (((rdD t1975 x2091 z_Row).North).e2)), .v (iv (((rdD t1975 x2091 z_Row).North).e3)), .v (iv (((rdD t1975 x2091 z_Row).North).e4)), .v (iv (((rdD t1975 x2091 z_Row).North).e5)), .v (iv (((rdD t1975 x2091 z_Row).North).e6)), .v (iv (((rdD t1975 x2091 z_Row).North).e7)), .v (iv ((rdD t1975 x2091 z_Row).West)), .v (iv ((rdD t1975 x2091 z_Row).East))] [10, 11, 12, 21, 22] [(10, (.slice A1980 t1975.length c1981)), (11, (iv (t1975.length : Int))), (12, (iv x2091)), (21, (.slice A2087 l2089.length c2088)), (22, (.agg #[(.slice ((H1982 x2091.toNat 0).1) ((rdD t1975 x2091 z_Row).Cells).length ((H1982 x2091.toNat 0).2)), (iv (((rdD t1975 x2091 z_Row).South).e0)), (iv (((rdD t1975 x2091 z_Row).South).e1)), (iv (((rdD t1975 x2091 z_Row).South).e2)), (iv (((rdD t1975 x2091 z_Row).South).e3)), (iv (((rdD t1975 x2091 z_Row).South).e4)), (iv (((rdD t1975 x2091 z_Row).South).e5)), (iv (((rdD t1975 x2091 z_Row).South).e6)), (iv (((rdD t1975 x2091 z_Row).South).e7)), (iv (((rdD t1975 x2091 z_Row).North).e0)), (iv (((rdD t1975 x2091 z_Row).North).e1)), (iv (((rdD t1975 x2091 z_Row).North).e2)), (iv (((rdD t1975 x2091 z_Row).North).e3)), (iv (((rdD t1975 x2091 z_Row).North).e4)), (iv (((rdD t1975 x2091 z_Row).North).e5)), (iv (((rdD t1975 x2091 z_Row).North).e6)), (iv (((rdD t1975 x2091 z_Row).North).e7)), (iv ((rdD t1975 x2091 z_Row).West)), (iv ((rdD t1975 x2091 z_Row).East))]))] [.cell ⟨g2104, 0, none⟩ (.slice ((H1982 x2091.toNat 0).1) ((rdD t1975 x2091 z_Row).Cells).length ((H1982 x2091.toNat 0).2)), .cell ⟨g2104, 1, none⟩ (iv (((rdD t1975 x2091 z_Row).South).e0)), .cell ⟨g2104, 2, none⟩ (iv (((rdD t1975 x2091 z_Row).South).e1)), .cell ⟨g2104, 3, none⟩ (iv (((rdD t1975 x2091 z_Row).South).e2)), .cell ⟨g2104, 4, none⟩ (iv (((rdD t1975 x2091 z_Row).South).e3)), .cell ⟨g2104, 5, none⟩ (iv (((rdD t1975 x2091 z_Row).South).e4)), .cell ⟨g2104, 6, none⟩ (iv (((rdD t1975 x2091 z_Row).South).e5)), .cell ⟨g2104, 7, none⟩ (iv (((rdD t1975 x2091 z_Row).South).e6)), .cell ⟨g2104, 8, none⟩ (iv (((rdD t1975 x2091 z_Row).South).e7)), .cell ⟨g2104, 9, none⟩ (iv (((rdD t1975 x2091 z_Row).North).e0)), .cell ⟨g2104, 10, none⟩ (iv (((rdD t1975 x2091 z_Row).North).e1)), .cell ⟨g2104, 11, none⟩ (iv (((rdD t1975 x2091 z_Row).North).e2)), .cell ⟨g2104, 12, none⟩ (iv (((rdD t1975 x2091 z_Row).North).e3)), .cell ⟨g2104, 13, none⟩ (iv (((rdD t1975 x2091 z_Row).North).e4)), .cell ⟨g2104, 14, none⟩ (iv (((rdD t1975 x2091 z_Row).North).e5)), .cell ⟨g2104, 15, none⟩ (iv (((rdD t1975 x2091 z_Row).North).e6)), .cell ⟨g2104, 16, none⟩ (iv (((rdD t1975 x2091 z_Row).North).e7)), .cell ⟨g2104, 17, none⟩ (iv ((rdD t1975 x2091 z_Row).West)), .cell ⟨g2104, 18, none⟩ (iv ((rdD t1975 x2091 z_Row).East))] (fun fb => by kernel_rfl) rfl ⟨hS2109.cell 0 rfl 0 rfl, hS2109.cell 0 rfl 1 rfl, hS2109.cell 0 rfl 2 rfl, hS2109.cell 0 rfl 3 rfl, hS2109.cell 0 rfl 4 rfl, hS2109.cell 0 rfl 5 rfl, hS2109.cell 0 rfl 6 rfl, hS2109.cell 0 rfl 7 rfl, hS2109.cell 0 rfl 8 rfl, hS2109.cell 0 rfl 9 rfl, hS2109.cell 0 rfl 10 rfl, hS2109.cell 0 rfl 11 rfl, hS2109.cell 0 rfl 12 rfl, hS2109.cell 0 rfl 13 rfl, hS2109.cell 0 rfl 14 rfl, hS2109.cell 0 rfl 15 rfl, hS2109.cell 0 rfl 16 rfl, hS2109.cell 0 rfl 17 rfl, hS2109.cell 0 rfl 18 rfl, trivial⟩ ?_
      refine WL.new hS2109 23 [] (fun g => (.slice (some ⟨g, 0, none⟩) 1 1)) (.cells #[(.slice ((H1982 x2091.toNat 0).1) ((rdD t1975 x2091 z_Row).Cells).length ((H1982 x2091.toNat 0).2)), (iv (((rdD t1975 x2091 z_Row).South).e0)), (iv (((rdD t1975 x2091 z_Row).South).e1)), (iv (((rdD t1975 x2091 z_Row).South).e2)), (iv (((rdD t1975 x2091 z_Row).South).e3)), (iv (((rdD t1975 x2091 z_Row).South).e4)), (iv (((rdD t1975 x2091 z_Row).South).e5)), (iv (((rdD t1975 x2091 z_Row).South).e6)), (iv (((rdD t1975 x2091 z_Row).South).e7)), (iv (((rdD t1975 x2091 z_Row).North).e0)), (iv (((rdD t1975 x2091 z_Row).North).e1)), (iv (((rdD t1975 x2091 z_Row).North).e2)), (iv (((rdD t1975 x2091 z_Row).North).e3)), (iv (((rdD t1975 x2091 z_Row).North).e4)), (iv (((rdD t1975 x2091 z_Row).North).e5)), (iv (((rdD t1975 x2091 z_Row).North).e6)), (iv (((rdD t1975 x2091 z_Row).North).e7)), (iv ((rdD t1975 x2091 z_Row).West)), (iv ((rdD t1975 x2091 z_Row).East))] 85 (0, 0)) [] (fun fb g => by kernel_rfl) trivial (fun g2129 w2130 hS2131 => ?_)
      refine ⟨trivial, ?_⟩
      have hS2133 : St NoS w w2130 [rowR enc_Tile A_p0 c_p0 p0] [rowO 85 encN_Row (some ⟨g2129, 0, none⟩) 1 [((hd1 ((H1982 x2091.toNat 0).1) ((H1982 x2091.toNat 0).2)), (rdD t1975 x2091 z_Row))], blk g2104 (.cells #[(.slice ((H1982 x2091.toNat 0).1) ((rdD t1975 x2091 z_Row).Cells).length ((H1982 x2091.toNat 0).2)), (iv (((rdD t1975 x2091 z_Row).South).e0)), (iv (((rdD t1975 x2091 z_Row).South).e1)), (iv (((rdD t1975 x2091 z_Row).South).e2)), (iv (((rdD t1975 x2091 z_Row).South).e3)), (iv (((rdD t1975 x2091 z_Row).South).e4)), (iv (((rdD t1975 x2091 z_Row).South).e5)), (iv (((rdD t1975 x2091 z_Row).South).e6)), (iv (((rdD t1975 x2091 z_Row).South).e7)), (iv (((rdD t1975 x2091 z_Row).North).e0)), (iv (((rdD t1975 x2091 z_Row).North).e1)), (iv (((rdD t1975 x2091 z_Row).North).e2)), (iv (((rdD t1975 x2091 z_Row).North).e3)), (iv (((rdD t1975 x2091 z_Row).North).e4)), (iv (((rdD t1975 x2091 z_Row).North).e5)), (iv (((rdD t1975 x2091 z_Row).North).e6)), (iv (((rdD t1975 x2091 z_Row).North).e7)), (iv ((rdD t1975 x2091 z_Row).West)), (iv ((rdD t1975 x2091 z_Row).East))] 85 (0, 0)), rowO 85 encN_Row A2087 c2088 (tag H2090 l2089), poolO [nestO subN_Row H2090 l2089, nestO subN_Row H1982 t1975], rowO 85 encN_Row A1980 c1981 (tag H1982 t1975)] := hS2131.map1 0 _ (fun h => rowO.ofBlk h rfl (Nat.le_of_ble_eq_true (by kernel_rfl))) (fun _ h => by obtain ⟨_, h1, h2⟩ := h; injection h1 with h1; subst h1; exact h2) [1, 2, 3, 4] (by decide) (by decide)
      obtain ⟨h2134, hx2127⟩ := as_some hx2127
      refine WL.appendN hS2133 2 (d := 24) (tS := 79) (z := (.agg #[(.slice none 0 0), (iv 0), (iv 0), (iv 0), (iv 0), (iv 0), (iv 0), (iv 0), (iv 0), (iv 0), (iv 0), (iv 0), (iv 0), (iv 0), (iv 0), (iv 0), (iv 0), (iv 0), (iv 0)])) (bytes := 168) (c2 := 1) (hx := (hd1 ((H1982 x2091.toNat 0).1) ((H1982 x2091.toNat 0).2))) (x := (rdD t1975 x2091 z_Row)) rfl (fun fb => by kernel_rfl) (rowO.rd (hS2133.own 0).1) (by kernel_rfl) (by kernel_rfl) rfl (by decide) h2134 (by decide) [0, 1, 3, 4] (by decide) (by decide) (fun A2135 c2136 w2137 hS2138 => ?_)
      have hS2139 : St NoS w w2137 [rowR enc_Tile A_p0 c_p0 p0] [poolO [nestO subN_Row (updH H2090 l2089.length (hd1 ((H1982 x2091.toNat 0).1) ((H1982 x2091.toNat 0).2))) (l2089 ++ [(rdD t1975 x2091 z_Row)]), nestO subN_Row H1982 t1975], rowO 85 encN_Row A2135 c2136 (tag (updH H2090 l2089.length (hd1 ((H1982 x2091.toNat 0).1) ((H1982 x2091.toNat 0).2))) (l2089 ++ [(rdD t1975 x2091 z_Row)])), rowO 85 encN_Row (some ⟨g2129, 0, none⟩) 1 [((hd1 ((H1982 x2091.toNat 0).1) ((H1982 x2091.toNat 0).2)), (rdD t1975 x2091 z_Row))], blk g2104 (.cells #[(.slice ((H1982 x2091.toNat 0).1) ((rdD t1975 x2091 z_Row).Cells).length ((H1982 x2091.toNat 0).2)), (iv (((rdD t1975 x2091 z_Row).South).e0)), (iv (((rdD t1975 x2091 z_Row).South).e1)), (iv (((rdD t1975 x2091 z_Row).South).e2)), (iv (((rdD t1975 x2091 z_Row).South).e3)), (iv (((rdD t1975 x2091 z_Row).South).e4)), (iv (((rdD t1975 x2091 z_Row).South).e5)), (iv (((rdD t1975 x2091 z_Row).South).e6)), (iv (((rdD t1975 x2091 z_Row).South).e7)), (iv (((rdD t1975 x2091 z_Row).North).e0)), (iv (((rdD t1975 x2091 z_Row).North).e1)), (iv (((rdD t1975 x2091 z_Row).North).e2)), (iv (((rdD t1975 x2091 z_Row).North).e3)), (iv (((rdD t1975 x2091 z_Row).North).e4)), (iv (((rdD t1975 x2091 z_Row).North).e5)), (iv (((rdD t1975 x2091 z_Row).North).e6)), (iv (((rdD t1975 x2091 z_Row).North).e7)), (iv ((rdD t1975 x2091 z_Row).West)), (iv ((rdD t1975 x2091 z_Row).East))] 85 (0, 0)), rowO 85 encN_Row A1980 c1981 (tag H1982 t1975)] := hS2138.poolPush 3 rfl 0 (by simp) rfl (hd1 ((H1982 x2091.toNat 0).1) ((H1982 x2091.toNat 0).2)) (rdD t1975 x2091 z_Row) (nestO.ro (poolO.ro (hS2138.ow 3) 1) z_Row h2103.1 h2103.2) [] (fun g hg => ⟨3, by simp, ⟨1, ⟨_, _, rdD_at (d := z_Row) h2103.1 h2103.2, hg⟩⟩⟩) _ rfl [0, 1, 2, 4] (by decide) (by decide)
      refine ⟨trivial, ?_⟩
      refine seg 5 [] [5, 10, 11, 12] [(5, (.slice A2135 (l2089 ++ [(rdD t1975 x2091 z_Row)]).length c2136)), (10, (.slice A1980 t1975.length c1981)), (11, (iv (t1975.length : Int))), (12, (iv x2091))] [] (fun fb => by kernel_rfl) rfl trivial ?_
      refine WL.done rfl ?_
      injection hx2127 with hx2127
      exact WX.to Kx2126 (l2089 ++ [(rdD t1975 x2091 z_Row)], A2135, c2136, (updH H2090 l2089.length (hd1 ((H1982 x2091.toNat 0).1) ((H1982 x2091.toNat 0).2)))) [5, 10, 11, 12] rfl ⟨(hS2139.subR [0]).sub [1, 0, 4] (by decide), hx2127.symm⟩
     refine WC.condF2 (fun fb => by kernel_rfl) h2128 ?_
     refine WC.skip ?_
     injection hx2127 with hx2127
     exact WX.to Kx2126 (l2089, A2087, c2088, H2090) [5, 10, 11, 12] rfl ⟨(hS2109.subR [0]).sub [1, 2, 3] (by decide), hx2127.symm⟩
    rintro ⟨y2143, A2122, c2123, H2125⟩ w2140 ⟨hS2141, hq2142⟩
    subst hq2142
    refine WX.blockN (WX.next ?_)
    refine WC.region ?_
    refine seg 2 [] [5, 10, 11, 12] [(5, (.slice A2122 x2126.length c2123)), (10, (.slice A1980 t1975.length c1981)), (11, (iv (t1975.length : Int))), (12, (iv (w64 (x2091 + 1))))] [] (fun fb => by kernel_rfl) rfl trivial ?_
    refine WL.done rfl ?_
    exact WX.again k2098 (Nat.lt_succ_self _) ((x2126, w64 (x2091 + 1)), A2122, c2123, H2125) [5, 10, 11, 12] rfl ⟨(hS2141.subR [0]).sub [0, 1, 2] (by decide), hl2101⟩
   refine WC.condF2 (fun fb => by kernel_rfl) h2102 ?_
   refine WC.exit ?_
   have hS2144 : St NoS w w2099 [rowR enc_Tile A_p0 c_p0 p0] [poolO [nestO subN_Row H2090 l2089], rowO 85 encN_Row A2087 c2088 (tag H2090 l2089), rowO 85 encN_Row A1980 c1981 (tag H1982 t1975)] := hS2100.poolSub 1 rfl [0] [0, 2] (by decide) (by decide)
   injection hl2101 with hl2101
   exact WX.thenX (WX.thenX (WX.blockHere (WX.to Kx2096 (l2089, A2087, c2088, H2090) [5] rfl ⟨(hS2144.subR [0]).sub [1, 0] (by decide), hl2101.symm⟩)))
 rintro ⟨y2148, A2092, c2093, H2095⟩ w2145 ⟨hS2146, hq2147⟩
 subst hq2147
 refine WX.next ?_
 refine WC.seq ?_
 refine WC.region ?_
 refine seg 2 [] [4] [(4, (.slice A2092 x2096.length c2093))] [] (fun fb => by kernel_rfl) rfl trivial ?_
 refine WL.done rfl ?_
 refine WX.next ?_
 refine WC.ret ?_
 injection hf with hf
 subst hf
 exact WX.ret_ [] (.slice A2092 x2096.length c2093) [] (fun fb => by kernel_rfl) trivial ⟨_, rfl, A2092, c2093, H2095, rfl, (hS2146.sub [0, 1] (by decide)).noR⟩
theorem torus_back_key83 : KeyK Tryd.prog 83 (aggI ints_A8_Int) := KeyK.array (n := 8) (by kernel_rfl) ints_A8_Int (fun _ => rfl) (fun x y h => by cases x; cases y; simp only [ints_A8_Int, List.cons.injEq, and_true] at h; obtain ⟨rfl, rfl, rfl, rfl, rfl, rfl, rfl, rfl⟩ := h; rfl)
theorem torus_back_calls (k : Nat) (p0 : List Row) (p1 : A8_Int) (p2 : Int) (A_p0 : Option Addr) (c_p0 : Nat) (H_p0 : Nat → HF) (r : (List (Option (List (A8_Int × Bool))))) (w : World) (hR0 : RO NoS w (rowR encN_Row A_p0 c_p0 (tag H_p0 p0))) (hR1 : RO NoS w (nestO subN_Row H_p0 p0)) (hf : torus_back k p0 p1 p2 = some r) :
  CallsR Tryd.prog 82 #[(.slice A_p0 p0.length c_p0), (.agg #[(iv p1.e0), (iv p1.e1), (iv p1.e2), (iv p1.e3), (iv p1.e4), (iv p1.e5), (iv p1.e6), (iv p1.e7)]), (iv p2)] w (fun v w' => ∃ (A1_ : Option Addr), ∃ (c1_ : Nat), ∃ (m1_ : Nat → Nat), v = (.slice A1_ r.length c1_) ∧ St NoS w w' [] [rowO 91 (encMap A8_Int Bool) A1_ c1_ (tag m1_ r), mapsO (aggI ints_A8_Int) vB m1_ r]) := by
 have hS : St NoS w w [rowR encN_Row A_p0 c_p0 (tag H_p0 p0), nestO subN_Row H_p0 p0] [] := St.init (ro_cons hR0 (ro_cons hR1 (ro_nil _ _)))
 refine enter 46 Tryd.func82 rfl Tryd.ntmps82 rfl ?_
 unfold torus_back at hf
 refine WC.seq ?_
 refine WC.region ?_
 refine WL.new hS 4 [] (fun g => (.pointer (some ⟨g, 0, none⟩))) (.cells #[(iv p1.e0), (iv p1.e1), (iv p1.e2), (iv p1.e3), (iv p1.e4), (iv p1.e5), (iv p1.e6), (iv p1.e7)] 83 (0, 0)) [] (fun fb g => by kernel_rfl) trivial (fun g2178 w2179 hS2180 => ?_)
 refine ⟨trivial, ?_⟩
 refine seg 2 [] [0, 2, 4] [(0, (.slice A_p0 p0.length c_p0)), (2, (iv p2)), (4, (pt g2178))] [] (fun fb => by kernel_rfl) rfl trivial ?_
 refine WL.done rfl ?_
 refine WX.next ?_
 refine WC.seq ?_
 refine WC.region ?_
 refine WL.new hS2180 12 [] (fun g => (.map (some g))) (mapObj (aggI ints_A8_Int) vB ([] : List (A8_Int × Bool))) [] (fun fb g => by kernel_rfl) trivial (fun g2182 w2183 hS2184 => ?_)
 refine ⟨trivial, ?_⟩
 refine seg 2 [.v (iv p1.e0), .v (iv p1.e1), .v (iv p1.e2), .v (iv p1.e3), .v (iv p1.e4), .v (iv p1.e5), .v (iv p1.e6), .v (iv p1.e7)] [0, 2, 12, 13] [(0, (.slice A_p0 p0.length c_p0)), (2, (iv p2)), (12, (.map (some g2182))), (13, (.agg #[(iv p1.e0), (iv p1.e1), (iv p1.e2), (iv p1.e3), (iv p1.e4), (iv p1.e5), (iv p1.e6), (iv p1.e7)]))] [.cell ⟨g2178, 0, none⟩ (iv p1.e0), .cell ⟨g2178, 1, none⟩ (iv p1.e1), .cell ⟨g2178, 2, none⟩ (iv p1.e2), .cell ⟨g2178, 3, none⟩ (iv p1.e3), .cell ⟨g2178, 4, none⟩ (iv p1.e4), .cell ⟨g2178, 5, none⟩ (iv p1.e5), .cell ⟨g2178, 6, none⟩ (iv p1.e6), .cell ⟨g2178, 7, none⟩ (iv p1.e7)] (fun fb => by kernel_rfl) rfl ⟨hS2184.cell 1 rfl 0 rfl, hS2184.cell 1 rfl 1 rfl, hS2184.cell 1 rfl 2 rfl, hS2184.cell 1 rfl 3 rfl, hS2184.cell 1 rfl 4 rfl, hS2184.cell 1 rfl 5 rfl, hS2184.cell 1 rfl 6 rfl, hS2184.cell 1 rfl 7 rfl, trivial⟩ ?_
 refine WL.mapput hS2184 0 (t := 91) (kT := 83) (eT := 4) (kE := (aggI ints_A8_Int)) (vE := vB) (l := ([] : List (A8_Int × Bool))) rfl p1 true (fun fb => by kernel_rfl) torus_back_key83 (by kernel_rfl) [1] (by decide) (by decide) (fun w2185 hS2186 => ?_)
 refine ⟨trivial, ?_⟩
 refine seg 4 [] [0, 2, 14] [(0, (.slice A_p0 p0.length c_p0)), (2, (iv p2)), (14, (.map (some g2182)))] [] (fun fb => by kernel_rfl) rfl trivial ?_
 refine WL.new hS2186 15 [] (fun g => (.slice (some ⟨g, 0, none⟩) 1 1)) (.cells #[(.map (some g2182))] 91 (0, 0)) [] (fun fb g => by kernel_rfl) trivial (fun g2187 w2188 hS2189 => ?_)
 refine ⟨trivial, ?_⟩
 have hS2191 : St NoS w w2188 [rowR encN_Row A_p0 c_p0 (tag H_p0 p0), nestO subN_Row H_p0 p0] [rowO 91 (encMap A8_Int Bool) (some ⟨g2187, 0, none⟩) 1 (tag (fun _ => g2182) [some (mput p1 true ([] : List (A8_Int × Bool)))]), blk g2182 (mapObj (aggI ints_A8_Int) vB (mput p1 true ([] : List (A8_Int × Bool)))), blk g2178 (.cells #[(iv p1.e0), (iv p1.e1), (iv p1.e2), (iv p1.e3), (iv p1.e4), (iv p1.e5), (iv p1.e6), (iv p1.e7)] 83 (0, 0))] := hS2189.map1 0 _ (fun h => rowO.ofBlk h rfl (Nat.le_of_ble_eq_true (by kernel_rfl))) (fun _ h => by obtain ⟨_, h1, h2⟩ := h; injection h1 with h1; subst h1; exact h2) [1, 2] (by decide) (by decide)
 have hS2192 : St NoS w w2188 [rowR encN_Row A_p0 c_p0 (tag H_p0 p0), nestO subN_Row H_p0 p0] [mapsO (aggI ints_A8_Int) vB (fun _ => g2182) [some (mput p1 true ([] : List (A8_Int × Bool)))], rowO 91 (encMap A8_Int Bool) (some ⟨g2187, 0, none⟩) 1 (tag (fun _ => g2182) [some (mput p1 true ([] : List (A8_Int × Bool)))]), blk g2178 (.cells #[(iv p1.e0), (iv p1.e1), (iv p1.e2), (iv p1.e3), (iv p1.e4), (iv p1.e5), (iv p1.e6), (iv p1.e7)] 83 (0, 0))] := hS2191.mapsOne 1 rfl [0, 2] (by decide) (by decide)
 refine seg 6 [] [0, 2, 7] [(0, (.slice A_p0 p0.length c_p0)), (2, (iv p2)), (7, (.slice (some ⟨g2187, 0, none⟩) [some (mput p1 true ([] : List (A8_Int × Bool)))].length 1))] [] (fun fb => by kernel_rfl) rfl trivial ?_
 refine WL.done rfl ?_
 refine WX.next ?_
 refine WC.seq ?_
 refine WC.seq ?_
 refine WC.region ?_
 refine seg 2 [] [0, 7, 16, 17] [(0, (.slice A_p0 p0.length c_p0)), (7, (.slice (some ⟨g2187, 0, none⟩) [some (mput p1 true ([] : List (A8_Int × Bool)))].length 1)), (16, (iv p2)), (17, (iv 0))] [] (fun fb => by kernel_rfl) rfl trivial ?_
 refine WL.done rfl ?_
 refine WX.next ?_
 obtain ⟨x2401, hx2402, hf⟩ := bind_some hf
 refine WC.cutN (T := (List (Option (List (A8_Int × Bool)))) × (Option Addr) × Nat × (Nat → Nat)) (fun t => [(7, (.slice t.2.1 t.1.length t.2.2.1))]) (fun t w1 => St NoS w w1 [rowR encN_Row A_p0 c_p0 (tag H_p0 p0), nestO subN_Row H_p0 p0] [rowO 91 (encMap A8_Int Bool) t.2.1 t.2.2.1 (tag t.2.2.2 t.1), mapsO (aggI ints_A8_Int) vB t.2.2.2 t.1] ∧ x2401 = t.1) (fun Kx2401 => ?_) ?_
 ·
  refine WC.block ?_
  refine WC.loop (T := ((List (Option (List (A8_Int × Bool)))) × Int) × (Option Addr) × Nat × (Nat → Nat)) (fun t => [(0, (.slice A_p0 p0.length c_p0)), (7, (.slice t.2.1 t.1.1.length t.2.2.1)), (16, (iv p2)), (17, (iv t.1.2))]) (fun n t w1 => St NoS w w1 [rowR encN_Row A_p0 c_p0 (tag H_p0 p0), nestO subN_Row H_p0 p0] [rowO 91 (encMap A8_Int Bool) t.2.1 t.2.2.1 (tag t.2.2.2 t.1.1), mapsO (aggI ints_A8_Int) vB t.2.2.2 t.1.1] ∧ torus_back.l0 n t.1.1 t.1.2 p0 p2 = some x2401) k (([some (mput p1 true ([] : List (A8_Int × Bool)))], 0), (some ⟨g2187, 0, none⟩), 1, (fun _ => g2182)) [0, 7, 16, 17] rfl ⟨(hS2192.subR [0, 1]).sub [1, 0] (by decide), hx2402⟩ ?_
  rintro k2403 ⟨⟨l2394, x2396⟩, A2392, c2393, H2395⟩ w2404 ⟨hS2405, hl2406⟩
  cases k2403 with
  | zero => rw [torus_back.l0] at hl2406; cases hl2406
  | succ k2403 =>
   rw [torus_back.l0] at hl2406
   refine WC.seq ?_
   refine WC.region ?_
   refine seg 1 [] [0, 7, 16, 17, 18] [(0, (.slice A_p0 p0.length c_p0)), (7, (.slice A2392 l2394.length c2393)), (16, (iv p2)), (17, (iv x2396)), (18, (.bool (decide (x2396 < p2))))] [] (fun fb => by kernel_rfl) rfl trivial ?_
   refine WL.done rfl ?_
   refine WX.next ?_
   refine WC.seq ?_
   rcases br_some hl2406 with ⟨h2407, hl2406⟩ | ⟨h2407, hl2406⟩
   ·refine WC.condT2 (fun fb => by kernel_rfl) h2407 ?_
    refine WC.skip ?_
    refine WX.next ?_
    refine WC.seq ?_
    refine WC.block ?_
    refine WC.seq ?_
    refine WC.region ?_
    refine seg 4 [] [0, 7, 16, 17, 19, 22] [(0, (.slice A_p0 p0.length c_p0)), (7, (.slice A2392 l2394.length c2393)), (16, (iv p2)), (17, (iv x2396)), (19, (.slice A2392 l2394.length c2393)), (22, (iv (w64 ((l2394.length : Int) - 1))))] [] (fun fb => by kernel_rfl) rfl trivial ?_
    obtain ⟨h2408, hl2406⟩ := as_some hl2406
    refine seg 5 [] [0, 7, 16, 17, 23] [(0, (.slice A_p0 p0.length c_p0)), (7, (.slice A2392 l2394.length c2393)), (16, (iv p2)), (17, (iv x2396)), (23, (.pointer (some ((adr A2392).add ((w64 ((l2394.length : Int) - 1)).toNat * 1)))))] [.idx A2392 (w64 ((l2394.length : Int) - 1)) l2394.length] (fun fb => by kernel_rfl) rfl ⟨nrow_adr (rowO.rd (hS2405.own 0).1) h2408.1 h2408.2, trivial⟩ ?_
    obtain ⟨m2409, hm2410, hl2406⟩ := bind_some hl2406
    refine seg 6 [.v (.map (some (H2395 (w64 ((l2394.length : Int) - 1)).toNat)))] [0, 7, 16, 17, 24] [(0, (.slice A_p0 p0.length c_p0)), (7, (.slice A2392 l2394.length c2393)), (16, (iv p2)), (17, (iv x2396)), (24, (.map (some (H2395 (w64 ((l2394.length : Int) - 1)).toNat))))] [.cell ((adr A2392).add ((w64 ((l2394.length : Int) - 1)).toNat * 1)) (.map (some (H2395 (w64 ((l2394.length : Int) - 1)).toNat)))] (fun fb => by kernel_rfl) rfl ⟨nrow_cell (rowO.rd (hS2405.own 0).1) none h2408.1 h2408.2 0 (mapV_some hm2410), trivial⟩ ?_
    refine WL.new hS2405 25 [] (fun g => (.map (some g))) (mapObj (aggI ints_A8_Int) vB ([] : List (A8_Int × Bool))) [] (fun fb g => by kernel_rfl) trivial (fun g2411 w2412 hS2413 => ?_)
    refine ⟨trivial, ?_⟩
    refine seg 9 [] [0, 7, 8, 9, 16, 17] [(0, (.slice A_p0 p0.length c_p0)), (7, (.slice A2392 l2394.length c2393)), (8, (.map (some (H2395 (w64 ((l2394.length : Int) - 1)).toNat)))), (9, (.map (some g2411))), (16, (iv p2)), (17, (iv x2396))] [] (fun fb => by kernel_rfl) rfl trivial ?_
    refine WL.done rfl ?_
    refine WX.next ?_
    refine WC.seq ?_
    refine WC.seq ?_
    refine WC.region ?_
    refine seg 3 [] [0, 7, 8, 9, 16, 17, 26, 27, 28] [(0, (.slice A_p0 p0.length c_p0)), (7, (.slice A2392 l2394.length c2393)), (8, (.map (some (H2395 (w64 ((l2394.length : Int) - 1)).toNat)))), (9, (.map (some g2411))), (16, (iv p2)), (17, (iv x2396)), (26, (.slice A_p0 p0.length c_p0)), (27, (iv (p0.length : Int))), (28, (iv 0))] [] (fun fb => by kernel_rfl) rfl trivial ?_
    refine WL.done rfl ?_
    refine WX.next ?_
    obtain ⟨x2461, hx2462, hl2406⟩ := bind_some hl2406
    refine WC.cutN (T := (List (A8_Int × Bool))) (fun t => [(0, (.slice A_p0 p0.length c_p0)), (7, (.slice A2392 l2394.length c2393)), (9, (.map (some g2411))), (16, (iv p2)), (17, (iv x2396))]) (fun t w1 => St NoS w w1 [rowR encN_Row A_p0 c_p0 (tag H_p0 p0), nestO subN_Row H_p0 p0] [rowO 91 (encMap A8_Int Bool) A2392 c2393 (tag H2395 l2394), mapsO (aggI ints_A8_Int) vB H2395 l2394, blk g2411 (mapObj (aggI ints_A8_Int) vB t)] ∧ x2461 = t) (fun Kx2461 => ?_) ?_
    ·
     refine WC.block ?_
     refine WC.loop (T := (List (A8_Int × Bool)) × Int) (fun t => [(0, (.slice A_p0 p0.length c_p0)), (7, (.slice A2392 l2394.length c2393)), (8, (.map (some (H2395 (w64 ((l2394.length : Int) - 1)).toNat)))), (9, (.map (some g2411))), (16, (iv p2)), (17, (iv x2396)), (26, (.slice A_p0 p0.length c_p0)), (27, (iv (p0.length : Int))), (28, (iv t.2))]) (fun n t w1 => St NoS w w1 [rowR encN_Row A_p0 c_p0 (tag H_p0 p0), nestO subN_Row H_p0 p0] [rowO 91 (encMap A8_Int Bool) A2392 c2393 (tag H2395 l2394), mapsO (aggI ints_A8_Int) vB H2395 l2394, blk g2411 (mapObj (aggI ints_A8_Int) vB t.1)] ∧ torus_back.l1 n t.1 t.2 p0 m2409 = some x2461) k2403 (([] : List (A8_Int × Bool)), 0) [0, 7, 8, 9, 16, 17, 26, 27, 28] rfl ⟨(hS2413.subR [0, 1]).sub [1, 2, 0] (by decide), hx2462⟩ ?_
     rintro k2463 ⟨l2458, x2459⟩ w2464 ⟨hS2465, hl2466⟩
     cases k2463 with
     | zero => rw [torus_back.l1] at hl2466; cases hl2466
     | succ k2463 =>
      rw [torus_back.l1] at hl2466
      refine WC.seq ?_
      refine WC.region ?_
      refine seg 1 [] [0, 7, 8, 9, 16, 17, 26, 27, 28, 29] [(0, (.slice A_p0 p0.length c_p0)), (7, (.slice A2392 l2394.length c2393)), (8, (.map (some (H2395 (w64 ((l2394.length : Int) - 1)).toNat)))), (9, (.map (some g2411))), (16, (iv p2)), (17, (iv x2396)), (26, (.slice A_p0 p0.length c_p0)), (27, (iv (p0.length : Int))), (28, (iv x2459)), (29, (.bool (decide (x2459 < (p0.length : Int)))))] [] (fun fb => by kernel_rfl) rfl trivial ?_
      refine WL.done rfl ?_
      refine WX.next ?_
      refine WC.seq ?_
      rcases br_some hl2466 with ⟨h2467, hl2466⟩ | ⟨h2467, hl2466⟩
      ·refine WC.condT2 (fun fb => by kernel_rfl) h2467 ?_
       refine WC.skip ?_
       refine WX.next ?_
       refine WC.seq ?_
       refine WC.block ?_
       refine WC.seq ?_
       refine WC.region ?_
       obtain ⟨h2468, hl2466⟩ := as_some hl2466
       refine seg 2 [.v (.slice ((H_p0 x2459.toNat 0).1) ((rdD p0 x2459 z_Row).Cells).length ((H_p0 x2459.toNat 0).2)), .v (iv (((rdD p0 x2459 z_Row).South).e0)), .v (iv (((rdD p0 x2459 z_Row).South).e1)), .v (iv (((rdD p0 x2459 z_Row).South).e2)), .v (iv (((rdD p0 x2459 z_Row).South).e3)), .v (iv (((rdD p0 x2459 z_Row).South).e4)), .v (iv (((rdD p0 x2459 z_Row).South).e5)), .v (iv (((rdD p0 x2459 z_Row).South).e6)), .v (iv (((rdD p0 x2459 z_Row).South).e7)), .v (iv (((rdD p0 x2459 z_Row).North).e0)), .v (iv (((rdD p0 x2459 z_Row).North).e1)), .v (iv (((rdD p0 x2459 z_Row).North).e2)), .v (iv (((rdD p0 x2459 z_Row).North).e3)), .v (iv (((rdD p0 x2459 z_Row).North).e4)), .v (iv (((rdD p0 x2459 z_Row).North).e5)), .v (iv (((rdD p0 x2459 z_Row).North).e6)), .v (iv (((rdD p0 x2459 z_Row).North).e7)), .v (iv ((rdD p0 x2459 z_Row).West)), .v (iv ((rdD p0 x2459 z_Row).East))] [0, 7, 8, 9, 16, 17, 26, 27, 28, 31] [(0, (.slice A_p0 p0.length c_p0)), (7, (.slice A2392 l2394.length c2393)), (8, (.map (some (H2395 (w64 ((l2394.length : Int) - 1)).toNat)))), (9, (.map (some g2411))), (16, (iv p2)), (17, (iv x2396)), (26, (.slice A_p0 p0.length c_p0)), (27, (iv (p0.length : Int))), (28, (iv x2459)), (31, (.agg #[(.slice ((H_p0 x2459.toNat 0).1) ((rdD p0 x2459 z_Row).Cells).length ((H_p0 x2459.toNat 0).2)), (iv (((rdD p0 x2459 z_Row).South).e0)), (iv (((rdD p0 x2459 z_Row).South).e1)), (iv (((rdD p0 x2459 z_Row).South).e2)), (iv (((rdD p0 x2459 z_Row).South).e3)), (iv (((rdD p0 x2459 z_Row).South).e4)), (iv (((rdD p0 x2459 z_Row).South).e5)), (iv (((rdD p0 x2459 z_Row).South).e6)), (iv (((rdD p0 x2459 z_Row).South).e7)), (iv (((rdD p0 x2459 z_Row).North).e0)), (iv (((rdD p0 x2459 z_Row).North).e1)), (iv (((rdD p0 x2459 z_Row).North).e2)), (iv (((rdD p0 x2459 z_Row).North).e3)), (iv (((rdD p0 x2459 z_Row).North).e4)), (iv (((rdD p0 x2459 z_Row).North).e5)), (iv (((rdD p0 x2459 z_Row).North).e6)), (iv (((rdD p0 x2459 z_Row).North).e7)), (iv ((rdD p0 x2459 z_Row).West)), (iv ((rdD p0 x2459 z_Row).East))]))] [.idx A_p0 x2459 p0.length, .cell ((adr A_p0).add ((x2459).toNat * 19)) (.slice ((H_p0 x2459.toNat 0).1) ((rdD p0 x2459 z_Row).Cells).length ((H_p0 x2459.toNat 0).2)), .cell (((adr A_p0).add ((x2459).toNat * 19)).add 1) (iv (((rdD p0 x2459 z_Row).South).e0)), .cell (((adr A_p0).add ((x2459).toNat * 19)).add 2) (iv (((rdD p0 x2459 z_Row).South).e1)), .cell (((adr A_p0).add ((x2459).toNat * 19)).add 3) (iv (((rdD p0 x2459 z_Row).South).e2)), .cell (((adr A_p0).add ((x2459).toNat * 19)).add 4) (iv (((rdD p0 x2459 z_Row).South).e3)), .cell (((adr A_p0).add ((x2459).toNat * 19)).add 5) (iv (((rdD p0 x2459 z_Row).South).e4)), .cell (((adr A_p0).add ((x2459).toNat * 19)).add 6) (iv (((rdD p0 x2459 z_Row).South).e5)), .cell (((adr A_p0).add ((x2459).toNat * 19)).add 7) (iv (((rdD p0 x2459 z_Row).South).e6)), .cell (((adr A_p0).add ((x2459).toNat * 19)).add 8) (iv (((rdD p0 x2459 z_Row).South).e7)), .cell (((adr A_p0).add ((x2459).toNat * 19)).add 9) (iv (((rdD p0 x2459 z_Row).North).e0)), .cell (((adr A_p0).add ((x2459).toNat * 19)).add 10) (iv (((rdD p0 x2459 z_Row).North).e1)), .cell (((adr A_p0).add ((x2459).toNat * 19)).add 11) (iv (((rdD p0 x2459 z_Row).North).e2)), .cell (((adr A_p0).add ((x2459).toNat * 19)).add 12) (iv (((rdD p0 x2459 z_Row).North).e3)), .cell (((adr A_p0).add ((x2459).toNat * 19)).add 13) (iv (((rdD p0 x2459 z_Row).North).e4)), .cell (((adr A_p0).add ((x2459).toNat * 19)).add 14) (iv (((rdD p0 x2459 z_Row).North).e5)), .cell (((adr A_p0).add ((x2459).toNat * 19)).add 15) (iv (((rdD p0 x2459 z_Row).North).e6)), .cell (((adr A_p0).add ((x2459).toNat * 19)).add 16) (iv (((rdD p0 x2459 z_Row).North).e7)), .cell (((adr A_p0).add ((x2459).toNat * 19)).add 17) (iv ((rdD p0 x2459 z_Row).West)), .cell (((adr A_p0).add ((x2459).toNat * 19)).add 18) (iv ((rdD p0 x2459 z_Row).East))] (fun fb => by kernel_rfl) rfl ⟨nrow_adr (hS2465.rd 0).1 h2468.1 h2468.2, nrow_cell (hS2465.rd 0).1 z_Row h2468.1 h2468.2 0 rfl, nrow_cell (hS2465.rd 0).1 z_Row h2468.1 h2468.2 1 rfl, nrow_cell (hS2465.rd 0).1 z_Row h2468.1 h2468.2 2 rfl, nrow_cell (hS2465.rd 0).1 z_Row h2468.1 h2468.2 3 rfl, nrow_cell (hS2465.rd 0).1 z_Row h2468.1 h2468.2 4 rfl, nrow_cell (hS2465.rd 0).1 z_Row h2468.1 h2468.2 5 rfl, nrow_cell (hS2465.rd 0).1 z_Row h2468.1 h2468.2 6 rfl, nrow_cell (hS2465.rd 0).1 z_Row h2468.1 h2468.2 7 rfl, nrow_cell (hS2465.rd 0).1 z_Row h2468.1 h2468.2 8 rfl, nrow_cell (hS2465.rd 0).1 z_Row h2468.1 h2468.2 9 rfl, nrow_cell (hS2465.rd 0).1 z_Row h2468.1 h2468.2 10 rfl, nrow_cell (hS2465.rd 0).1 z_Row h2468.1 h2468.2 11 rfl, nrow_cell (hS2465.rd 0).1 z_Row h2468.1 h2468.2 12 rfl, nrow_cell (hS2465.rd 0).1 z_Row h2468.1 h2468.2 13 rfl, nrow_cell (hS2465.rd 0).1 z_Row h2468.1 h2468.2 14 rfl, nrow_cell (hS2465.rd 0).1 z_Row h2468.1 h2468.2 15 rfl, nrow_cell (hS2465.rd 0).1 z_Row h2468.1 h2468.2 16 rfl, nrow_cell (hS2465.rd 0).1 z_Row h2468.1 h2468.2 17 rfl, nrow_cell (hS2465.rd 0).1 z_Row h2468.1 h2468.2 18 rfl, trivial⟩ ?_
       refine WL.new hS2465 11 [] (fun g => (.pointer (some ⟨g, 0, none⟩))) (.cells #[(.slice none 0 0), (iv 0), (iv 0), (iv 0), (iv 0), (iv 0), (iv 0), (iv 0), (iv 0), (iv 0), (iv 0), (iv 0), (iv 0), (iv 0), (iv 0), (iv 0), (iv 0), (iv 0), (iv 0)] 85 (0, 0)) [] (fun fb g => by kernel_rfl) trivial (fun g2469 w2470 hS2471 => ?_)
       refine ⟨trivial, ?_⟩
       refine WL.store hS2471 0 rfl [(0, (.slice ((H_p0 x2459.toNat 0).1) ((rdD p0 x2459 z_Row).Cells).length ((H_p0 x2459.toNat 0).2))), (1, (iv (((rdD p0 x2459 z_Row).South).e0))), (2, (iv (((rdD p0 x2459 z_Row).South).e1))), (3, (iv (((rdD p0 x2459 z_Row).South).e2))), (4, (iv (((rdD p0 x2459 z_Row).South).e3))), (5, (iv (((rdD p0 x2459 z_Row).South).e4))), (6, (iv (((rdD p0 x2459 z_Row).South).e5))), (7, (iv (((rdD p0 x2459 z_Row).South).e6))), (8, (iv (((rdD p0 x2459 z_Row).South).e7))), (9, (iv (((rdD p0 x2459 z_Row).North).e0))), (10, (iv (((rdD p0 x2459 z_Row).North).e1))), (11, (iv (((rdD p0 x2459 z_Row).North).e2))), (12, (iv (((rdD p0 x2459 z_Row).North).e3))), (13, (iv (((rdD p0 x2459 z_Row).North).e4))), (14, (iv (((rdD p0 x2459 z_Row).North).e5))), (15, (iv (((rdD p0 x2459 z_Row).North).e6))), (16, (iv (((rdD p0 x2459 z_Row).North).e7))), (17, (iv ((rdD p0 x2459 z_Row).West))), (18, (iv ((rdD p0 x2459 z_Row).East)))] #[(.slice ((H_p0 x2459.toNat 0).1) ((rdD p0 x2459 z_Row).Cells).length ((H_p0 x2459.toNat 0).2)), (iv (((rdD p0 x2459 z_Row).South).e0)), (iv (((rdD p0 x2459 z_Row).South).e1)), (iv (((rdD p0 x2459 z_Row).South).e2)), (iv (((rdD p0 x2459 z_Row).South).e3)), (iv (((rdD p0 x2459 z_Row).South).e4)), (iv (((rdD p0 x2459 z_Row).South).e5)), (iv (((rdD p0 x2459 z_Row).South).e6)), (iv (((rdD p0 x2459 z_Row).South).e7)), (iv (((rdD p0 x2459 z_Row).North).e0)), (iv (((rdD p0 x2459 z_Row).North).e1)), (iv (((rdD p0 x2459 z_Row).North).e2)), (iv (((rdD p0 x2459 z_Row).North).e3)), (iv (((rdD p0 x2459 z_Row).North).e4)), (iv (((rdD p0 x2459 z_Row).North).e5)), (iv (((rdD p0 x2459 z_Row).North).e6)), (iv (((rdD p0 x2459 z_Row).North).e7)), (iv ((rdD p0 x2459 z_Row).West)), (iv ((rdD p0 x2459 z_Row).East))] (fun fb => by kernel_rfl) (by kernel_rfl) (by kernel_rfl) [1, 2, 3] (by decide) (by decide) (fun w2473 hS2474 => ?_)
       refine ⟨trivial, ?_⟩
       refine WL.done rfl ?_
       refine WX.next ?_
       refine WC.seq ?_
       refine WC.region ?_
       refine seg 3 [.v (iv (((rdD p0 x2459 z_Row).North).e0)), .v (iv (((rdD p0 x2459 z_Row).North).e1)), .v (iv (((rdD p0 x2459 z_Row).North).e2)), .v (iv (((rdD p0 x2459 z_Row).North).e3)), .v (iv (((rdD p0 x2459 z_Row).North).e4)), .v (iv (((rdD p0 x2459 z_Row).North).e5)), .v (iv (((rdD p0 x2459 z_Row).North).e6)), .v (iv (((rdD p0 x2459 z_Row).North).e7))] [0, 7, 8, 9, 11, 16, 17, 26, 27, 28, 32, 34] [(0, (.slice A_p0 p0.length c_p0)), (7, (.slice A2392 l2394.length c2393)), (8, (.map (some (H2395 (w64 ((l2394.length : Int) - 1)).toNat)))), (9, (.map (some g2411))), (11, (pt g2469)), (16, (iv p2)), (17, (iv x2396)), (26, (.slice A_p0 p0.length c_p0)), (27, (iv (p0.length : Int))), (28, (iv x2459)), (32, (.map (some (H2395 (w64 ((l2394.length : Int) - 1)).toNat)))), (34, (.agg #[(iv (((rdD p0 x2459 z_Row).North).e0)), (iv (((rdD p0 x2459 z_Row).North).e1)), (iv (((rdD p0 x2459 z_Row).North).e2)), (iv (((rdD p0 x2459 z_Row).North).e3)), (iv (((rdD p0 x2459 z_Row).North).e4)), (iv (((rdD p0 x2459 z_Row).North).e5)), (iv (((rdD p0 x2459 z_Row).North).e6)), (iv (((rdD p0 x2459 z_Row).North).e7))]))] [.cell ⟨g2469, 9, none⟩ (iv (((rdD p0 x2459 z_Row).North).e0)), .cell ⟨g2469, 10, none⟩ (iv (((rdD p0 x2459 z_Row).North).e1)), .cell ⟨g2469, 11, none⟩ (iv (((rdD p0 x2459 z_Row).North).e2)), .cell ⟨g2469, 12, none⟩ (iv (((rdD p0 x2459 z_Row).North).e3)), .cell ⟨g2469, 13, none⟩ (iv (((rdD p0 x2459 z_Row).North).e4)), .cell ⟨g2469, 14, none⟩ (iv (((rdD p0 x2459 z_Row).North).e5)), .cell ⟨g2469, 15, none⟩ (iv (((rdD p0 x2459 z_Row).North).e6)), .cell ⟨g2469, 16, none⟩ (iv (((rdD p0 x2459 z_Row).North).e7))] (fun fb => by kernel_rfl) rfl ⟨hS2474.cell 0 rfl 9 rfl, hS2474.cell 0 rfl 10 rfl, hS2474.cell 0 rfl 11 rfl, hS2474.cell 0 rfl 12 rfl, hS2474.cell 0 rfl 13 rfl, hS2474.cell 0 rfl 14 rfl, hS2474.cell 0 rfl 15 rfl, hS2474.cell 0 rfl 16 rfl, trivial⟩ ?_
       refine WL.lookup (mapsO.at (hS2474.own 2).1 h2408.1 h2408.2 hm2410) ((rdD p0 x2459 z_Row).North) (d := 35) (c := false) (t := 91) (kT := 83) (eT := 4) (z := false) (kE := (aggI ints_A8_Int)) (vE := vB) (l := m2409) (.bool (mget ((rdD p0 x2459 z_Row).North) false m2409)) (fun fb => by kernel_rfl) torus_back_key83 (by kernel_rfl) (fun _ => by kernel_rfl) rfl ?_
       refine ⟨trivial, ?_⟩
       refine WL.done rfl ?_
       refine WX.next ?_
       obtain ⟨x2479, hx2480, hl2466⟩ := bind_some hl2466
       refine WC.cutN (T := (List (A8_Int × Bool))) (fun t => [(0, (.slice A_p0 p0.length c_p0)), (7, (.slice A2392 l2394.length c2393)), (8, (.map (some (H2395 (w64 ((l2394.length : Int) - 1)).toNat)))), (9, (.map (some g2411))), (16, (iv p2)), (17, (iv x2396)), (26, (.slice A_p0 p0.length c_p0)), (27, (iv (p0.length : Int))), (28, (iv x2459))]) (fun t w1 => St NoS w w1 [rowR encN_Row A_p0 c_p0 (tag H_p0 p0), nestO subN_Row H_p0 p0] [rowO 91 (encMap A8_Int Bool) A2392 c2393 (tag H2395 l2394), mapsO (aggI ints_A8_Int) vB H2395 l2394, blk g2411 (mapObj (aggI ints_A8_Int) vB t)] ∧ x2479 = t) (fun Kx2479 => ?_) ?_
       ·
        rcases br_some hx2480 with ⟨h2481, hx2480⟩ | ⟨h2481, hx2480⟩
        ·refine WC.condT2 (fun fb => by kernel_rfl) h2481 ?_
         refine WC.region ?_
         refine seg 3 [.v (iv (((rdD p0 x2459 z_Row).South).e0)), .v (iv (((rdD p0 x2459 z_Row).South).e1)), .v (iv (((rdD p0 x2459 z_Row).South).e2)), .v (iv (((rdD p0 x2459 z_Row).South).e3)), .v (iv (((rdD p0 x2459 z_Row).South).e4)), .v (iv (((rdD p0 x2459 z_Row).South).e5)), .v (iv (((rdD p0 x2459 z_Row).South).e6)), .v (iv (((rdD p0 x2459 z_Row).South).e7))] [0, 7, 8, 9, 16, 17, 26, 27, 28, 36, 38] [(0, (.slice A_p0 p0.length c_p0)), (7, (.slice A2392 l2394.length c2393)), (8, (.map (some (H2395 (w64 ((l2394.length : Int) - 1)).toNat)))), (9, (.map (some g2411))), (16, (iv p2)), (17, (iv x2396)), (26, (.slice A_p0 p0.length c_p0)), (27, (iv (p0.length : Int))), (28, (iv x2459)), (36, (.map (some g2411))), (38, (.agg #[(iv (((rdD p0 x2459 z_Row).South).e0)), (iv (((rdD p0 x2459 z_Row).South).e1)), (iv (((rdD p0 x2459 z_Row).South).e2)), (iv (((rdD p0 x2459 z_Row).South).e3)), (iv (((rdD p0 x2459 z_Row).South).e4)), (iv (((rdD p0 x2459 z_Row).South).e5)), (iv (((rdD p0 x2459 z_Row).South).e6)), (iv (((rdD p0 x2459 z_Row).South).e7))]))] [.cell ⟨g2469, 1, none⟩ (iv (((rdD p0 x2459 z_Row).South).e0)), .cell ⟨g2469, 2, none⟩ (iv (((rdD p0 x2459 z_Row).South).e1)), .cell ⟨g2469, 3, none⟩ (iv (((rdD p0 x2459 z_Row).South).e2)), .cell ⟨g2469, 4, none⟩ (iv (((rdD p0 x2459 z_Row).South).e3)), .cell ⟨g2469, 5, none⟩ (iv (((rdD p0 x2459 z_Row).South).e4)), .cell ⟨g2469, 6, none⟩ (iv (((rdD p0 x2459 z_Row).South).e5)), .cell ⟨g2469, 7, none⟩ (iv (((rdD p0 x2459 z_Row).South).e6)), .cell ⟨g2469, 8, none⟩ (iv (((rdD p0 x2459 z_Row).South).e7))] (fun fb => by kernel_rfl) rfl ⟨hS2474.cell 0 rfl 1 rfl, hS2474.cell 0 rfl 2 rfl, hS2474.cell 0 rfl 3 rfl, hS2474.cell 0 rfl 4 rfl, hS2474.cell 0 rfl 5 rfl, hS2474.cell 0 rfl 6 rfl, hS2474.cell 0 rfl 7 rfl, hS2474.cell 0 rfl 8 rfl, trivial⟩ ?_
         refine WL.mapput hS2474 3 (t := 91) (kT := 83) (eT := 4) (kE := (aggI ints_A8_Int)) (vE := vB) (l := l2458) rfl ((rdD p0 x2459 z_Row).South) true (fun fb => by kernel_rfl) torus_back_key83 (by kernel_rfl) [0, 1, 2] (by decide) (by decide) (fun w2482 hS2483 => ?_)
         refine ⟨trivial, ?_⟩
         refine WL.done rfl ?_
         injection hx2480 with hx2480
         exact WX.to Kx2479 (mput ((rdD p0 x2459 z_Row).South) true l2458) [0, 7, 8, 9, 16, 17, 26, 27, 28] rfl ⟨(hS2483.subR [0, 1]).sub [2, 3, 0] (by decide), hx2480.symm⟩
        refine WC.condF2 (fun fb => by kernel_rfl) h2481 ?_
        refine WC.skip ?_
        injection hx2480 with hx2480
        exact WX.to Kx2479 l2458 [0, 7, 8, 9, 16, 17, 26, 27, 28] rfl ⟨(hS2474.subR [0, 1]).sub [1, 2, 3] (by decide), hx2480.symm⟩
       rintro y2487 w2484 ⟨hS2485, hq2486⟩
       subst hq2486
       refine WX.blockN (WX.next ?_)
       refine WC.region ?_
       refine seg 2 [] [0, 7, 8, 9, 16, 17, 26, 27, 28] [(0, (.slice A_p0 p0.length c_p0)), (7, (.slice A2392 l2394.length c2393)), (8, (.map (some (H2395 (w64 ((l2394.length : Int) - 1)).toNat)))), (9, (.map (some g2411))), (16, (iv p2)), (17, (iv x2396)), (26, (.slice A_p0 p0.length c_p0)), (27, (iv (p0.length : Int))), (28, (iv (w64 (x2459 + 1))))] [] (fun fb => by kernel_rfl) rfl trivial ?_
       refine WL.done rfl ?_
       exact WX.again k2463 (Nat.lt_succ_self _) (x2479, w64 (x2459 + 1)) [0, 7, 8, 9, 16, 17, 26, 27, 28] rfl ⟨(hS2485.subR [0, 1]).sub [0, 1, 2] (by decide), hl2466⟩
      refine WC.condF2 (fun fb => by kernel_rfl) h2467 ?_
      refine WC.exit ?_
      injection hl2466 with hl2466
      exact WX.thenX (WX.thenX (WX.blockHere (WX.to Kx2461 l2458 [0, 7, 9, 16, 17] rfl ⟨(hS2465.subR [0, 1]).sub [0, 1, 2] (by decide), hl2466.symm⟩)))
    rintro y2491 w2488 ⟨hS2489, hq2490⟩
    subst hq2490
    refine WX.next ?_
    refine WC.region ?_
    refine seg 2 [] [0, 16, 17, 40, 41] [(0, (.slice A_p0 p0.length c_p0)), (16, (iv p2)), (17, (iv x2396)), (40, (.slice A2392 l2394.length c2393)), (41, (.map (some g2411)))] [] (fun fb => by kernel_rfl) rfl trivial ?_
    refine WL.new hS2489 42 [] (fun g => (.slice (some ⟨g, 0, none⟩) 1 1)) (.cells #[(.map (some g2411))] 91 (0, 0)) [] (fun fb g => by kernel_rfl) trivial (fun g2492 w2493 hS2494 => ?_)
    refine ⟨trivial, ?_⟩
    have hS2496 : St NoS w w2493 [rowR encN_Row A_p0 c_p0 (tag H_p0 p0), nestO subN_Row H_p0 p0] [rowO 91 (encMap A8_Int Bool) (some ⟨g2492, 0, none⟩) 1 (tag (fun _ => g2411) [some x2461]), rowO 91 (encMap A8_Int Bool) A2392 c2393 (tag H2395 l2394), mapsO (aggI ints_A8_Int) vB H2395 l2394, blk g2411 (mapObj (aggI ints_A8_Int) vB x2461)] := hS2494.map1 0 _ (fun h => rowO.ofBlk h rfl (Nat.le_of_ble_eq_true (by kernel_rfl))) (fun _ h => by obtain ⟨_, h1, h2⟩ := h; injection h1 with h1; subst h1; exact h2) [1, 2, 3] (by decide) (by decide)
    have hS2497 : St NoS w w2493 [rowR encN_Row A_p0 c_p0 (tag H_p0 p0), nestO subN_Row H_p0 p0] [mapsO (aggI ints_A8_Int) vB (fun _ => g2411) [some x2461], rowO 91 (encMap A8_Int Bool) (some ⟨g2492, 0, none⟩) 1 (tag (fun _ => g2411) [some x2461]), rowO 91 (encMap A8_Int Bool) A2392 c2393 (tag H2395 l2394), mapsO (aggI ints_A8_Int) vB H2395 l2394] := hS2496.mapsOne 3 rfl [0, 1, 2] (by decide) (by decide)
    obtain ⟨h2498, hl2406⟩ := as_some hl2406
    refine WL.appendN hS2497 2 (d := 43) (tS := 90) (z := (.map none)) (bytes := 8) (c2 := 1) (hx := g2411) (x := (some x2461)) rfl (fun fb => by kernel_rfl) (rowO.rd (hS2497.own 1).1) (by kernel_rfl) (by kernel_rfl) rfl (by decide) h2498 (by decide) [0, 1, 3] (by decide) (by decide) (fun A2499 c2500 w2501 hS2502 => ?_)
    have hS2503 : St NoS w w2501 [rowR encN_Row A_p0 c_p0 (tag H_p0 p0), nestO subN_Row H_p0 p0] [mapsO (aggI ints_A8_Int) vB (updH H2395 l2394.length g2411) (l2394 ++ [some x2461]), rowO 91 (encMap A8_Int Bool) A2499 c2500 (tag (updH H2395 l2394.length g2411) (l2394 ++ [some x2461])), rowO 91 (encMap A8_Int Bool) (some ⟨g2492, 0, none⟩) 1 (tag (fun _ => g2411) [some x2461])] := hS2502.mapsPush 3 1 rfl rfl (by decide) [0, 2] (by decide) (by decide)
    refine ⟨trivial, ?_⟩
    refine seg 5 [] [0, 7, 16, 17] [(0, (.slice A_p0 p0.length c_p0)), (7, (.slice A2499 (l2394 ++ [some x2461]).length c2500)), (16, (iv p2)), (17, (iv x2396))] [] (fun fb => by kernel_rfl) rfl trivial ?_
    refine WL.done rfl ?_
    refine WX.blockN (WX.next ?_)
    refine WC.region ?_
    refine seg 2 [] [0, 7, 16, 17] [(0, (.slice A_p0 p0.length c_p0)), (7, (.slice A2499 (l2394 ++ [some x2461]).length c2500)), (16, (iv p2)), (17, (iv (w64 (x2396 + 1))))] [] (fun fb => by kernel_rfl) rfl trivial ?_
    refine WL.done rfl ?_
    exact WX.again k2403 (Nat.lt_succ_self _) ((l2394 ++ [some x2461], w64 (x2396 + 1)), A2499, c2500, (updH H2395 l2394.length g2411)) [0, 7, 16, 17] rfl ⟨(hS2503.subR [0, 1]).sub [1, 0] (by decide), hl2406⟩
   refine WC.condF2 (fun fb => by kernel_rfl) h2407 ?_
   refine WC.exit ?_
   injection hl2406 with hl2406
   exact WX.thenX (WX.thenX (WX.blockHere (WX.to Kx2401 (l2394, A2392, c2393, H2395) [7] rfl ⟨(hS2405.subR [0, 1]).sub [0, 1] (by decide), hl2406.symm⟩)))
 rintro ⟨y2507, A2397, c2398, H2400⟩ w2504 ⟨hS2505, hq2506⟩
 subst hq2506
 refine WX.next ?_
 refine WC.seq ?_
 refine WC.region ?_
 refine seg 2 [] [6] [(6, (.slice A2397 x2401.length c2398))] [] (fun fb => by kernel_rfl) rfl trivial ?_
 refine WL.done rfl ?_
 refine WX.next ?_
 refine WC.ret ?_
 injection hf with hf
 subst hf
 exact WX.ret_ [] (.slice A2397 x2401.length c2398) [] (fun fb => by kernel_rfl) trivial ⟨_, rfl, A2397, c2398, H2400, rfl, (hS2505.sub [0, 1] (by decide)).noR⟩
end Gp
