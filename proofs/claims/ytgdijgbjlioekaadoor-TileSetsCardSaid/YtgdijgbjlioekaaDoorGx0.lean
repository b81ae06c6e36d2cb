/- Walks: each function of the program computes its plain function. -/
import Derived.Test.YtgdijgbjlioekaaDoorGp
set_option linter.unusedVariables false
set_option linter.unusedSimpArgs false
set_option maxHeartbeats 4000000
namespace Gp
open Go Gw Go.Proofs
theorem law01_wide_calls (p0 : List Tile) (Aa : Option Addr) (ca : Nat) (r : Bool) (w : World) (hR0 : RO NoS w (rowR enc_Tile Aa ca p0)) (hf : law01_wide p0 = some r) :
  CallsR Tryd.prog 10 #[(sv Aa p0 ca)] w (fun v w' => v = (bv r) ∧ Keeps NoS w w') := by
 have hS : St NoS w w [rowR enc_Tile Aa ca p0] [] := St.init (ro_cons hR0 (ro_nil _ _))
 refine enter 6 Tryd.func10 rfl Tryd.ntmps10 rfl ?_
 unfold law01_wide at hf
 refine WC.seq (WC.region ?_)
 refine seg 1 [] [0] [(0, (sv Aa p0 ca))] [] (fun fb => by kernel_rfl) rfl trivial ?_
 refine WL.done rfl (WX.next (WC.seq (WC.region ?_)))
 refine seg 4 [] [2] [(2, (bv (decide ((p0.length : Int) > 1100))))] [] (fun fb => by kernel_rfl) rfl trivial ?_
 refine WL.done rfl (WX.next ?_)
 refine WC.ret ?_
 injection hf with hf
 subst hf
 exact WX.ret_ [] (bv (decide ((p0.length : Int) > 1100))) [] (fun fb => by kernel_rfl) trivial ⟨_, rfl, rfl, hS.keep⟩
theorem tile_colour_1_calls (p0 : Int)  (r : Bool) (w : World)  (hf : tile_colour_1 p0 = some r) :
  CallsR Tryd.prog 40 #[(iv p0)] w (fun v w' => v = (bv r) ∧ Keeps NoS w w') := by
 have hS : St NoS w w [] [] := St.init (ro_nil _ _)
 refine enter 9 Tryd.func40 rfl Tryd.ntmps40 rfl ?_
 unfold tile_colour_1 at hf
 refine WC.seq (WC.region ?_)
 refine seg 1 [] [0] [(0, (iv p0))] [] (fun fb => by kernel_rfl) rfl trivial ?_
 refine WL.done rfl (WX.next (WC.seq (WC.region ?_)))
 refine seg 3 [] [0, 5] [(0, (iv p0)), (5, (bv (decide (p0 < 0))))] [] (fun fb => by kernel_rfl) rfl trivial ?_
 refine WL.cutV (T := Bool) 6 (fun t => [(8, (bv t))]) (fun t => ((decide (p0 < 0)) || (decide (p0 ≥ 1000))) = t) (fun K => ?_) ?_
 ·
  rcases Bool.eq_false_or_eq_true (decide (p0 < 0)) with h2 | h2
  ·
   refine WL.setB 5 h2 rfl ?_
   refine seg 6 [] [8] [(8, (bv true))] [] (fun fb => by kernel_rfl) rfl trivial ?_
   exact WL.toV K true [8] rfl (by first | (rw [h2]; done) | (rw [h2]; rfl))
  refine WL.setB 5 h2 rfl ?_
  refine seg 6 [] [8] [(8, (bv (decide (p0 ≥ 1000))))] [] (fun fb => by kernel_rfl) rfl trivial ?_
  exact WL.toV K (decide (p0 ≥ 1000)) [8] rfl (by first | (rw [h2]; done) | (rw [h2]; rfl))
 rintro b3 rfl
 refine seg 7 [] [2] [(2, (bv ((decide (p0 < 0)) || (decide (p0 ≥ 1000)))))] [] (fun fb => by kernel_rfl) rfl trivial ?_
 refine WL.done rfl (WX.next ?_)
 refine WC.ret ?_
 injection hf with hf
 subst hf
 exact WX.ret_ [] (bv ((decide (p0 < 0)) || (decide (p0 ≥ 1000)))) [] (fun fb => by kernel_rfl) trivial ⟨_, rfl, rfl, hS.keep⟩
theorem slices_IndexFunc_int_int_with_tile_colour_1_calls (k : Nat) (p0 : List Int) (Aa : Option Addr) (ca : Nat) (r : Int) (w : World) (hR0 : RO NoS w (rowR encInt Aa ca p0)) (hf : slices_IndexFunc_int_int_with_tile_colour_1 k p0 = some r) :
  CallsR Tryd.prog 63 #[(sv Aa p0 ca), (.func (.func 40) #[] #[])] w (fun v w' => v = (iv r) ∧ Keeps NoS w w') := by
 have hS : St NoS w w [rowR encInt Aa ca p0] [] := St.init (ro_cons hR0 (ro_nil _ _))
 refine enter 19 Tryd.func63 rfl Tryd.ntmps63 rfl ?_
 unfold slices_IndexFunc_int_int_with_tile_colour_1 at hf
 refine WC.seq (WC.region ?_)
 refine seg 1 [] [0, 1] [(0, (sv Aa p0 ca)), (1, (.func (.func 40) #[] #[]))] [] (fun fb => by kernel_rfl) rfl trivial ?_
 refine WL.done rfl (WX.next (WC.seq (WC.seq (WC.region ?_))))
 refine seg 3 [] [0, 1, 7, 8] [(0, (sv Aa p0 ca)), (1, (.func (.func 40) #[] #[])), (7, (iv (p0.length : Int))), (8, (iv 0))] [] (fun fb => by kernel_rfl) rfl trivial ?_
 refine WL.done rfl (WX.next ?_)
 obtain ⟨x4, hx5, hf⟩ := bind_some hf
 refine WC.cutN (T := Unit) (fun t => []) (fun t w1 => St NoS w w1 [rowR encInt Aa ca p0] [] ∧ x4 = .inr t) (fun Kx4 => ?_) ?_
 ·
  refine WC.block ?_
  refine WC.loop (T := Int) (fun t => [(0, (sv Aa p0 ca)), (1, (.func (.func 40) #[] #[])), (7, (iv (p0.length : Int))), (8, (iv t))]) (fun n t w1 => St NoS w w1 [rowR encInt Aa ca p0] [] ∧ slices_IndexFunc_int_int_with_tile_colour_1.l0 n t p0 = some x4) k 0 [0, 1, 7, 8] rfl ⟨(hS.subR [0]).sub [] (by decide), hx5⟩ ?_
  rintro k6 x3 w7 ⟨hS8, hl9⟩
  cases k6 with
  | zero => rw [slices_IndexFunc_int_int_with_tile_colour_1.l0] at hl9; cases hl9
  | succ k6 =>
   rw [slices_IndexFunc_int_int_with_tile_colour_1.l0] at hl9
   refine WC.seq (WC.region ?_)
   refine seg 1 [] [0, 1, 7, 8, 9] [(0, (sv Aa p0 ca)), (1, (.func (.func 40) #[] #[])), (7, (iv (p0.length : Int))), (8, (iv x3)), (9, (bv (decide (x3 < (p0.length : Int)))))] [] (fun fb => by kernel_rfl) rfl trivial ?_
   refine WL.done rfl (WX.next (WC.seq ?_))
   rcases br_some hl9 with ⟨h10, hl9⟩ | ⟨h10, hl9⟩
   ·refine WC.condT2 (fun fb => by kernel_rfl) h10 ?_
    refine WC.skip (WX.next (WC.seq (WC.block (WC.seq (WC.region ?_)))))
    refine seg 2 [] [0, 1, 5, 7, 8] [(0, (sv Aa p0 ca)), (1, (.func (.func 40) #[] #[])), (5, (iv x3)), (7, (iv (p0.length : Int))), (8, (iv x3))] [] (fun fb => by kernel_rfl) rfl trivial ?_
    refine WL.done rfl (WX.next (WC.seq (WC.region ?_)))
    refine seg 3 [] [0, 1, 5, 7, 8, 11, 12, 13] [(0, (sv Aa p0 ca)), (1, (.func (.func 40) #[] #[])), (5, (iv x3)), (7, (iv (p0.length : Int))), (8, (iv x3)), (11, (.func (.func 40) #[] #[])), (12, (sv Aa p0 ca)), (13, (iv x3))] [] (fun fb => by kernel_rfl) rfl trivial ?_
    obtain ⟨h11, hl9⟩ := as_some hl9
    refine seg 5 [.v (iv (rdD p0 x3 0))] [0, 1, 5, 7, 8, 11, 15] [(0, (sv Aa p0 ca)), (1, (.func (.func 40) #[] #[])), (5, (iv x3)), (7, (iv (p0.length : Int))), (8, (iv x3)), (11, (.func (.func 40) #[] #[])), (15, (iv (rdD p0 x3 0)))] [.idx Aa x3 p0.length, .cell ((adr Aa).add ((x3).toNat * 1)) (iv (rdD p0 x3 0))] (fun fb => by kernel_rfl) rfl ⟨rowR.adr (hS8.rd 0).1 h11.1 h11.2, rowR.cell (hS8.rd 0).1 0 h11.1 h11.2 0 rfl, trivial⟩ ?_
    obtain ⟨t12, ht13, hl9⟩ := bind_some hl9
    refine WL.call (some 16) 40 #[(iv (rdD p0 x3 0))] (fun fb => by kernel_rfl) (tile_colour_1_calls (rdD p0 x3 0) t12 _ ht13) (fun v w14 hR15 => ?_)
    obtain ⟨rfl, hk_⟩ := hR15
    have hS16 := hS8.keepN hk_
    refine ⟨trivial, ?_⟩
    refine WL.done rfl (WX.next ?_)
    rcases br_some hl9 with ⟨h17, hl9⟩ | ⟨h17, hl9⟩
    ·refine WC.condT2 (fun fb => by kernel_rfl) h17 ?_
     refine WC.seq (WC.region ?_)
     refine seg 2 [] [4] [(4, (iv x3))] [] (fun fb => by kernel_rfl) rfl trivial ?_
     refine WL.done rfl (WX.next ?_)
     refine WC.ret ?_
     injection hl9 with hl9
     subst hl9
     injection hf with hf
     subst hf
     exact WX.blockR (WX.thenR (WX.thenR (WX.blockR (WX.thenR (WX.ret_ [] (iv x3) [] (fun fb => by kernel_rfl) trivial ⟨_, rfl, rfl, hS16.keep⟩)))))
    refine WC.condF2 (fun fb => by kernel_rfl) h17 ?_
    refine WC.skip ?_
    refine WX.blockN (WX.next ?_)
    refine WC.region ?_
    refine seg 2 [] [0, 1, 7, 8] [(0, (sv Aa p0 ca)), (1, (.func (.func 40) #[] #[])), (7, (iv (p0.length : Int))), (8, (iv (w64 (x3 + 1))))] [] (fun fb => by kernel_rfl) rfl trivial ?_
    refine WL.done rfl ?_
    exact WX.again k6 (Nat.lt_succ_self _) (w64 (x3 + 1)) [0, 1, 7, 8] rfl ⟨(hS16.subR [0]).sub [] (by decide), hl9⟩
   refine WC.condF2 (fun fb => by kernel_rfl) h10 ?_
   refine WC.exit ?_
   injection hl9 with hl9
   exact WX.thenX (WX.thenX (WX.blockHere (WX.to Kx4 () [] rfl ⟨(hS8.subR [0]).sub [] (by decide), hl9.symm⟩)))
 rintro y21 w18 ⟨hS19, hq20⟩
 subst hq20
 have hf := sum_inr hf
 refine WX.next (WC.seq (WC.region ?_))
 refine seg 1 [] [4] [(4, (iv (-1)))] [] (fun fb => by kernel_rfl) rfl trivial ?_
 refine WL.done rfl (WX.next ?_)
 refine WC.ret ?_
 injection hf with hf
 subst hf
 exact WX.ret_ [] (iv (-1)) [] (fun fb => by kernel_rfl) trivial ⟨_, rfl, rfl, hS19.keep⟩
theorem slices_ContainsFunc_int_int_with_tile_colour_1_calls (k : Nat) (p0 : List Int) (Aa : Option Addr) (ca : Nat) (r : Bool) (w : World) (hR0 : RO NoS w (rowR encInt Aa ca p0)) (hf : slices_ContainsFunc_int_int_with_tile_colour_1 k p0 = some r) :
  CallsR Tryd.prog 39 #[(sv Aa p0 ca), (.func (.func 40) #[] #[])] w (fun v w' => v = (bv r) ∧ Keeps NoS w w') := by
 have hS : St NoS w w [rowR encInt Aa ca p0] [] := St.init (ro_cons hR0 (ro_nil _ _))
 refine enter 9 Tryd.func39 rfl Tryd.ntmps39 rfl ?_
 unfold slices_ContainsFunc_int_int_with_tile_colour_1 at hf
 refine WC.seq (WC.region ?_)
 refine seg 1 [] [0, 1] [(0, (sv Aa p0 ca)), (1, (.func (.func 40) #[] #[]))] [] (fun fb => by kernel_rfl) rfl trivial ?_
 refine WL.done rfl (WX.next (WC.seq (WC.region ?_)))
 refine seg 2 [] [5, 6] [(5, (sv Aa p0 ca)), (6, (.func (.func 40) #[] #[]))] [] (fun fb => by kernel_rfl) rfl trivial ?_
 obtain ⟨t2, ht3, hf⟩ := bind_some hf
 refine WL.call (some 7) 63 #[(sv Aa p0 ca), (.func (.func 40) #[] #[])] (fun fb => by kernel_rfl) (slices_IndexFunc_int_int_with_tile_colour_1_calls _ p0 Aa ca t2 _ (hS.rd 0) ht3) (fun v w4 hR5 => ?_)
 obtain ⟨rfl, hk_⟩ := hR5
 have hS6 := hS.keepN hk_
 refine ⟨trivial, ?_⟩
 refine seg 5 [] [4] [(4, (bv (decide (t2 ≥ 0))))] [] (fun fb => by kernel_rfl) rfl trivial ?_
 refine WL.done rfl (WX.next ?_)
 refine WC.ret ?_
 injection hf with hf
 subst hf
 exact WX.ret_ [] (bv (decide (t2 ≥ 0))) [] (fun fb => by kernel_rfl) trivial ⟨_, rfl, rfl, hS6.keep⟩
theorem tile_colour_calls (k : Nat) (p0 : List Int) (Aa : Option Addr) (ca : Nat) (r : Bool) (w : World) (hR0 : RO NoS w (rowR encInt Aa ca p0)) (hf : tile_colour k p0 = some r) :
  CallsR Tryd.prog 27 #[(sv Aa p0 ca)] w (fun v w' => v = (bv r) ∧ Keeps NoS w w') := by
 have hS : St NoS w w [rowR encInt Aa ca p0] [] := St.init (ro_cons hR0 (ro_nil _ _))
 refine enter 6 Tryd.func27 rfl Tryd.ntmps27 rfl ?_
 unfold tile_colour at hf
 refine WC.seq (WC.region ?_)
 refine seg 1 [] [0] [(0, (sv Aa p0 ca))] [] (fun fb => by kernel_rfl) rfl trivial ?_
 refine WL.done rfl (WX.next (WC.seq (WC.region ?_)))
 refine seg 1 [] [3] [(3, (sv Aa p0 ca))] [] (fun fb => by kernel_rfl) rfl trivial ?_
 obtain ⟨t2, ht3, hf⟩ := bind_some hf
 refine WL.call (some 4) 39 #[(sv Aa p0 ca), (.func (.func 40) #[] #[])] (fun fb => by kernel_rfl) (slices_ContainsFunc_int_int_with_tile_colour_1_calls _ p0 Aa ca t2 _ (hS.rd 0) ht3) (fun v w4 hR5 => ?_)
 obtain ⟨rfl, hk_⟩ := hR5
 have hS6 := hS.keepN hk_
 refine ⟨trivial, ?_⟩
 refine seg 4 [] [2] [(2, (bv (!t2)))] [] (fun fb => by kernel_rfl) rfl trivial ?_
 refine WL.done rfl (WX.next ?_)
 refine WC.ret ?_
 injection hf with hf
 subst hf
 exact WX.ret_ [] (bv (!t2)) [] (fun fb => by kernel_rfl) trivial ⟨_, rfl, rfl, hS6.keep⟩
theorem tile_Valid_key50 : KeyK Tryd.prog 50 (aggI ints_Tile) := KeyK.struct (n := 4) (by kernel_rfl) ints_Tile (fun _ => rfl) (fun x y h => by cases x; cases y; simp only [ints_Tile, List.cons.injEq, and_true] at h; obtain ⟨rfl, rfl, rfl, rfl⟩ := h; rfl)
theorem tile_Valid_calls (k : Nat) (p0 : List Tile) (Aa : Option Addr) (ca : Nat) (r : Bool) (w : World) (hR0 : RO NoS w (rowR enc_Tile Aa ca p0)) (hf : tile_Valid k p0 = some r) :
  CallsR Tryd.prog 14 #[(sv Aa p0 ca)] w (fun v w' => v = (bv r) ∧ Keeps NoS w w') := by
 have hS : St NoS w w [rowR enc_Tile Aa ca p0] [] := St.init (ro_cons hR0 (ro_nil _ _))
 refine enter 35 Tryd.func14 rfl Tryd.ntmps14 rfl ?_
 unfold tile_Valid at hf
 refine WC.seq (WC.region ?_)
 refine seg 1 [] [0] [(0, (sv Aa p0 ca))] [] (fun fb => by kernel_rfl) rfl trivial ?_
 refine WL.done rfl (WX.next (WC.seq (WC.seq (WC.region ?_))))
 refine seg 3 [] [0, 8] [(0, (sv Aa p0 ca)), (8, (bv (decide ((p0.length : Int) > 1000))))] [] (fun fb => by kernel_rfl) rfl trivial ?_
 refine WL.done rfl (WX.next ?_)
 rcases br_some hf with ⟨h3, hf⟩ | ⟨h3, hf⟩
 ·refine WC.condT2 (fun fb => by kernel_rfl) h3 ?_
  refine WC.seq (WC.region ?_)
  refine seg 1 [] [2] [(2, (bv false))] [] (fun fb => by kernel_rfl) rfl trivial ?_
  refine WL.done rfl (WX.next ?_)
  refine WC.ret ?_
  injection hf with hf
  subst hf
  exact WX.thenR (WX.ret_ [] (bv false) [] (fun fb => by kernel_rfl) trivial ⟨_, rfl, rfl, hS.keep⟩)
 refine WC.condF2 (fun fb => by kernel_rfl) h3 ?_
 refine WC.skip (WX.next (WC.seq (WC.region ?_)))
 refine WL.new hS 9 [] (fun g => (.map (some g))) (mapObj (aggI ints_Tile) vB ([] : List (Tile × Bool))) [] (fun fb g => by kernel_rfl) trivial (fun g4 w5 hS6 => ?_)
 refine ⟨trivial, ?_⟩
 refine seg 2 [] [0, 3] [(0, (sv Aa p0 ca)), (3, (.map (some g4)))] [] (fun fb => by kernel_rfl) rfl trivial ?_
 refine WL.done rfl (WX.next (WC.seq (WC.seq (WC.region ?_))))
 refine seg 3 [] [3, 10, 11, 12] [(3, (.map (some g4))), (10, (sv Aa p0 ca)), (11, (iv (p0.length : Int))), (12, (iv 0))] [] (fun fb => by kernel_rfl) rfl trivial ?_
 refine WL.done rfl (WX.next ?_)
 obtain ⟨x9, hx10, hf⟩ := bind_some hf
 refine WC.cutN (T := Unit) (fun t => []) (fun t w1 => St NoS w w1 [rowR enc_Tile Aa ca p0] [] ∧ x9 = .inr t) (fun Kx9 => ?_) ?_
 ·
  refine WC.block ?_
  refine WC.loop (T := (List (Tile × Bool)) × Int) (fun t => [(3, (.map (some g4))), (10, (sv Aa p0 ca)), (11, (iv (p0.length : Int))), (12, (iv t.2))]) (fun n t w1 => St NoS w w1 [rowR enc_Tile Aa ca p0] [blk g4 (mapObj (aggI ints_Tile) vB t.1)] ∧ tile_Valid.l0 n t.1 t.2 p0 = some x9) k (([] : List (Tile × Bool)), 0) [3, 10, 11, 12] rfl ⟨(hS6.subR [0]).sub [0] (by decide), hx10⟩ ?_
  rintro k11 ⟨l7, x8⟩ w12 ⟨hS13, hl15⟩
  cases k11 with
  | zero => rw [tile_Valid.l0] at hl15; cases hl15
  | succ k11 =>
   rw [tile_Valid.l0] at hl15
   refine WC.seq (WC.region ?_)
   refine seg 1 [] [3, 10, 11, 12, 13] [(3, (.map (some g4))), (10, (sv Aa p0 ca)), (11, (iv (p0.length : Int))), (12, (iv x8)), (13, (bv (decide (x8 < (p0.length : Int)))))] [] (fun fb => by kernel_rfl) rfl trivial ?_
   refine WL.done rfl (WX.next (WC.seq ?_))
   rcases br_some hl15 with ⟨h16, hl15⟩ | ⟨h16, hl15⟩
   ·refine WC.condT2 (fun fb => by kernel_rfl) h16 ?_
    refine WC.skip (WX.next (WC.seq (WC.block (WC.seq (WC.region ?_)))))
    obtain ⟨h17, hl15⟩ := as_some hl15
    refine seg 2 [.v (iv ((rdD p0 x8 z_Tile).N)), .v (iv ((rdD p0 x8 z_Tile).E)), .v (iv ((rdD p0 x8 z_Tile).S)), .v (iv ((rdD p0 x8 z_Tile).W))] [3, 10, 11, 12, 15] [(3, (.map (some g4))), (10, (sv Aa p0 ca)), (11, (iv (p0.length : Int))), (12, (iv x8)), (15, (.agg #[(iv ((rdD p0 x8 z_Tile).N)), (iv ((rdD p0 x8 z_Tile).E)), (iv ((rdD p0 x8 z_Tile).S)), (iv ((rdD p0 x8 z_Tile).W))]))] [.idx Aa x8 p0.length, .cell ((adr Aa).add ((x8).toNat * 4)) (iv ((rdD p0 x8 z_Tile).N)), .cell (((adr Aa).add ((x8).toNat * 4)).add 1) (iv ((rdD p0 x8 z_Tile).E)), .cell (((adr Aa).add ((x8).toNat * 4)).add 2) (iv ((rdD p0 x8 z_Tile).S)), .cell (((adr Aa).add ((x8).toNat * 4)).add 3) (iv ((rdD p0 x8 z_Tile).W))] (fun fb => by kernel_rfl) rfl ⟨rowR.adr (hS13.rd 0).1 h17.1 h17.2, rowR.cell (hS13.rd 0).1 z_Tile h17.1 h17.2 0 rfl, rowR.cell (hS13.rd 0).1 z_Tile h17.1 h17.2 1 rfl, rowR.cell (hS13.rd 0).1 z_Tile h17.1 h17.2 2 rfl, rowR.cell (hS13.rd 0).1 z_Tile h17.1 h17.2 3 rfl, trivial⟩ ?_
    refine WL.new hS13 5 [] (fun g => (pt g)) (.cells #[(iv 0), (iv 0), (iv 0), (iv 0)] 50 (0, 0)) [] (fun fb g => by kernel_rfl) trivial (fun g18 w19 hS20 => ?_)
    refine ⟨trivial, ?_⟩
    refine WL.store hS20 0 rfl [(0, (iv ((rdD p0 x8 z_Tile).N))), (1, (iv ((rdD p0 x8 z_Tile).E))), (2, (iv ((rdD p0 x8 z_Tile).S))), (3, (iv ((rdD p0 x8 z_Tile).W)))] #[(iv ((rdD p0 x8 z_Tile).N)), (iv ((rdD p0 x8 z_Tile).E)), (iv ((rdD p0 x8 z_Tile).S)), (iv ((rdD p0 x8 z_Tile).W))] (fun fb => by kernel_rfl) (by kernel_rfl) rfl [1] (by decide) (by decide) (fun w21 hS22 => ?_)
    refine ⟨trivial, ?_⟩
    refine WL.done rfl (WX.next (WC.seq (WC.seq (WC.region ?_))))
    refine seg 2 [.v (iv ((rdD p0 x8 z_Tile).N)), .v (iv ((rdD p0 x8 z_Tile).E)), .v (iv ((rdD p0 x8 z_Tile).S)), .v (iv ((rdD p0 x8 z_Tile).W))] [3, 5, 10, 11, 12, 16, 17] [(3, (.map (some g4))), (5, (pt g18)), (10, (sv Aa p0 ca)), (11, (iv (p0.length : Int))), (12, (iv x8)), (16, (.map (some g4))), (17, (.agg #[(iv ((rdD p0 x8 z_Tile).N)), (iv ((rdD p0 x8 z_Tile).E)), (iv ((rdD p0 x8 z_Tile).S)), (iv ((rdD p0 x8 z_Tile).W))]))] [.cell ⟨g18, 0, none⟩ (iv ((rdD p0 x8 z_Tile).N)), .cell ⟨g18, 1, none⟩ (iv ((rdD p0 x8 z_Tile).E)), .cell ⟨g18, 2, none⟩ (iv ((rdD p0 x8 z_Tile).S)), .cell ⟨g18, 3, none⟩ (iv ((rdD p0 x8 z_Tile).W))] (fun fb => by kernel_rfl) rfl ⟨hS22.cell 0 rfl 0 rfl, hS22.cell 0 rfl 1 rfl, hS22.cell 0 rfl 2 rfl, hS22.cell 0 rfl 3 rfl, trivial⟩ ?_
    refine WL.lookup (hS22.own 1).1 (rdD p0 x8 z_Tile) (d := 18) (c := false) (t := 52) (kT := 50) (eT := 4) (z := false) (kE := (aggI ints_Tile)) (vE := vB) (l := l7) (bv (mget (rdD p0 x8 z_Tile) false l7)) (fun fb => by kernel_rfl) tile_Valid_key50 (by kernel_rfl) (fun _ => by kernel_rfl) rfl ?_
    refine ⟨trivial, ?_⟩
    refine seg 4 [] [3, 5, 10, 11, 12, 19] [(3, (.map (some g4))), (5, (pt g18)), (10, (sv Aa p0 ca)), (11, (iv (p0.length : Int))), (12, (iv x8)), (19, (bv (mget (rdD p0 x8 z_Tile) false l7)))] [] (fun fb => by kernel_rfl) rfl trivial ?_
    obtain ⟨x23, hx24, hl15⟩ := bind_some hl15
    refine WL.cutW (T := Bool) 16 (fun t => [(3, (.map (some g4))), (5, (pt g18)), (10, (sv Aa p0 ca)), (11, (iv (p0.length : Int))), (12, (iv x8)), (31, (bv t))]) (fun t w1 => (St NoS w w1 [rowR enc_Tile Aa ca p0] [blk g4 (mapObj (aggI ints_Tile) vB l7), blk g18 (.cells #[(iv ((rdD p0 x8 z_Tile).N)), (iv ((rdD p0 x8 z_Tile).E)), (iv ((rdD p0 x8 z_Tile).S)), (iv ((rdD p0 x8 z_Tile).W))] 50 (0, 0))] ∧ x23 = t) ∧ CellsOK [] w1) (fun K => ?_) ?_
    ·
     rcases br_some hx24 with ⟨h25, hx24⟩ | ⟨h25, hx24⟩
     ·
      refine WL.setB 19 h25 rfl ?_
      refine seg 16 [] [3, 5, 10, 11, 12, 31] [(3, (.map (some g4))), (5, (pt g18)), (10, (sv Aa p0 ca)), (11, (iv (p0.length : Int))), (12, (iv x8)), (31, (bv true))] [] (fun fb => by kernel_rfl) rfl trivial ?_
      injection hx24 with hx24
      exact WL.to K true [3, 5, 10, 11, 12, 31] rfl ⟨⟨(hS22.subR [0]).sub [1, 0] (by decide), hx24.symm⟩, trivial⟩
     refine WL.setB 19 h25 rfl ?_
     refine seg 12 [.v (iv ((rdD p0 x8 z_Tile).N)), .v (iv ((rdD p0 x8 z_Tile).E)), .v (iv ((rdD p0 x8 z_Tile).S)), .v (iv ((rdD p0 x8 z_Tile).W))] [3, 5, 10, 11, 12, 19, 21, 23, 25, 27] [(3, (.map (some g4))), (5, (pt g18)), (10, (sv Aa p0 ca)), (11, (iv (p0.length : Int))), (12, (iv x8)), (19, (bv false)), (21, (iv ((rdD p0 x8 z_Tile).N))), (23, (iv ((rdD p0 x8 z_Tile).E))), (25, (iv ((rdD p0 x8 z_Tile).S))), (27, (iv ((rdD p0 x8 z_Tile).W)))] [.cell ⟨g18, 0, none⟩ (iv ((rdD p0 x8 z_Tile).N)), .cell ⟨g18, 1, none⟩ (iv ((rdD p0 x8 z_Tile).E)), .cell ⟨g18, 2, none⟩ (iv ((rdD p0 x8 z_Tile).S)), .cell ⟨g18, 3, none⟩ (iv ((rdD p0 x8 z_Tile).W))] (fun fb => by kernel_rfl) rfl ⟨hS22.cell 0 rfl 0 rfl, hS22.cell 0 rfl 1 rfl, hS22.cell 0 rfl 2 rfl, hS22.cell 0 rfl 3 rfl, trivial⟩ ?_
     refine WL.new hS22 28 [] (fun g => (.slice (some ⟨g, 0, none⟩) 4 4)) (.cells #[(iv ((rdD p0 x8 z_Tile).N)), (iv ((rdD p0 x8 z_Tile).E)), (iv ((rdD p0 x8 z_Tile).S)), (iv ((rdD p0 x8 z_Tile).W))] 3 (0, 0)) [] (fun fb g => by kernel_rfl) trivial (fun g26 w27 hS28 => ?_)
     refine ⟨trivial, ?_⟩
     have hS29 := hS.go w27 [rowO 3 encInt (some ⟨g26, 0, none⟩) 4 [(rdD p0 x8 z_Tile).N, (rdD p0 x8 z_Tile).E, (rdD p0 x8 z_Tile).S, (rdD p0 x8 z_Tile).W], blk g18 (.cells #[(iv ((rdD p0 x8 z_Tile).N)), (iv ((rdD p0 x8 z_Tile).E)), (iv ((rdD p0 x8 z_Tile).S)), (iv ((rdD p0 x8 z_Tile).W))] 50 (0, 0)), blk g4 (mapObj (aggI ints_Tile) vB l7)] (hS28.map1 0 _ (fun h => rowO.ofBlk h rfl (Nat.le_of_ble_eq_true (by kernel_rfl))) (fun _ h => by obtain ⟨_, h1, h2⟩ := h; injection h1 with h1; subst h1; exact h2) [1, 2] (by decide) (by decide))
     obtain ⟨t30, ht31, hx24⟩ := bind_some hx24
     refine WL.call (some 29) 27 #[(sv (some ⟨g26, 0, none⟩) [(rdD p0 x8 z_Tile).N, (rdD p0 x8 z_Tile).E, (rdD p0 x8 z_Tile).S, (rdD p0 x8 z_Tile).W] 4)] (fun fb => by kernel_rfl) (tile_colour_calls _ [(rdD p0 x8 z_Tile).N, (rdD p0 x8 z_Tile).E, (rdD p0 x8 z_Tile).S, (rdD p0 x8 z_Tile).W] (some ⟨g26, 0, none⟩) 4 t30 _ (hS29.ow 0).ofO ht31) (fun v w32 hR33 => ?_)
     obtain ⟨rfl, hk_⟩ := hR33
     have hS34 := hS29.keepN hk_
     refine ⟨trivial, ?_⟩
     refine seg 16 [] [3, 5, 10, 11, 12, 31] [(3, (.map (some g4))), (5, (pt g18)), (10, (sv Aa p0 ca)), (11, (iv (p0.length : Int))), (12, (iv x8)), (31, (bv (!t30)))] [] (fun fb => by kernel_rfl) rfl trivial ?_
     injection hx24 with hx24
     exact WL.to K (!t30) [3, 5, 10, 11, 12, 31] rfl ⟨⟨(hS34.subR [0]).sub [2, 1] (by decide), hx24.symm⟩, trivial⟩
    rintro y35 w37 ⟨⟨hS38, hq36⟩, hF39⟩
    subst hq36
    refine WL.done rfl (WX.next ?_)
    rcases br_some hl15 with ⟨h40, hl15⟩ | ⟨h40, hl15⟩
    ·refine WC.condT2 (fun fb => by kernel_rfl) h40 ?_
     refine WC.seq (WC.region ?_)
     refine seg 1 [] [2] [(2, (bv false))] [] (fun fb => by kernel_rfl) rfl trivial ?_
     refine WL.done rfl (WX.next ?_)
     refine WC.ret ?_
     injection hl15 with hl15
     subst hl15
     injection hf with hf
     subst hf
     exact WX.thenR (WX.blockR (WX.thenR (WX.thenR (WX.blockR (WX.thenR (WX.ret_ [] (bv false) [] (fun fb => by kernel_rfl) trivial ⟨_, rfl, rfl, hS38.keep⟩))))))
    refine WC.condF2 (fun fb => by kernel_rfl) h40 ?_
    refine WC.skip (WX.next (WC.region ?_))
    refine seg 2 [.v (iv ((rdD p0 x8 z_Tile).N)), .v (iv ((rdD p0 x8 z_Tile).E)), .v (iv ((rdD p0 x8 z_Tile).S)), .v (iv ((rdD p0 x8 z_Tile).W))] [3, 10, 11, 12, 32, 33] [(3, (.map (some g4))), (10, (sv Aa p0 ca)), (11, (iv (p0.length : Int))), (12, (iv x8)), (32, (.map (some g4))), (33, (.agg #[(iv ((rdD p0 x8 z_Tile).N)), (iv ((rdD p0 x8 z_Tile).E)), (iv ((rdD p0 x8 z_Tile).S)), (iv ((rdD p0 x8 z_Tile).W))]))] [.cell ⟨g18, 0, none⟩ (iv ((rdD p0 x8 z_Tile).N)), .cell ⟨g18, 1, none⟩ (iv ((rdD p0 x8 z_Tile).E)), .cell ⟨g18, 2, none⟩ (iv ((rdD p0 x8 z_Tile).S)), .cell ⟨g18, 3, none⟩ (iv ((rdD p0 x8 z_Tile).W))] (fun fb => by kernel_rfl) rfl ⟨hS38.cell 1 rfl 0 rfl, hS38.cell 1 rfl 1 rfl, hS38.cell 1 rfl 2 rfl, hS38.cell 1 rfl 3 rfl, trivial⟩ ?_
    refine WL.mapput hS38 0 (t := 52) (kT := 50) (eT := 4) (kE := (aggI ints_Tile)) (vE := vB) (l := l7) rfl (rdD p0 x8 z_Tile) true (fun fb => by kernel_rfl) tile_Valid_key50 (by kernel_rfl) [1] (by decide) (by decide) (fun w41 hS42 => ?_)
    refine ⟨trivial, ?_⟩
    refine WL.done rfl ?_
    refine WX.blockN (WX.next ?_)
    refine WC.region ?_
    refine seg 2 [] [3, 10, 11, 12] [(3, (.map (some g4))), (10, (sv Aa p0 ca)), (11, (iv (p0.length : Int))), (12, (iv (w64 (x8 + 1))))] [] (fun fb => by kernel_rfl) rfl trivial ?_
    refine WL.done rfl ?_
    exact WX.again k11 (Nat.lt_succ_self _) (mput (rdD p0 x8 z_Tile) true l7, w64 (x8 + 1)) [3, 10, 11, 12] rfl ⟨(hS42.subR [0]).sub [0] (by decide), hl15⟩
   refine WC.condF2 (fun fb => by kernel_rfl) h16 ?_
   refine WC.exit ?_
   injection hl15 with hl15
   exact WX.thenX (WX.thenX (WX.blockHere (WX.to Kx9 () [] rfl ⟨(hS13.subR [0]).sub [] (by decide), hl15.symm⟩)))
 rintro y46 w43 ⟨hS44, hq45⟩
 subst hq45
 have hf := sum_inr hf
 refine WX.next (WC.seq (WC.region ?_))
 refine seg 1 [] [2] [(2, (bv true))] [] (fun fb => by kernel_rfl) rfl trivial ?_
 refine WL.done rfl (WX.next ?_)
 refine WC.ret ?_
 injection hf with hf
 subst hf
 exact WX.ret_ [] (bv true) [] (fun fb => by kernel_rfl) trivial ⟨_, rfl, rfl, hS44.keep⟩
theorem tile_write_calls (k : Nat) (p0 : List Tile) (Aa : Option Addr) (ca : Nat) (mG : Glo) (r : ByteArray) (w : World) (hR0 : RO NoS w (rowR enc_Tile Aa ca p0)) (hR1 : RO NoS w (gloO Tryd.prog 2 5 0 1 mG)) (hf : tile_write k p0 = some r) :
  CallsR Tryd.prog 25 #[(sv Aa p0 ca)] w (fun v w' => v = (.string r) ∧ Keeps NoS w w') := by
 have hS : St NoS w w [rowR enc_Tile Aa ca p0, gloO Tryd.prog 2 5 0 1 mG] [] := St.init (ro_cons hR0 (ro_cons hR1 (ro_nil _ _)))
 refine enter 41 Tryd.func25 rfl Tryd.ntmps25 rfl ?_
 unfold tile_write at hf
 refine WC.seq (WC.region ?_)
 refine seg 1 [] [0] [(0, (sv Aa p0 ca))] [] (fun fb => by kernel_rfl) rfl trivial ?_
 refine WL.done rfl (WX.next (WC.seq (WC.region ?_)))
 refine seg 1 [] [0, 3] [(0, (sv Aa p0 ca)), (3, (.slice none 0 0))] [] (fun fb => by kernel_rfl) rfl trivial ?_
 refine WL.done rfl (WX.next (WC.seq (WC.seq (WC.region ?_))))
 refine seg 3 [] [3, 9, 10, 11] [(3, (.slice none 0 0)), (9, (sv Aa p0 ca)), (10, (iv (p0.length : Int))), (11, (iv 0))] [] (fun fb => by kernel_rfl) rfl trivial ?_
 refine WL.done rfl (WX.next ?_)
 have hS3 := hS.nilrow 9 encStr
 obtain ⟨x10, hx11, hf⟩ := bind_some hf
 refine WC.cutN (T := (List ByteArray) × (Option Addr) × Nat) (fun t => [(3, (sv t.2.1 t.1 t.2.2))]) (fun t w1 => St NoS w w1 [rowR enc_Tile Aa ca p0, gloO Tryd.prog 2 5 0 1 mG] [rowO 9 encStr t.2.1 t.2.2 t.1] ∧ x10 = t.1) (fun Kx10 => ?_) ?_
 ·
  refine WC.block ?_
  refine WC.loop (T := ((List ByteArray) × Int) × (Option Addr) × Nat) (fun t => [(3, (sv t.2.1 t.1.1 t.2.2)), (9, (sv Aa p0 ca)), (10, (iv (p0.length : Int))), (11, (iv t.1.2))]) (fun n t w1 => St NoS w w1 [rowR enc_Tile Aa ca p0, gloO Tryd.prog 2 5 0 1 mG] [rowO 9 encStr t.2.1 t.2.2 t.1.1] ∧ tile_write.l0 n t.1.1 t.1.2 p0 = some x10) k ((([] : List ByteArray), 0), none, 0) [3, 9, 10, 11] rfl ⟨(hS3.subR [0, 1]).sub [0] (by decide), hx11⟩ ?_
  rintro k12 ⟨⟨l6, x7⟩, A4, c5⟩ w13 ⟨hS14, hl15⟩
  cases k12 with
  | zero => rw [tile_write.l0] at hl15; cases hl15
  | succ k12 =>
   rw [tile_write.l0] at hl15
   refine WC.seq (WC.region ?_)
   refine seg 1 [] [3, 9, 10, 11, 12] [(3, (sv A4 l6 c5)), (9, (sv Aa p0 ca)), (10, (iv (p0.length : Int))), (11, (iv x7)), (12, (bv (decide (x7 < (p0.length : Int)))))] [] (fun fb => by kernel_rfl) rfl trivial ?_
   refine WL.done rfl (WX.next (WC.seq ?_))
   rcases br_some hl15 with ⟨h16, hl15⟩ | ⟨h16, hl15⟩
   ·refine WC.condT2 (fun fb => by kernel_rfl) h16 ?_
    refine WC.skip (WX.next (WC.seq (WC.block (WC.seq (WC.region ?_)))))
    obtain ⟨h17, hl15⟩ := as_some hl15
    refine seg 2 [.v (iv ((rdD p0 x7 z_Tile).N)), .v (iv ((rdD p0 x7 z_Tile).E)), .v (iv ((rdD p0 x7 z_Tile).S)), .v (iv ((rdD p0 x7 z_Tile).W))] [3, 9, 10, 11, 14] [(3, (sv A4 l6 c5)), (9, (sv Aa p0 ca)), (10, (iv (p0.length : Int))), (11, (iv x7)), (14, (.agg #[(iv ((rdD p0 x7 z_Tile).N)), (iv ((rdD p0 x7 z_Tile).E)), (iv ((rdD p0 x7 z_Tile).S)), (iv ((rdD p0 x7 z_Tile).W))]))] [.idx Aa x7 p0.length, .cell ((adr Aa).add ((x7).toNat * 4)) (iv ((rdD p0 x7 z_Tile).N)), .cell (((adr Aa).add ((x7).toNat * 4)).add 1) (iv ((rdD p0 x7 z_Tile).E)), .cell (((adr Aa).add ((x7).toNat * 4)).add 2) (iv ((rdD p0 x7 z_Tile).S)), .cell (((adr Aa).add ((x7).toNat * 4)).add 3) (iv ((rdD p0 x7 z_Tile).W))] (fun fb => by kernel_rfl) rfl ⟨rowR.adr (hS14.rd 0).1 h17.1 h17.2, rowR.cell (hS14.rd 0).1 z_Tile h17.1 h17.2 0 rfl, rowR.cell (hS14.rd 0).1 z_Tile h17.1 h17.2 1 rfl, rowR.cell (hS14.rd 0).1 z_Tile h17.1 h17.2 2 rfl, rowR.cell (hS14.rd 0).1 z_Tile h17.1 h17.2 3 rfl, trivial⟩ ?_
    refine WL.new hS14 5 [] (fun g => (pt g)) (.cells #[(iv 0), (iv 0), (iv 0), (iv 0)] 50 (0, 0)) [] (fun fb g => by kernel_rfl) trivial (fun g18 w19 hS20 => ?_)
    refine ⟨trivial, ?_⟩
    refine WL.store hS20 0 rfl [(0, (iv ((rdD p0 x7 z_Tile).N))), (1, (iv ((rdD p0 x7 z_Tile).E))), (2, (iv ((rdD p0 x7 z_Tile).S))), (3, (iv ((rdD p0 x7 z_Tile).W)))] #[(iv ((rdD p0 x7 z_Tile).N)), (iv ((rdD p0 x7 z_Tile).E)), (iv ((rdD p0 x7 z_Tile).S)), (iv ((rdD p0 x7 z_Tile).W))] (fun fb => by kernel_rfl) (by kernel_rfl) rfl [1] (by decide) (by decide) (fun w21 hS22 => ?_)
    refine ⟨trivial, ?_⟩
    refine WL.done rfl (WX.next (WC.seq (WC.region ?_)))
    refine seg 1 [] [3, 5, 6, 9, 10, 11] [(3, (sv A4 l6 c5)), (5, (pt g18)), (6, (.slice none 0 0)), (9, (sv Aa p0 ca)), (10, (iv (p0.length : Int))), (11, (iv x7))] [] (fun fb => by kernel_rfl) rfl trivial ?_
    refine WL.done rfl (WX.next (WC.seq (WC.seq (WC.region ?_))))
    refine seg 10 [.v (iv ((rdD p0 x7 z_Tile).N)), .v (iv ((rdD p0 x7 z_Tile).E)), .v (iv ((rdD p0 x7 z_Tile).S)), .v (iv ((rdD p0 x7 z_Tile).W))] [3, 6, 9, 10, 11, 23, 24] [(3, (sv A4 l6 c5)), (6, (.slice none 0 0)), (9, (sv Aa p0 ca)), (10, (iv (p0.length : Int))), (11, (iv x7)), (23, (.agg #[(iv ((rdD p0 x7 z_Tile).N)), (iv ((rdD p0 x7 z_Tile).E)), (iv ((rdD p0 x7 z_Tile).S)), (iv ((rdD p0 x7 z_Tile).W))])), (24, (iv 0))] [.cell ⟨g18, 0, none⟩ (iv ((rdD p0 x7 z_Tile).N)), .cell ⟨g18, 1, none⟩ (iv ((rdD p0 x7 z_Tile).E)), .cell ⟨g18, 2, none⟩ (iv ((rdD p0 x7 z_Tile).S)), .cell ⟨g18, 3, none⟩ (iv ((rdD p0 x7 z_Tile).W))] (fun fb => by kernel_rfl) rfl ⟨hS22.cell 0 rfl 0 rfl, hS22.cell 0 rfl 1 rfl, hS22.cell 0 rfl 2 rfl, hS22.cell 0 rfl 3 rfl, trivial⟩ ?_
    refine WL.done rfl (WX.next ?_)
    have hS23 := hS22.nilrow 9 encStr
    obtain ⟨x31, hx32, hl15⟩ := bind_some hl15
    refine WC.cutN (T := (List ByteArray) × (Option Addr) × Nat) (fun t => [(3, (sv A4 l6 c5)), (6, (sv t.2.1 t.1 t.2.2)), (9, (sv Aa p0 ca)), (10, (iv (p0.length : Int))), (11, (iv x7))]) (fun t w1 => St NoS w w1 [rowR enc_Tile Aa ca p0, gloO Tryd.prog 2 5 0 1 mG] [rowO 9 encStr A4 c5 l6, rowO 9 encStr t.2.1 t.2.2 t.1] ∧ x31 = t.1) (fun Kx31 => ?_) ?_
    ·
     refine WC.block ?_
     refine WC.loop (T := ((List ByteArray) × Int) × (Option Addr) × Nat) (fun t => [(3, (sv A4 l6 c5)), (6, (sv t.2.1 t.1.1 t.2.2)), (9, (sv Aa p0 ca)), (10, (iv (p0.length : Int))), (11, (iv x7)), (23, (.agg #[(iv ((rdD p0 x7 z_Tile).N)), (iv ((rdD p0 x7 z_Tile).E)), (iv ((rdD p0 x7 z_Tile).S)), (iv ((rdD p0 x7 z_Tile).W))])), (24, (iv t.1.2))]) (fun n t w1 => St NoS w w1 [rowR enc_Tile Aa ca p0, gloO Tryd.prog 2 5 0 1 mG] [rowO 9 encStr A4 c5 l6, rowO 9 encStr t.2.1 t.2.2 t.1.1] ∧ tile_write.l1 n t.1.1 t.1.2 p0 x7 = some x31) k12 ((([] : List ByteArray), 0), none, 0) [3, 6, 9, 10, 11, 23, 24] rfl ⟨(hS23.subR [0, 1]).sub [2, 0] (by decide), hx32⟩ ?_
     rintro k33 ⟨⟨l27, x28⟩, A24, c26⟩ w34 ⟨hS35, hl36⟩
     cases k33 with
     | zero => rw [tile_write.l1] at hl36; cases hl36
     | succ k33 =>
      rw [tile_write.l1] at hl36
      refine WC.seq (WC.region ?_)
      refine seg 1 [] [3, 6, 9, 10, 11, 23, 24, 25] [(3, (sv A4 l6 c5)), (6, (sv A24 l27 c26)), (9, (sv Aa p0 ca)), (10, (iv (p0.length : Int))), (11, (iv x7)), (23, (.agg #[(iv ((rdD p0 x7 z_Tile).N)), (iv ((rdD p0 x7 z_Tile).E)), (iv ((rdD p0 x7 z_Tile).S)), (iv ((rdD p0 x7 z_Tile).W))])), (24, (iv x28)), (25, (bv (decide (x28 < 4))))] [] (fun fb => by kernel_rfl) rfl trivial ?_
      refine WL.done rfl (WX.next (WC.seq ?_))
      rcases br_some hl36 with ⟨h37, hl36⟩ | ⟨h37, hl36⟩
      ·refine WC.condT2 (fun fb => by kernel_rfl) h37 ?_
       refine WC.skip (WX.next (WC.seq (WC.block (WC.seq (WC.region ?_)))))
       rcases br_some hl36 with ⟨h38, hl36⟩ | ⟨h38, hl36⟩
       ·
        refine WL.setI 24 (eq_of_beq h38) rfl ?_
        refine seg 1 [] [3, 6, 9, 10, 11, 23, 24, 26] [(3, (sv A4 l6 c5)), (6, (sv A24 l27 c26)), (9, (sv Aa p0 ca)), (10, (iv (p0.length : Int))), (11, (iv x7)), (23, (.agg #[(iv ((rdD p0 x7 z_Tile).N)), (iv ((rdD p0 x7 z_Tile).E)), (iv ((rdD p0 x7 z_Tile).S)), (iv ((rdD p0 x7 z_Tile).W))])), (24, (iv 0)), (26, (iv ((rdD p0 x7 z_Tile).N)))] [] (fun fb => by kernel_rfl) rfl trivial ?_
        refine WL.setI 24 (eq_of_beq h38).symm rfl ?_
        refine seg 2 [] [3, 6, 8, 9, 10, 11, 23, 24] [(3, (sv A4 l6 c5)), (6, (sv A24 l27 c26)), (8, (iv ((rdD p0 x7 z_Tile).N))), (9, (sv Aa p0 ca)), (10, (iv (p0.length : Int))), (11, (iv x7)), (23, (.agg #[(iv ((rdD p0 x7 z_Tile).N)), (iv ((rdD p0 x7 z_Tile).E)), (iv ((rdD p0 x7 z_Tile).S)), (iv ((rdD p0 x7 z_Tile).W))])), (24, (iv x28))] [] (fun fb => by kernel_rfl) rfl trivial ?_
        refine WL.done rfl (WX.next (WC.region ?_))
        refine seg 2 [] [3, 9, 10, 11, 23, 24, 27, 28] [(3, (sv A4 l6 c5)), (9, (sv Aa p0 ca)), (10, (iv (p0.length : Int))), (11, (iv x7)), (23, (.agg #[(iv ((rdD p0 x7 z_Tile).N)), (iv ((rdD p0 x7 z_Tile).E)), (iv ((rdD p0 x7 z_Tile).S)), (iv ((rdD p0 x7 z_Tile).W))])), (24, (iv x28)), (27, (sv A24 l27 c26)), (28, (iv ((rdD p0 x7 z_Tile).N)))] [] (fun fb => by kernel_rfl) rfl trivial ?_
        obtain ⟨t42, ht43, hl36⟩ := bind_some hl36
        refine WL.call (some 29) 36 #[(iv ((rdD p0 x7 z_Tile).N))] (fun fb => by kernel_rfl) (itoaN_calls Tryd.strconv_Itoa ((rdD p0 x7 z_Tile).N) t42 _ (hS35.rd 1) ht43) (fun v w40 hR39 => ?_)
        obtain ⟨rfl, hk_⟩ := hR39
        have hS41 := hS35.keepN hk_
        refine ⟨trivial, ?_⟩
        refine WL.new hS41 30 [] (fun g => (.slice (some ⟨g, 0, none⟩) 1 1)) (.cells #[(.string t42)] 9 (0, 0)) [] (fun fb g => by kernel_rfl) trivial (fun g44 w45 hS46 => ?_)
        refine ⟨trivial, ?_⟩
        have hS47 := hS.go w45 [rowO 9 encStr (some ⟨g44, 0, none⟩) 1 [t42], rowO 9 encStr A4 c5 l6, rowO 9 encStr A24 c26 l27] (hS46.map1 0 _ (fun h => rowO.ofBlk h rfl (Nat.le_of_ble_eq_true (by kernel_rfl))) (fun _ h => by obtain ⟨_, h1, h2⟩ := h; injection h1 with h1; subst h1; exact h2) [1, 2] (by decide) (by decide))
        obtain ⟨h48, hl36⟩ := as_some hl36
        refine WL.append hS47 2 (d := 31) (tS := 42) (z := (.string ByteArray.empty)) (bytes := 16) (c2 := 1) rfl (fun fb => by kernel_rfl) (rowO.rd (hS47.own 0).1) (by kernel_rfl) (by kernel_rfl) rfl (by decide) h48 (by decide) [0, 1] (by decide) (by decide) (fun A49 c50 w51 hS52 => ?_)
        refine ⟨trivial, ?_⟩
        refine seg 6 [] [3, 6, 9, 10, 11, 23, 24] [(3, (sv A4 l6 c5)), (6, (sv A49 (l27 ++ [t42]) c50)), (9, (sv Aa p0 ca)), (10, (iv (p0.length : Int))), (11, (iv x7)), (23, (.agg #[(iv ((rdD p0 x7 z_Tile).N)), (iv ((rdD p0 x7 z_Tile).E)), (iv ((rdD p0 x7 z_Tile).S)), (iv ((rdD p0 x7 z_Tile).W))])), (24, (iv x28))] [] (fun fb => by kernel_rfl) rfl trivial ?_
        refine WL.done rfl ?_
        refine WX.blockN (WX.next ?_)
        refine WC.region ?_
        refine seg 2 [] [3, 6, 9, 10, 11, 23, 24] [(3, (sv A4 l6 c5)), (6, (sv A49 (l27 ++ [t42]) c50)), (9, (sv Aa p0 ca)), (10, (iv (p0.length : Int))), (11, (iv x7)), (23, (.agg #[(iv ((rdD p0 x7 z_Tile).N)), (iv ((rdD p0 x7 z_Tile).E)), (iv ((rdD p0 x7 z_Tile).S)), (iv ((rdD p0 x7 z_Tile).W))])), (24, (iv (w64 (x28 + 1))))] [] (fun fb => by kernel_rfl) rfl trivial ?_
        refine WL.done rfl ?_
        exact WX.again k33 (Nat.lt_succ_self _) ((l27 ++ [t42], w64 (x28 + 1)), A49, c50) [3, 6, 9, 10, 11, 23, 24] rfl ⟨(hS52.subR [0, 1]).sub [2, 0] (by decide), hl36⟩
       rcases br_some hl36 with ⟨h53, hl36⟩ | ⟨h53, hl36⟩
       ·
        refine WL.setI 24 (eq_of_beq h53) rfl ?_
        refine seg 1 [] [3, 6, 9, 10, 11, 23, 24, 26] [(3, (sv A4 l6 c5)), (6, (sv A24 l27 c26)), (9, (sv Aa p0 ca)), (10, (iv (p0.length : Int))), (11, (iv x7)), (23, (.agg #[(iv ((rdD p0 x7 z_Tile).N)), (iv ((rdD p0 x7 z_Tile).E)), (iv ((rdD p0 x7 z_Tile).S)), (iv ((rdD p0 x7 z_Tile).W))])), (24, (iv 1)), (26, (iv ((rdD p0 x7 z_Tile).E)))] [] (fun fb => by kernel_rfl) rfl trivial ?_
        refine WL.setI 24 (eq_of_beq h53).symm rfl ?_
        refine seg 2 [] [3, 6, 8, 9, 10, 11, 23, 24] [(3, (sv A4 l6 c5)), (6, (sv A24 l27 c26)), (8, (iv ((rdD p0 x7 z_Tile).E))), (9, (sv Aa p0 ca)), (10, (iv (p0.length : Int))), (11, (iv x7)), (23, (.agg #[(iv ((rdD p0 x7 z_Tile).N)), (iv ((rdD p0 x7 z_Tile).E)), (iv ((rdD p0 x7 z_Tile).S)), (iv ((rdD p0 x7 z_Tile).W))])), (24, (iv x28))] [] (fun fb => by kernel_rfl) rfl trivial ?_
        refine WL.done rfl (WX.next (WC.region ?_))
        refine seg 2 [] [3, 9, 10, 11, 23, 24, 27, 28] [(3, (sv A4 l6 c5)), (9, (sv Aa p0 ca)), (10, (iv (p0.length : Int))), (11, (iv x7)), (23, (.agg #[(iv ((rdD p0 x7 z_Tile).N)), (iv ((rdD p0 x7 z_Tile).E)), (iv ((rdD p0 x7 z_Tile).S)), (iv ((rdD p0 x7 z_Tile).W))])), (24, (iv x28)), (27, (sv A24 l27 c26)), (28, (iv ((rdD p0 x7 z_Tile).E)))] [] (fun fb => by kernel_rfl) rfl trivial ?_
        obtain ⟨t57, ht58, hl36⟩ := bind_some hl36
        refine WL.call (some 29) 36 #[(iv ((rdD p0 x7 z_Tile).E))] (fun fb => by kernel_rfl) (itoaN_calls Tryd.strconv_Itoa ((rdD p0 x7 z_Tile).E) t57 _ (hS35.rd 1) ht58) (fun v w55 hR54 => ?_)
        obtain ⟨rfl, hk_⟩ := hR54
        have hS56 := hS35.keepN hk_
        refine ⟨trivial, ?_⟩
        refine WL.new hS56 30 [] (fun g => (.slice (some ⟨g, 0, none⟩) 1 1)) (.cells #[(.string t57)] 9 (0, 0)) [] (fun fb g => by kernel_rfl) trivial (fun g59 w60 hS61 => ?_)
        refine ⟨trivial, ?_⟩
        have hS62 := hS.go w60 [rowO 9 encStr (some ⟨g59, 0, none⟩) 1 [t57], rowO 9 encStr A4 c5 l6, rowO 9 encStr A24 c26 l27] (hS61.map1 0 _ (fun h => rowO.ofBlk h rfl (Nat.le_of_ble_eq_true (by kernel_rfl))) (fun _ h => by obtain ⟨_, h1, h2⟩ := h; injection h1 with h1; subst h1; exact h2) [1, 2] (by decide) (by decide))
        obtain ⟨h63, hl36⟩ := as_some hl36
        refine WL.append hS62 2 (d := 31) (tS := 42) (z := (.string ByteArray.empty)) (bytes := 16) (c2 := 1) rfl (fun fb => by kernel_rfl) (rowO.rd (hS62.own 0).1) (by kernel_rfl) (by kernel_rfl) rfl (by decide) h63 (by decide) [0, 1] (by decide) (by decide) (fun A65 c66 w67 hS68 => ?_)
        refine ⟨trivial, ?_⟩
        refine seg 6 [] [3, 6, 9, 10, 11, 23, 24] [(3, (sv A4 l6 c5)), (6, (sv A65 (l27 ++ [t57]) c66)), (9, (sv Aa p0 ca)), (10, (iv (p0.length : Int))), (11, (iv x7)), (23, (.agg #[(iv ((rdD p0 x7 z_Tile).N)), (iv ((rdD p0 x7 z_Tile).E)), (iv ((rdD p0 x7 z_Tile).S)), (iv ((rdD p0 x7 z_Tile).W))])), (24, (iv x28))] [] (fun fb => by kernel_rfl) rfl trivial ?_
        refine WL.done rfl ?_
        refine WX.blockN (WX.next ?_)
        refine WC.region ?_
        refine seg 2 [] [3, 6, 9, 10, 11, 23, 24] [(3, (sv A4 l6 c5)), (6, (sv A65 (l27 ++ [t57]) c66)), (9, (sv Aa p0 ca)), (10, (iv (p0.length : Int))), (11, (iv x7)), (23, (.agg #[(iv ((rdD p0 x7 z_Tile).N)), (iv ((rdD p0 x7 z_Tile).E)), (iv ((rdD p0 x7 z_Tile).S)), (iv ((rdD p0 x7 z_Tile).W))])), (24, (iv (w64 (x28 + 1))))] [] (fun fb => by kernel_rfl) rfl trivial ?_
        refine WL.done rfl ?_
        exact WX.again k33 (Nat.lt_succ_self _) ((l27 ++ [t57], w64 (x28 + 1)), A65, c66) [3, 6, 9, 10, 11, 23, 24] rfl ⟨(hS68.subR [0, 1]).sub [2, 0] (by decide), hl36⟩
       rcases br_some hl36 with ⟨h69, hl36⟩ | ⟨h69, hl36⟩
       ·
        refine WL.setI 24 (eq_of_beq h69) rfl ?_
        refine seg 1 [] [3, 6, 9, 10, 11, 23, 24, 26] [(3, (sv A4 l6 c5)), (6, (sv A24 l27 c26)), (9, (sv Aa p0 ca)), (10, (iv (p0.length : Int))), (11, (iv x7)), (23, (.agg #[(iv ((rdD p0 x7 z_Tile).N)), (iv ((rdD p0 x7 z_Tile).E)), (iv ((rdD p0 x7 z_Tile).S)), (iv ((rdD p0 x7 z_Tile).W))])), (24, (iv 2)), (26, (iv ((rdD p0 x7 z_Tile).S)))] [] (fun fb => by kernel_rfl) rfl trivial ?_
        refine WL.setI 24 (eq_of_beq h69).symm rfl ?_
        refine seg 2 [] [3, 6, 8, 9, 10, 11, 23, 24] [(3, (sv A4 l6 c5)), (6, (sv A24 l27 c26)), (8, (iv ((rdD p0 x7 z_Tile).S))), (9, (sv Aa p0 ca)), (10, (iv (p0.length : Int))), (11, (iv x7)), (23, (.agg #[(iv ((rdD p0 x7 z_Tile).N)), (iv ((rdD p0 x7 z_Tile).E)), (iv ((rdD p0 x7 z_Tile).S)), (iv ((rdD p0 x7 z_Tile).W))])), (24, (iv x28))] [] (fun fb => by kernel_rfl) rfl trivial ?_
        refine WL.done rfl (WX.next (WC.region ?_))
        refine seg 2 [] [3, 9, 10, 11, 23, 24, 27, 28] [(3, (sv A4 l6 c5)), (9, (sv Aa p0 ca)), (10, (iv (p0.length : Int))), (11, (iv x7)), (23, (.agg #[(iv ((rdD p0 x7 z_Tile).N)), (iv ((rdD p0 x7 z_Tile).E)), (iv ((rdD p0 x7 z_Tile).S)), (iv ((rdD p0 x7 z_Tile).W))])), (24, (iv x28)), (27, (sv A24 l27 c26)), (28, (iv ((rdD p0 x7 z_Tile).S)))] [] (fun fb => by kernel_rfl) rfl trivial ?_
        obtain ⟨t73, ht74, hl36⟩ := bind_some hl36
        refine WL.call (some 29) 36 #[(iv ((rdD p0 x7 z_Tile).S))] (fun fb => by kernel_rfl) (itoaN_calls Tryd.strconv_Itoa ((rdD p0 x7 z_Tile).S) t73 _ (hS35.rd 1) ht74) (fun v w71 hR70 => ?_)
        obtain ⟨rfl, hk_⟩ := hR70
        have hS72 := hS35.keepN hk_
        refine ⟨trivial, ?_⟩
        refine WL.new hS72 30 [] (fun g => (.slice (some ⟨g, 0, none⟩) 1 1)) (.cells #[(.string t73)] 9 (0, 0)) [] (fun fb g => by kernel_rfl) trivial (fun g75 w76 hS77 => ?_)
        refine ⟨trivial, ?_⟩
        have hS78 := hS.go w76 [rowO 9 encStr (some ⟨g75, 0, none⟩) 1 [t73], rowO 9 encStr A4 c5 l6, rowO 9 encStr A24 c26 l27] (hS77.map1 0 _ (fun h => rowO.ofBlk h rfl (Nat.le_of_ble_eq_true (by kernel_rfl))) (fun _ h => by obtain ⟨_, h1, h2⟩ := h; injection h1 with h1; subst h1; exact h2) [1, 2] (by decide) (by decide))
        obtain ⟨h79, hl36⟩ := as_some hl36
        refine WL.append hS78 2 (d := 31) (tS := 42) (z := (.string ByteArray.empty)) (bytes := 16) (c2 := 1) rfl (fun fb => by kernel_rfl) (rowO.rd (hS78.own 0).1) (by kernel_rfl) (by kernel_rfl) rfl (by decide) h79 (by decide) [0, 1] (by decide) (by decide) (fun A80 c81 w82 hS83 => ?_)
        refine ⟨trivial, ?_⟩
        refine seg 6 [] [3, 6, 9, 10, 11, 23, 24] [(3, (sv A4 l6 c5)), (6, (sv A80 (l27 ++ [t73]) c81)), (9, (sv Aa p0 ca)), (10, (iv (p0.length : Int))), (11, (iv x7)), (23, (.agg #[(iv ((rdD p0 x7 z_Tile).N)), (iv ((rdD p0 x7 z_Tile).E)), (iv ((rdD p0 x7 z_Tile).S)), (iv ((rdD p0 x7 z_Tile).W))])), (24, (iv x28))] [] (fun fb => by kernel_rfl) rfl trivial ?_
        refine WL.done rfl ?_
        refine WX.blockN (WX.next ?_)
        refine WC.region ?_
        refine seg 2 [] [3, 6, 9, 10, 11, 23, 24] [(3, (sv A4 l6 c5)), (6, (sv A80 (l27 ++ [t73]) c81)), (9, (sv Aa p0 ca)), (10, (iv (p0.length : Int))), (11, (iv x7)), (23, (.agg #[(iv ((rdD p0 x7 z_Tile).N)), (iv ((rdD p0 x7 z_Tile).E)), (iv ((rdD p0 x7 z_Tile).S)), (iv ((rdD p0 x7 z_Tile).W))])), (24, (iv (w64 (x28 + 1))))] [] (fun fb => by kernel_rfl) rfl trivial ?_
        refine WL.done rfl ?_
        exact WX.again k33 (Nat.lt_succ_self _) ((l27 ++ [t73], w64 (x28 + 1)), A80, c81) [3, 6, 9, 10, 11, 23, 24] rfl ⟨(hS83.subR [0, 1]).sub [2, 0] (by decide), hl36⟩
       rcases br_some hl36 with ⟨h84, hl36⟩ | ⟨h84, hl36⟩
       ·
        refine WL.setI 24 (eq_of_beq h84) rfl ?_
        refine seg 1 [] [3, 6, 9, 10, 11, 23, 24, 26] [(3, (sv A4 l6 c5)), (6, (sv A24 l27 c26)), (9, (sv Aa p0 ca)), (10, (iv (p0.length : Int))), (11, (iv x7)), (23, (.agg #[(iv ((rdD p0 x7 z_Tile).N)), (iv ((rdD p0 x7 z_Tile).E)), (iv ((rdD p0 x7 z_Tile).S)), (iv ((rdD p0 x7 z_Tile).W))])), (24, (iv 3)), (26, (iv ((rdD p0 x7 z_Tile).W)))] [] (fun fb => by kernel_rfl) rfl trivial ?_
        refine WL.setI 24 (eq_of_beq h84).symm rfl ?_
        refine seg 2 [] [3, 6, 8, 9, 10, 11, 23, 24] [(3, (sv A4 l6 c5)), (6, (sv A24 l27 c26)), (8, (iv ((rdD p0 x7 z_Tile).W))), (9, (sv Aa p0 ca)), (10, (iv (p0.length : Int))), (11, (iv x7)), (23, (.agg #[(iv ((rdD p0 x7 z_Tile).N)), (iv ((rdD p0 x7 z_Tile).E)), (iv ((rdD p0 x7 z_Tile).S)), (iv ((rdD p0 x7 z_Tile).W))])), (24, (iv x28))] [] (fun fb => by kernel_rfl) rfl trivial ?_
        refine WL.done rfl (WX.next (WC.region ?_))
        refine seg 2 [] [3, 9, 10, 11, 23, 24, 27, 28] [(3, (sv A4 l6 c5)), (9, (sv Aa p0 ca)), (10, (iv (p0.length : Int))), (11, (iv x7)), (23, (.agg #[(iv ((rdD p0 x7 z_Tile).N)), (iv ((rdD p0 x7 z_Tile).E)), (iv ((rdD p0 x7 z_Tile).S)), (iv ((rdD p0 x7 z_Tile).W))])), (24, (iv x28)), (27, (sv A24 l27 c26)), (28, (iv ((rdD p0 x7 z_Tile).W)))] [] (fun fb => by kernel_rfl) rfl trivial ?_
        obtain ⟨t88, ht89, hl36⟩ := bind_some hl36
        refine WL.call (some 29) 36 #[(iv ((rdD p0 x7 z_Tile).W))] (fun fb => by kernel_rfl) (itoaN_calls Tryd.strconv_Itoa ((rdD p0 x7 z_Tile).W) t88 _ (hS35.rd 1) ht89) (fun v w86 hR85 => ?_)
        obtain ⟨rfl, hk_⟩ := hR85
        have hS87 := hS35.keepN hk_
        refine ⟨trivial, ?_⟩
        refine WL.new hS87 30 [] (fun g => (.slice (some ⟨g, 0, none⟩) 1 1)) (.cells #[(.string t88)] 9 (0, 0)) [] (fun fb g => by kernel_rfl) trivial (fun g90 w91 hS92 => ?_)
        refine ⟨trivial, ?_⟩
        have hS93 := hS.go w91 [rowO 9 encStr (some ⟨g90, 0, none⟩) 1 [t88], rowO 9 encStr A4 c5 l6, rowO 9 encStr A24 c26 l27] (hS92.map1 0 _ (fun h => rowO.ofBlk h rfl (Nat.le_of_ble_eq_true (by kernel_rfl))) (fun _ h => by obtain ⟨_, h1, h2⟩ := h; injection h1 with h1; subst h1; exact h2) [1, 2] (by decide) (by decide))
        obtain ⟨h94, hl36⟩ := as_some hl36
        refine WL.append hS93 2 (d := 31) (tS := 42) (z := (.string ByteArray.empty)) (bytes := 16) (c2 := 1) rfl (fun fb => by kernel_rfl) (rowO.rd (hS93.own 0).1) (by kernel_rfl) (by kernel_rfl) rfl (by decide) h94 (by decide) [0, 1] (by decide) (by decide) (fun A95 c96 w97 hS98 => ?_)
        refine ⟨trivial, ?_⟩
        refine seg 6 [] [3, 6, 9, 10, 11, 23, 24] [(3, (sv A4 l6 c5)), (6, (sv A95 (l27 ++ [t88]) c96)), (9, (sv Aa p0 ca)), (10, (iv (p0.length : Int))), (11, (iv x7)), (23, (.agg #[(iv ((rdD p0 x7 z_Tile).N)), (iv ((rdD p0 x7 z_Tile).E)), (iv ((rdD p0 x7 z_Tile).S)), (iv ((rdD p0 x7 z_Tile).W))])), (24, (iv x28))] [] (fun fb => by kernel_rfl) rfl trivial ?_
        refine WL.done rfl ?_
        refine WX.blockN (WX.next ?_)
        refine WC.region ?_
        refine seg 2 [] [3, 6, 9, 10, 11, 23, 24] [(3, (sv A4 l6 c5)), (6, (sv A95 (l27 ++ [t88]) c96)), (9, (sv Aa p0 ca)), (10, (iv (p0.length : Int))), (11, (iv x7)), (23, (.agg #[(iv ((rdD p0 x7 z_Tile).N)), (iv ((rdD p0 x7 z_Tile).E)), (iv ((rdD p0 x7 z_Tile).S)), (iv ((rdD p0 x7 z_Tile).W))])), (24, (iv (w64 (x28 + 1))))] [] (fun fb => by kernel_rfl) rfl trivial ?_
        refine WL.done rfl ?_
        exact WX.again k33 (Nat.lt_succ_self _) ((l27 ++ [t88], w64 (x28 + 1)), A95, c96) [3, 6, 9, 10, 11, 23, 24] rfl ⟨(hS98.subR [0, 1]).sub [2, 0] (by decide), hl36⟩
       cases hl36
      refine WC.condF2 (fun fb => by kernel_rfl) h37 ?_
      refine WC.exit ?_
      injection hl36 with hl36
      exact WX.thenX (WX.thenX (WX.blockHere (WX.to Kx31 (l27, A24, c26) [3, 6, 9, 10, 11] rfl ⟨(hS35.subR [0, 1]).sub [0, 1] (by decide), hl36.symm⟩)))
    rintro ⟨y102, A29, c30⟩ w99 ⟨hS100, hq101⟩
    subst hq101
    refine WX.next (WC.region ?_)
    refine seg 2 [] [9, 10, 11, 33, 34] [(9, (sv Aa p0 ca)), (10, (iv (p0.length : Int))), (11, (iv x7)), (33, (sv A4 l6 c5)), (34, (sv A29 x31 c30))] [] (fun fb => by kernel_rfl) rfl trivial ?_
    obtain ⟨t106, ht107, hl15⟩ := bind_some hl15
    refine WL.call (some 35) 37 #[(sv A29 x31 c30), (.string (⟨#[46]⟩ : ByteArray))] (fun fb => by kernel_rfl) (join_calls Tryd.strings_Join Tryd.strings_Join_none x31 (⟨#[46]⟩ : ByteArray) A29 c30 t106 _ (hS100.ow 1) ht107) (fun v w104 hR103 => ?_)
    obtain ⟨rfl, hk_⟩ := hR103
    have hS105 := hS100.keepN hk_
    refine ⟨trivial, ?_⟩
    refine WL.new hS105 36 [] (fun g => (.slice (some ⟨g, 0, none⟩) 1 1)) (.cells #[(.string t106)] 9 (0, 0)) [] (fun fb g => by kernel_rfl) trivial (fun g108 w109 hS110 => ?_)
    refine ⟨trivial, ?_⟩
    have hS111 := hS.go w109 [rowO 9 encStr (some ⟨g108, 0, none⟩) 1 [t106], rowO 9 encStr A4 c5 l6, rowO 9 encStr A29 c30 x31] (hS110.map1 0 _ (fun h => rowO.ofBlk h rfl (Nat.le_of_ble_eq_true (by kernel_rfl))) (fun _ h => by obtain ⟨_, h1, h2⟩ := h; injection h1 with h1; subst h1; exact h2) [1, 2] (by decide) (by decide))
    obtain ⟨h112, hl15⟩ := as_some hl15
    refine WL.append hS111 1 (d := 37) (tS := 42) (z := (.string ByteArray.empty)) (bytes := 16) (c2 := 1) rfl (fun fb => by kernel_rfl) (rowO.rd (hS111.own 0).1) (by kernel_rfl) (by kernel_rfl) rfl (by decide) h112 (by decide) [0, 2] (by decide) (by decide) (fun A113 c114 w115 hS116 => ?_)
    refine ⟨trivial, ?_⟩
    refine seg 6 [] [3, 9, 10, 11] [(3, (sv A113 (l6 ++ [t106]) c114)), (9, (sv Aa p0 ca)), (10, (iv (p0.length : Int))), (11, (iv x7))] [] (fun fb => by kernel_rfl) rfl trivial ?_
    refine WL.done rfl ?_
    refine WX.blockN (WX.next ?_)
    refine WC.region ?_
    refine seg 2 [] [3, 9, 10, 11] [(3, (sv A113 (l6 ++ [t106]) c114)), (9, (sv Aa p0 ca)), (10, (iv (p0.length : Int))), (11, (iv (w64 (x7 + 1))))] [] (fun fb => by kernel_rfl) rfl trivial ?_
    refine WL.done rfl ?_
    exact WX.again k12 (Nat.lt_succ_self _) ((l6 ++ [t106], w64 (x7 + 1)), A113, c114) [3, 9, 10, 11] rfl ⟨(hS116.subR [0, 1]).sub [0] (by decide), hl15⟩
   refine WC.condF2 (fun fb => by kernel_rfl) h16 ?_
   refine WC.exit ?_
   injection hl15 with hl15
   exact WX.thenX (WX.thenX (WX.blockHere (WX.to Kx10 (l6, A4, c5) [3] rfl ⟨(hS14.subR [0, 1]).sub [0] (by decide), hl15.symm⟩)))
 rintro ⟨y120, A8, c9⟩ w117 ⟨hS118, hq119⟩
 subst hq119
 refine WX.next (WC.seq (WC.region ?_))
 refine seg 1 [] [39] [(39, (sv A8 x10 c9))] [] (fun fb => by kernel_rfl) rfl trivial ?_
 obtain ⟨t124, ht125, hf⟩ := bind_some hf
 refine WL.call (some 40) 37 #[(sv A8 x10 c9), (.string (⟨#[32]⟩ : ByteArray))] (fun fb => by kernel_rfl) (join_calls Tryd.strings_Join Tryd.strings_Join_none x10 (⟨#[32]⟩ : ByteArray) A8 c9 t124 _ (hS118.ow 0) ht125) (fun v w122 hR121 => ?_)
 obtain ⟨rfl, hk_⟩ := hR121
 have hS123 := hS118.keepN hk_
 refine ⟨trivial, ?_⟩
 refine seg 3 [] [2] [(2, (.string t124))] [] (fun fb => by kernel_rfl) rfl trivial ?_
 refine WL.done rfl (WX.next ?_)
 refine WC.ret ?_
 injection hf with hf
 subst hf
 exact WX.ret_ [] (.string t124) [] (fun fb => by kernel_rfl) trivial ⟨_, rfl, rfl, hS123.keep⟩
theorem tile_Parse_calls (k : Nat) (p0 : ByteArray) (mG : Glo) (r : (List Tile) × Int) (w : World) (hR0 : RO NoS w (gloO Tryd.prog 2 5 0 1 mG)) (hf : tile_Parse k p0 = some r) :
  CallsR Tryd.prog 6 #[(.string p0)] w (fun v w' => ∃ (A1_ : Option Addr), ∃ (c1_ : Nat), v = (.tuple #[(sv A1_ r.1 c1_), (iv r.2)]) ∧ St NoS w w' [] [rowO 50 enc_Tile A1_ c1_ r.1]) := by
 have hS : St NoS w w [gloO Tryd.prog 2 5 0 1 mG] [] := St.init (ro_cons hR0 (ro_nil _ _))
 refine enter 76 Tryd.func6 rfl Tryd.ntmps6 rfl ?_
 unfold tile_Parse at hf
 refine WC.seq (WC.region ?_)
 refine seg 2 [] [0] [(0, (.string p0))] [] (fun fb => by kernel_rfl) rfl trivial ?_
 refine WL.done rfl (WX.next (WC.seq (WC.region ?_)))
 refine seg 1 [] [0, 4] [(0, (.string p0)), (4, (.slice none 0 0))] [] (fun fb => by kernel_rfl) rfl trivial ?_
 refine WL.done rfl (WX.next (WC.seq (WC.seq (WC.region ?_))))
 refine seg 1 [] [0, 4, 13] [(0, (.string p0)), (4, (.slice none 0 0)), (13, (.string p0))] [] (fun fb => by kernel_rfl) rfl trivial ?_
 refine seg 2 [] [0, 4, 14] [(0, (.string p0)), (4, (.slice none 0 0)), (14, (bv (p0.toList == (⟨#[]⟩ : ByteArray).toList)))] [] (fun fb => by kernel_rfl) rfl trivial ?_
 refine WL.setB 14 (strEq_raw p0 (⟨#[]⟩ : ByteArray)) rfl ?_
 refine WL.done rfl (WX.next ?_)
 rcases br_some hf with ⟨h7, hf⟩ | ⟨h7, hf⟩
 ·refine WC.condT2 (fun fb => by kernel_rfl) h7 ?_
  refine WC.seq (WC.region ?_)
  refine seg 2 [] [2, 3] [(2, (.slice none 0 0)), (3, (iv 0))] [] (fun fb => by kernel_rfl) rfl trivial ?_
  refine WL.done rfl (WX.next ?_)
  refine WC.ret ?_
  have hS8 := hS.nilrow 50 enc_Tile
  injection hf with hf
  subst hf
  exact WX.thenR (WX.ret_ [] (.tuple #[(sv none ([] : List Tile) 0), (iv 0)]) [] (fun fb => by kernel_rfl) trivial ⟨_, rfl, none, 0, rfl, (hS8.sub [0] (by decide)).noR⟩)
 refine WC.condF2 (fun fb => by kernel_rfl) h7 ?_
 refine WC.skip (WX.next (WC.seq (WC.seq (WC.region ?_))))
 refine seg 3 [] [0, 4, 17] [(0, (.string p0)), (4, (.slice none 0 0)), (17, (bv (decide ((p0.size : Int) > 16000))))] [] (fun fb => by kernel_rfl) rfl trivial ?_
 refine WL.done rfl (WX.next ?_)
 rcases br_some hf with ⟨h9, hf⟩ | ⟨h9, hf⟩
 ·refine WC.condT2 (fun fb => by kernel_rfl) h9 ?_
  refine WC.seq (WC.region ?_)
  refine seg 2 [] [2, 3] [(2, (.slice none 0 0)), (3, (iv 3))] [] (fun fb => by kernel_rfl) rfl trivial ?_
  refine WL.done rfl (WX.next ?_)
  refine WC.ret ?_
  have hS10 := hS.nilrow 50 enc_Tile
  injection hf with hf
  subst hf
  exact WX.thenR (WX.ret_ [] (.tuple #[(sv none ([] : List Tile) 0), (iv 3)]) [] (fun fb => by kernel_rfl) trivial ⟨_, rfl, none, 0, rfl, (hS10.sub [0] (by decide)).noR⟩)
 refine WC.condF2 (fun fb => by kernel_rfl) h9 ?_
 refine WC.skip (WX.next (WC.seq (WC.seq (WC.region ?_))))
 refine seg 1 [] [0, 4, 18] [(0, (.string p0)), (4, (.slice none 0 0)), (18, (.string p0))] [] (fun fb => by kernel_rfl) rfl trivial ?_
 obtain ⟨h14, hf⟩ := as_some hf
 refine WL.call (some 19) 23 #[(.string p0), (.string (⟨#[32]⟩ : ByteArray))] (fun fb => by kernel_rfl) (split_calls Tryd.strings_Split p0 (⟨#[32]⟩ : ByteArray) mG.m _ (gloO.cel (hS.rd 0)) h14) (fun v w12 hR11 => ?_)
 obtain ⟨A15, c16, rfl, hk_⟩ := hR11
 have hS13 := hS.go w12 [rowO 9 encStr A15 c16 (splitP p0 (⟨#[32]⟩ : ByteArray))] (hS.call hk_ [] [] (fun g hg => hg.elim) (by simp) (by decide))
 refine ⟨trivial, ?_⟩
 refine seg 4 [] [0, 4, 19, 20, 21] [(0, (.string p0)), (4, (.slice none 0 0)), (19, (sv A15 (splitP p0 (⟨#[32]⟩ : ByteArray)) c16)), (20, (iv ((splitP p0 (⟨#[32]⟩ : ByteArray)).length : Int))), (21, (iv 0))] [] (fun fb => by kernel_rfl) rfl trivial ?_
 refine WL.done rfl (WX.next ?_)
 have hS3 := hS13.nilrow 50 enc_Tile
 obtain ⟨x21, hx22, hf⟩ := bind_some hf
 refine WC.cutN (T := (List Tile) × (Option Addr) × Nat) (fun t => [(0, (.string p0)), (4, (sv t.2.1 t.1 t.2.2))]) (fun t w1 => St NoS w w1 [gloO Tryd.prog 2 5 0 1 mG] [rowO 50 enc_Tile t.2.1 t.2.2 t.1] ∧ x21 = .inr t.1) (fun Kx21 => ?_) ?_
 ·
  refine WC.block ?_
  refine WC.loop (T := ((List Tile) × Int) × (Option Addr) × Nat) (fun t => [(0, (.string p0)), (4, (sv t.2.1 t.1.1 t.2.2)), (19, (sv A15 (splitP p0 (⟨#[32]⟩ : ByteArray)) c16)), (20, (iv ((splitP p0 (⟨#[32]⟩ : ByteArray)).length : Int))), (21, (iv t.1.2))]) (fun n t w1 => St NoS w w1 [gloO Tryd.prog 2 5 0 1 mG] [rowO 50 enc_Tile t.2.1 t.2.2 t.1.1, rowO 9 encStr A15 c16 (splitP p0 (⟨#[32]⟩ : ByteArray))] ∧ tile_Parse.l0 n t.1.1 t.1.2 p0 = some x21) k ((([] : List Tile), 0), none, 0) [0, 4, 19, 20, 21] rfl ⟨(hS3.subR [0]).sub [0, 1] (by decide), hx22⟩ ?_
  rintro k23 ⟨⟨l17, x18⟩, A4, c5⟩ w24 ⟨hS25, hl26⟩
  cases k23 with
  | zero => rw [tile_Parse.l0] at hl26; cases hl26
  | succ k23 =>
   rw [tile_Parse.l0] at hl26
   refine WC.seq (WC.region ?_)
   refine seg 1 [] [0, 4, 19, 20, 21, 22] [(0, (.string p0)), (4, (sv A4 l17 c5)), (19, (sv A15 (splitP p0 (⟨#[32]⟩ : ByteArray)) c16)), (20, (iv ((splitP p0 (⟨#[32]⟩ : ByteArray)).length : Int))), (21, (iv x18)), (22, (bv (decide (x18 < ((splitP p0 (⟨#[32]⟩ : ByteArray)).length : Int)))))] [] (fun fb => by kernel_rfl) rfl trivial ?_
   refine WL.done rfl (WX.next (WC.seq ?_))
   rcases br_some hl26 with ⟨h27, hl26⟩ | ⟨h27, hl26⟩
   ·refine WC.condT2 (fun fb => by kernel_rfl) h27 ?_
    refine WC.skip (WX.next (WC.seq (WC.block (WC.seq (WC.region ?_)))))
    obtain ⟨h28, hl26⟩ := as_some hl26
    refine seg 3 [.v (.string (rdD (splitP p0 (⟨#[32]⟩ : ByteArray)) x18 ByteArray.empty))] [0, 4, 6, 19, 20, 21] [(0, (.string p0)), (4, (sv A4 l17 c5)), (6, (.string (rdD (splitP p0 (⟨#[32]⟩ : ByteArray)) x18 ByteArray.empty))), (19, (sv A15 (splitP p0 (⟨#[32]⟩ : ByteArray)) c16)), (20, (iv ((splitP p0 (⟨#[32]⟩ : ByteArray)).length : Int))), (21, (iv x18))] [.idx A15 x18 (splitP p0 (⟨#[32]⟩ : ByteArray)).length, .cell ((adr A15).add ((x18).toNat * 1)) (.string (rdD (splitP p0 (⟨#[32]⟩ : ByteArray)) x18 ByteArray.empty))] (fun fb => by kernel_rfl) rfl ⟨rowR.adr (rowO.rd (hS25.own 1).1) h28.1 h28.2, rowR.cell (rowO.rd (hS25.own 1).1) ByteArray.empty h28.1 h28.2 0 rfl, trivial⟩ ?_
    refine WL.done rfl (WX.next (WC.seq (WC.region ?_)))
    refine seg 1 [] [0, 4, 19, 20, 21, 25] [(0, (.string p0)), (4, (sv A4 l17 c5)), (19, (sv A15 (splitP p0 (⟨#[32]⟩ : ByteArray)) c16)), (20, (iv ((splitP p0 (⟨#[32]⟩ : ByteArray)).length : Int))), (21, (iv x18)), (25, (.string (rdD (splitP p0 (⟨#[32]⟩ : ByteArray)) x18 ByteArray.empty)))] [] (fun fb => by kernel_rfl) rfl trivial ?_
    obtain ⟨h32, hl26⟩ := as_some hl26
    refine WL.call (some 26) 23 #[(.string (rdD (splitP p0 (⟨#[32]⟩ : ByteArray)) x18 ByteArray.empty)), (.string (⟨#[46]⟩ : ByteArray))] (fun fb => by kernel_rfl) (split_calls Tryd.strings_Split (rdD (splitP p0 (⟨#[32]⟩ : ByteArray)) x18 ByteArray.empty) (⟨#[46]⟩ : ByteArray) mG.m _ (gloO.cel (hS25.rd 0)) h32) (fun v w30 hR29 => ?_)
    obtain ⟨A33, c34, rfl, hk_⟩ := hR29
    have hS31 := hS13.go w30 [rowO 9 encStr A33 c34 (splitP (rdD (splitP p0 (⟨#[32]⟩ : ByteArray)) x18 ByteArray.empty) (⟨#[46]⟩ : ByteArray)), rowO 50 enc_Tile A4 c5 l17, rowO 9 encStr A15 c16 (splitP p0 (⟨#[32]⟩ : ByteArray))] (hS25.call hk_ [] [0, 1] (fun g hg => hg.elim) (by simp) (by decide))
    refine ⟨trivial, ?_⟩
    refine seg 3 [] [0, 4, 7, 19, 20, 21] [(0, (.string p0)), (4, (sv A4 l17 c5)), (7, (sv A33 (splitP (rdD (splitP p0 (⟨#[32]⟩ : ByteArray)) x18 ByteArray.empty) (⟨#[46]⟩ : ByteArray)) c34)), (19, (sv A15 (splitP p0 (⟨#[32]⟩ : ByteArray)) c16)), (20, (iv ((splitP p0 (⟨#[32]⟩ : ByteArray)).length : Int))), (21, (iv x18))] [] (fun fb => by kernel_rfl) rfl trivial ?_
    refine WL.done rfl (WX.next (WC.seq (WC.seq (WC.region ?_))))
    refine seg 4 [] [0, 4, 7, 19, 20, 21, 30] [(0, (.string p0)), (4, (sv A4 l17 c5)), (7, (sv A33 (splitP (rdD (splitP p0 (⟨#[32]⟩ : ByteArray)) x18 ByteArray.empty) (⟨#[46]⟩ : ByteArray)) c34)), (19, (sv A15 (splitP p0 (⟨#[32]⟩ : ByteArray)) c16)), (20, (iv ((splitP p0 (⟨#[32]⟩ : ByteArray)).length : Int))), (21, (iv x18)), (30, (bv (((splitP (rdD (splitP p0 (⟨#[32]⟩ : ByteArray)) x18 ByteArray.empty) (⟨#[46]⟩ : ByteArray)).length : Int) != 4)))] [] (fun fb => by kernel_rfl) rfl trivial ?_
    refine WL.cutV (T := Bool) 8 (fun t => [(34, (bv t)), (0, (.string p0)), (4, (sv A4 l17 c5)), (7, (sv A33 (splitP (rdD (splitP p0 (⟨#[32]⟩ : ByteArray)) x18 ByteArray.empty) (⟨#[46]⟩ : ByteArray)) c34)), (19, (sv A15 (splitP p0 (⟨#[32]⟩ : ByteArray)) c16)), (20, (iv ((splitP p0 (⟨#[32]⟩ : ByteArray)).length : Int))), (21, (iv x18))]) (fun t => ((((splitP (rdD (splitP p0 (⟨#[32]⟩ : ByteArray)) x18 ByteArray.empty) (⟨#[46]⟩ : ByteArray)).length : Int) != 4) || (decide ((l17.length : Int) > 1000))) = t) (fun K => ?_) ?_
    ·
     rcases Bool.eq_false_or_eq_true (((splitP (rdD (splitP p0 (⟨#[32]⟩ : ByteArray)) x18 ByteArray.empty) (⟨#[46]⟩ : ByteArray)).length : Int) != 4) with h35 | h35
     ·
      refine WL.setB 30 h35 rfl ?_
      refine seg 8 [] [0, 4, 7, 19, 20, 21, 34] [(0, (.string p0)), (4, (sv A4 l17 c5)), (7, (sv A33 (splitP (rdD (splitP p0 (⟨#[32]⟩ : ByteArray)) x18 ByteArray.empty) (⟨#[46]⟩ : ByteArray)) c34)), (19, (sv A15 (splitP p0 (⟨#[32]⟩ : ByteArray)) c16)), (20, (iv ((splitP p0 (⟨#[32]⟩ : ByteArray)).length : Int))), (21, (iv x18)), (34, (bv true))] [] (fun fb => by kernel_rfl) rfl trivial ?_
      exact WL.toV K true [34, 0, 4, 7, 19, 20, 21] rfl (by first | (rw [h35]; done) | (rw [h35]; rfl))
     refine WL.setB 30 h35 rfl ?_
     refine seg 8 [] [0, 4, 7, 19, 20, 21, 34] [(0, (.string p0)), (4, (sv A4 l17 c5)), (7, (sv A33 (splitP (rdD (splitP p0 (⟨#[32]⟩ : ByteArray)) x18 ByteArray.empty) (⟨#[46]⟩ : ByteArray)) c34)), (19, (sv A15 (splitP p0 (⟨#[32]⟩ : ByteArray)) c16)), (20, (iv ((splitP p0 (⟨#[32]⟩ : ByteArray)).length : Int))), (21, (iv x18)), (34, (bv (decide ((l17.length : Int) > 1000))))] [] (fun fb => by kernel_rfl) rfl trivial ?_
     exact WL.toV K (decide ((l17.length : Int) > 1000)) [34, 0, 4, 7, 19, 20, 21] rfl (by first | (rw [h35]; done) | (rw [h35]; rfl))
    rintro b36 rfl
    refine WL.done rfl (WX.next ?_)
    rcases br_some hl26 with ⟨h37, hl26⟩ | ⟨h37, hl26⟩
    ·refine WC.condT2 (fun fb => by kernel_rfl) h37 ?_
     refine WC.seq (WC.region ?_)
     refine seg 2 [] [2, 3] [(2, (.slice none 0 0)), (3, (iv 3))] [] (fun fb => by kernel_rfl) rfl trivial ?_
     refine WL.done rfl (WX.next ?_)
     refine WC.ret ?_
     have hS38 := hS31.nilrow 50 enc_Tile
     injection hl26 with hl26
     subst hl26
     injection hf with hf
     subst hf
     exact WX.thenR (WX.blockR (WX.thenR (WX.thenR (WX.blockR (WX.thenR (WX.ret_ [] (.tuple #[(sv none ([] : List Tile) 0), (iv 3)]) [] (fun fb => by kernel_rfl) trivial ⟨_, rfl, none, 0, rfl, (hS38.sub [0] (by decide)).noR⟩))))))
    refine WC.condF2 (fun fb => by kernel_rfl) h37 ?_
    refine WC.skip (WX.next (WC.seq (WC.region ?_)))
    refine WL.new hS31 8 [] (fun g => (pt g)) (.cells #[(iv 0), (iv 0), (iv 0), (iv 0)] 44 (0, 0)) [] (fun fb g => by kernel_rfl) trivial (fun g39 w40 hS41 => ?_)
    refine ⟨trivial, ?_⟩
    refine WL.done rfl (WX.next (WC.seq (WC.seq (WC.region ?_))))
    refine seg 3 [] [0, 4, 8, 19, 20, 21, 35, 36, 37] [(0, (.string p0)), (4, (sv A4 l17 c5)), (8, (pt g39)), (19, (sv A15 (splitP p0 (⟨#[32]⟩ : ByteArray)) c16)), (20, (iv ((splitP p0 (⟨#[32]⟩ : ByteArray)).length : Int))), (21, (iv x18)), (35, (sv A33 (splitP (rdD (splitP p0 (⟨#[32]⟩ : ByteArray)) x18 ByteArray.empty) (⟨#[46]⟩ : ByteArray)) c34)), (36, (iv ((splitP (rdD (splitP p0 (⟨#[32]⟩ : ByteArray)) x18 ByteArray.empty) (⟨#[46]⟩ : ByteArray)).length : Int))), (37, (iv 0))] [] (fun fb => by kernel_rfl) rfl trivial ?_
    refine WL.done rfl (WX.next ?_)
    obtain ⟨x47, hx48, hl26⟩ := bind_some hl26
    refine WC.cutN (T := Int × Int × Int × Int) (fun t => [(0, (.string p0)), (4, (sv A4 l17 c5)), (8, (pt g39)), (19, (sv A15 (splitP p0 (⟨#[32]⟩ : ByteArray)) c16)), (20, (iv ((splitP p0 (⟨#[32]⟩ : ByteArray)).length : Int))), (21, (iv x18))]) (fun t w1 => St NoS w w1 [gloO Tryd.prog 2 5 0 1 mG] [rowO 50 enc_Tile A4 c5 l17, blk g39 (.cells #[(iv t.1), (iv t.2.1), (iv t.2.2.1), (iv t.2.2.2)] 44 (0, 0)), rowO 9 encStr A15 c16 (splitP p0 (⟨#[32]⟩ : ByteArray))] ∧ x47 = .inr t) (fun Kx47 => ?_) ?_
    ·
     refine WC.block ?_
     refine WC.loop (T := Int × Int × Int × Int × Int) (fun t => [(0, (.string p0)), (4, (sv A4 l17 c5)), (8, (pt g39)), (19, (sv A15 (splitP p0 (⟨#[32]⟩ : ByteArray)) c16)), (20, (iv ((splitP p0 (⟨#[32]⟩ : ByteArray)).length : Int))), (21, (iv x18)), (35, (sv A33 (splitP (rdD (splitP p0 (⟨#[32]⟩ : ByteArray)) x18 ByteArray.empty) (⟨#[46]⟩ : ByteArray)) c34)), (36, (iv ((splitP (rdD (splitP p0 (⟨#[32]⟩ : ByteArray)) x18 ByteArray.empty) (⟨#[46]⟩ : ByteArray)).length : Int))), (37, (iv t.2.2.2.2))]) (fun n t w1 => St NoS w w1 [gloO Tryd.prog 2 5 0 1 mG] [rowO 50 enc_Tile A4 c5 l17, blk g39 (.cells #[(iv t.1), (iv t.2.1), (iv t.2.2.1), (iv t.2.2.2.1)] 44 (0, 0)), rowO 9 encStr A15 c16 (splitP p0 (⟨#[32]⟩ : ByteArray)), rowO 9 encStr A33 c34 (splitP (rdD (splitP p0 (⟨#[32]⟩ : ByteArray)) x18 ByteArray.empty) (⟨#[46]⟩ : ByteArray))] ∧ tile_Parse.l1 n t.1 t.2.1 t.2.2.1 t.2.2.2.1 t.2.2.2.2 p0 x18 = some x47) k23 (0, 0, 0, 0, 0) [0, 4, 8, 19, 20, 21, 35, 36, 37] rfl ⟨(hS41.subR [0]).sub [2, 0, 3, 1] (by decide), hx48⟩ ?_
     rintro k49 ⟨x42, x43, x44, x45, x46⟩ w50 ⟨hS51, hl52⟩
     cases k49 with
     | zero => rw [tile_Parse.l1] at hl52; cases hl52
     | succ k49 =>
      rw [tile_Parse.l1] at hl52
      refine WC.seq (WC.region ?_)
      refine seg 1 [] [0, 4, 8, 19, 20, 21, 35, 36, 37, 38] [(0, (.string p0)), (4, (sv A4 l17 c5)), (8, (pt g39)), (19, (sv A15 (splitP p0 (⟨#[32]⟩ : ByteArray)) c16)), (20, (iv ((splitP p0 (⟨#[32]⟩ : ByteArray)).length : Int))), (21, (iv x18)), (35, (sv A33 (splitP (rdD (splitP p0 (⟨#[32]⟩ : ByteArray)) x18 ByteArray.empty) (⟨#[46]⟩ : ByteArray)) c34)), (36, (iv ((splitP (rdD (splitP p0 (⟨#[32]⟩ : ByteArray)) x18 ByteArray.empty) (⟨#[46]⟩ : ByteArray)).length : Int))), (37, (iv x46)), (38, (bv (decide (x46 < ((splitP (rdD (splitP p0 (⟨#[32]⟩ : ByteArray)) x18 ByteArray.empty) (⟨#[46]⟩ : ByteArray)).length : Int)))))] [] (fun fb => by kernel_rfl) rfl trivial ?_
      refine WL.done rfl (WX.next (WC.seq ?_))
      rcases br_some hl52 with ⟨h53, hl52⟩ | ⟨h53, hl52⟩
      ·refine WC.condT2 (fun fb => by kernel_rfl) h53 ?_
       refine WC.skip (WX.next (WC.seq (WC.block (WC.seq (WC.region ?_)))))
       refine seg 1 [] [0, 4, 8, 19, 20, 21, 35, 36, 37, 39] [(0, (.string p0)), (4, (sv A4 l17 c5)), (8, (pt g39)), (19, (sv A15 (splitP p0 (⟨#[32]⟩ : ByteArray)) c16)), (20, (iv ((splitP p0 (⟨#[32]⟩ : ByteArray)).length : Int))), (21, (iv x18)), (35, (sv A33 (splitP (rdD (splitP p0 (⟨#[32]⟩ : ByteArray)) x18 ByteArray.empty) (⟨#[46]⟩ : ByteArray)) c34)), (36, (iv ((splitP (rdD (splitP p0 (⟨#[32]⟩ : ByteArray)) x18 ByteArray.empty) (⟨#[46]⟩ : ByteArray)).length : Int))), (37, (iv x46)), (39, (iv x46))] [] (fun fb => by kernel_rfl) rfl trivial ?_
       obtain ⟨h54, hl52⟩ := as_some hl52
       refine seg 5 [.v (.string (rdD (splitP (rdD (splitP p0 (⟨#[32]⟩ : ByteArray)) x18 ByteArray.empty) (⟨#[46]⟩ : ByteArray)) x46 ByteArray.empty))] [0, 4, 8, 9, 10, 19, 20, 21, 35, 36, 37] [(0, (.string p0)), (4, (sv A4 l17 c5)), (8, (pt g39)), (9, (iv x46)), (10, (.string (rdD (splitP (rdD (splitP p0 (⟨#[32]⟩ : ByteArray)) x18 ByteArray.empty) (⟨#[46]⟩ : ByteArray)) x46 ByteArray.empty))), (19, (sv A15 (splitP p0 (⟨#[32]⟩ : ByteArray)) c16)), (20, (iv ((splitP p0 (⟨#[32]⟩ : ByteArray)).length : Int))), (21, (iv x18)), (35, (sv A33 (splitP (rdD (splitP p0 (⟨#[32]⟩ : ByteArray)) x18 ByteArray.empty) (⟨#[46]⟩ : ByteArray)) c34)), (36, (iv ((splitP (rdD (splitP p0 (⟨#[32]⟩ : ByteArray)) x18 ByteArray.empty) (⟨#[46]⟩ : ByteArray)).length : Int))), (37, (iv x46))] [.idx A33 x46 (splitP (rdD (splitP p0 (⟨#[32]⟩ : ByteArray)) x18 ByteArray.empty) (⟨#[46]⟩ : ByteArray)).length, .cell ((adr A33).add ((x46).toNat * 1)) (.string (rdD (splitP (rdD (splitP p0 (⟨#[32]⟩ : ByteArray)) x18 ByteArray.empty) (⟨#[46]⟩ : ByteArray)) x46 ByteArray.empty))] (fun fb => by kernel_rfl) rfl ⟨rowR.adr (rowO.rd (hS51.own 3).1) h54.1 h54.2, rowR.cell (rowO.rd (hS51.own 3).1) ByteArray.empty h54.1 h54.2 0 rfl, trivial⟩ ?_
       refine WL.done rfl (WX.next (WC.seq (WC.region ?_)))
       refine seg 1 [] [0, 4, 8, 9, 19, 20, 21, 35, 36, 37, 43] [(0, (.string p0)), (4, (sv A4 l17 c5)), (8, (pt g39)), (9, (iv x46)), (19, (sv A15 (splitP p0 (⟨#[32]⟩ : ByteArray)) c16)), (20, (iv ((splitP p0 (⟨#[32]⟩ : ByteArray)).length : Int))), (21, (iv x18)), (35, (sv A33 (splitP (rdD (splitP p0 (⟨#[32]⟩ : ByteArray)) x18 ByteArray.empty) (⟨#[46]⟩ : ByteArray)) c34)), (36, (iv ((splitP (rdD (splitP p0 (⟨#[32]⟩ : ByteArray)) x18 ByteArray.empty) (⟨#[46]⟩ : ByteArray)).length : Int))), (37, (iv x46)), (43, (.string (rdD (splitP (rdD (splitP p0 (⟨#[32]⟩ : ByteArray)) x18 ByteArray.empty) (⟨#[46]⟩ : ByteArray)) x46 ByteArray.empty)))] [] (fun fb => by kernel_rfl) rfl trivial ?_
       obtain ⟨t58, ht59, hl52⟩ := bind_some hl52
       refine WL.call (some 44) 24 #[(.string (rdD (splitP (rdD (splitP p0 (⟨#[32]⟩ : ByteArray)) x18 ByteArray.empty) (⟨#[46]⟩ : ByteArray)) x46 ByteArray.empty))] (fun fb => by kernel_rfl) (atoiN_calls Tryd.strconv_Atoi_ok Tryd.strconv_Atoi_syntax Tryd.strconv_Atoi_range (rdD (splitP (rdD (splitP p0 (⟨#[32]⟩ : ByteArray)) x18 ByteArray.empty) (⟨#[46]⟩ : ByteArray)) x46 ByteArray.empty) t58 _ (hS51.rd 0) ht59) (fun v w56 hR55 => ?_)
       obtain ⟨x60, rfl, hx61, hk_⟩ := hR55
       have hS57 := hS51.keepN hk_
       refine ⟨trivial, ?_⟩
       rcases br_some hl52 with ⟨h62, hl52⟩ | ⟨h62, hl52⟩
       ·
        obtain ⟨te63, pe65, rfl⟩ := errV_true h62 hx61
        refine seg 7 [] [0, 4, 8, 9, 11, 12, 19, 20, 21, 35, 36, 37] [(0, (.string p0)), (4, (sv A4 l17 c5)), (8, (pt g39)), (9, (iv x46)), (11, (iv t58.1)), (12, (.iface te63 pe65)), (19, (sv A15 (splitP p0 (⟨#[32]⟩ : ByteArray)) c16)), (20, (iv ((splitP p0 (⟨#[32]⟩ : ByteArray)).length : Int))), (21, (iv x18)), (35, (sv A33 (splitP (rdD (splitP p0 (⟨#[32]⟩ : ByteArray)) x18 ByteArray.empty) (⟨#[46]⟩ : ByteArray)) c34)), (36, (iv ((splitP (rdD (splitP p0 (⟨#[32]⟩ : ByteArray)) x18 ByteArray.empty) (⟨#[46]⟩ : ByteArray)).length : Int))), (37, (iv x46))] [] (fun fb => by kernel_rfl) rfl trivial ?_
        refine WL.done rfl (WX.next (WC.seq (WC.seq (WC.region ?_))))
        refine seg 2 [] [0, 4, 8, 9, 11, 19, 20, 21, 35, 36, 37, 48] [(0, (.string p0)), (4, (sv A4 l17 c5)), (8, (pt g39)), (9, (iv x46)), (11, (iv t58.1)), (19, (sv A15 (splitP p0 (⟨#[32]⟩ : ByteArray)) c16)), (20, (iv ((splitP p0 (⟨#[32]⟩ : ByteArray)).length : Int))), (21, (iv x18)), (35, (sv A33 (splitP (rdD (splitP p0 (⟨#[32]⟩ : ByteArray)) x18 ByteArray.empty) (⟨#[46]⟩ : ByteArray)) c34)), (36, (iv ((splitP (rdD (splitP p0 (⟨#[32]⟩ : ByteArray)) x18 ByteArray.empty) (⟨#[46]⟩ : ByteArray)).length : Int))), (37, (iv x46)), (48, (bv true))] [] (fun fb => by kernel_rfl) rfl trivial ?_
        refine WL.done rfl (WX.next ?_)
        refine WC.condT (fun fb => by kernel_rfl) ?_
        refine WC.seq (WC.region ?_)
        refine seg 2 [] [2, 3] [(2, (.slice none 0 0)), (3, (iv 3))] [] (fun fb => by kernel_rfl) rfl trivial ?_
        refine WL.done rfl (WX.next ?_)
        refine WC.ret ?_
        have hS66 := hS57.nilrow 50 enc_Tile
        injection hl52 with hl52
        subst hl52
        injection hl26 with hl26
        subst hl26
        injection hf with hf
        subst hf
        exact WX.thenR (WX.blockR (WX.thenR (WX.thenR (WX.blockR (WX.thenR (WX.blockR (WX.thenR (WX.thenR (WX.blockR (WX.thenR (WX.ret_ [] (.tuple #[(sv none ([] : List Tile) 0), (iv 3)]) [] (fun fb => by kernel_rfl) trivial ⟨_, rfl, none, 0, rfl, (hS66.sub [0] (by decide)).noR⟩)))))))))))
       obtain rfl := errV_false h62 hx61
       refine seg 7 [] [0, 4, 8, 9, 11, 12, 19, 20, 21, 35, 36, 37] [(0, (.string p0)), (4, (sv A4 l17 c5)), (8, (pt g39)), (9, (iv x46)), (11, (iv t58.1)), (12, .nilIface), (19, (sv A15 (splitP p0 (⟨#[32]⟩ : ByteArray)) c16)), (20, (iv ((splitP p0 (⟨#[32]⟩ : ByteArray)).length : Int))), (21, (iv x18)), (35, (sv A33 (splitP (rdD (splitP p0 (⟨#[32]⟩ : ByteArray)) x18 ByteArray.empty) (⟨#[46]⟩ : ByteArray)) c34)), (36, (iv ((splitP (rdD (splitP p0 (⟨#[32]⟩ : ByteArray)) x18 ByteArray.empty) (⟨#[46]⟩ : ByteArray)).length : Int))), (37, (iv x46))] [] (fun fb => by kernel_rfl) rfl trivial ?_
       refine WL.done rfl (WX.next (WC.seq (WC.seq (WC.region ?_))))
       refine seg 2 [] [0, 4, 8, 9, 11, 19, 20, 21, 35, 36, 37, 48] [(0, (.string p0)), (4, (sv A4 l17 c5)), (8, (pt g39)), (9, (iv x46)), (11, (iv t58.1)), (19, (sv A15 (splitP p0 (⟨#[32]⟩ : ByteArray)) c16)), (20, (iv ((splitP p0 (⟨#[32]⟩ : ByteArray)).length : Int))), (21, (iv x18)), (35, (sv A33 (splitP (rdD (splitP p0 (⟨#[32]⟩ : ByteArray)) x18 ByteArray.empty) (⟨#[46]⟩ : ByteArray)) c34)), (36, (iv ((splitP (rdD (splitP p0 (⟨#[32]⟩ : ByteArray)) x18 ByteArray.empty) (⟨#[46]⟩ : ByteArray)).length : Int))), (37, (iv x46)), (48, (bv false))] [] (fun fb => by kernel_rfl) rfl trivial ?_
       refine WL.done rfl (WX.next ?_)
       refine WC.condF (fun fb => by kernel_rfl) ?_
       refine WC.skip (WX.next (WC.region ?_))
       refine seg 2 [] [0, 4, 8, 19, 20, 21, 35, 36, 37, 49, 50] [(0, (.string p0)), (4, (sv A4 l17 c5)), (8, (pt g39)), (19, (sv A15 (splitP p0 (⟨#[32]⟩ : ByteArray)) c16)), (20, (iv ((splitP p0 (⟨#[32]⟩ : ByteArray)).length : Int))), (21, (iv x18)), (35, (sv A33 (splitP (rdD (splitP p0 (⟨#[32]⟩ : ByteArray)) x18 ByteArray.empty) (⟨#[46]⟩ : ByteArray)) c34)), (36, (iv ((splitP (rdD (splitP p0 (⟨#[32]⟩ : ByteArray)) x18 ByteArray.empty) (⟨#[46]⟩ : ByteArray)).length : Int))), (37, (iv x46)), (49, (iv x46)), (50, (iv t58.1))] [] (fun fb => by kernel_rfl) rfl trivial ?_
       rcases br_some hl52 with ⟨h67, hl52⟩ | ⟨h67, hl52⟩
       ·
        refine WL.setI 49 (eq_of_beq h67) rfl ?_
        refine seg 3 [] [0, 4, 8, 19, 20, 21, 35, 36, 37, 50, 51] [(0, (.string p0)), (4, (sv A4 l17 c5)), (8, (pt g39)), (19, (sv A15 (splitP p0 (⟨#[32]⟩ : ByteArray)) c16)), (20, (iv ((splitP p0 (⟨#[32]⟩ : ByteArray)).length : Int))), (21, (iv x18)), (35, (sv A33 (splitP (rdD (splitP p0 (⟨#[32]⟩ : ByteArray)) x18 ByteArray.empty) (⟨#[46]⟩ : ByteArray)) c34)), (36, (iv ((splitP (rdD (splitP p0 (⟨#[32]⟩ : ByteArray)) x18 ByteArray.empty) (⟨#[46]⟩ : ByteArray)).length : Int))), (37, (iv x46)), (50, (iv t58.1)), (51, (pt g39))] [] (fun fb => by kernel_rfl) rfl trivial ?_
        refine WL.store hS57 1 rfl [(0, (iv t58.1))] #[(iv t58.1), (iv x43), (iv x44), (iv x45)] (fun fb => by kernel_rfl) (by kernel_rfl) rfl [0, 2, 3] (by decide) (by decide) (fun w68 hS69 => ?_)
        refine ⟨trivial, ?_⟩
        refine WL.done rfl ?_
        refine WX.blockN (WX.next ?_)
        refine WC.region ?_
        refine seg 2 [] [0, 4, 8, 19, 20, 21, 35, 36, 37] [(0, (.string p0)), (4, (sv A4 l17 c5)), (8, (pt g39)), (19, (sv A15 (splitP p0 (⟨#[32]⟩ : ByteArray)) c16)), (20, (iv ((splitP p0 (⟨#[32]⟩ : ByteArray)).length : Int))), (21, (iv x18)), (35, (sv A33 (splitP (rdD (splitP p0 (⟨#[32]⟩ : ByteArray)) x18 ByteArray.empty) (⟨#[46]⟩ : ByteArray)) c34)), (36, (iv ((splitP (rdD (splitP p0 (⟨#[32]⟩ : ByteArray)) x18 ByteArray.empty) (⟨#[46]⟩ : ByteArray)).length : Int))), (37, (iv (w64 (x46 + 1))))] [] (fun fb => by kernel_rfl) rfl trivial ?_
        refine WL.done rfl ?_
        exact WX.again k49 (Nat.lt_succ_self _) (t58.1, x43, x44, x45, w64 (x46 + 1)) [0, 4, 8, 19, 20, 21, 35, 36, 37] rfl ⟨(hS69.subR [0]).sub [1, 0, 2, 3] (by decide), hl52⟩
       rcases br_some hl52 with ⟨h70, hl52⟩ | ⟨h70, hl52⟩
       ·
        refine WL.setI 49 (eq_of_beq h70) rfl ?_
        refine seg 3 [] [0, 4, 8, 19, 20, 21, 35, 36, 37, 50, 51] [(0, (.string p0)), (4, (sv A4 l17 c5)), (8, (pt g39)), (19, (sv A15 (splitP p0 (⟨#[32]⟩ : ByteArray)) c16)), (20, (iv ((splitP p0 (⟨#[32]⟩ : ByteArray)).length : Int))), (21, (iv x18)), (35, (sv A33 (splitP (rdD (splitP p0 (⟨#[32]⟩ : ByteArray)) x18 ByteArray.empty) (⟨#[46]⟩ : ByteArray)) c34)), (36, (iv ((splitP (rdD (splitP p0 (⟨#[32]⟩ : ByteArray)) x18 ByteArray.empty) (⟨#[46]⟩ : ByteArray)).length : Int))), (37, (iv x46)), (50, (iv t58.1)), (51, (.pointer (some ⟨g39, 1, none⟩)))] [] (fun fb => by kernel_rfl) rfl trivial ?_
        refine WL.store hS57 1 rfl [(1, (iv t58.1))] #[(iv x42), (iv t58.1), (iv x44), (iv x45)] (fun fb => by kernel_rfl) (by kernel_rfl) rfl [0, 2, 3] (by decide) (by decide) (fun w71 hS72 => ?_)
        refine ⟨trivial, ?_⟩
        refine WL.done rfl ?_
        refine WX.blockN (WX.next ?_)
        refine WC.region ?_
        refine seg 2 [] [0, 4, 8, 19, 20, 21, 35, 36, 37] [(0, (.string p0)), (4, (sv A4 l17 c5)), (8, (pt g39)), (19, (sv A15 (splitP p0 (⟨#[32]⟩ : ByteArray)) c16)), (20, (iv ((splitP p0 (⟨#[32]⟩ : ByteArray)).length : Int))), (21, (iv x18)), (35, (sv A33 (splitP (rdD (splitP p0 (⟨#[32]⟩ : ByteArray)) x18 ByteArray.empty) (⟨#[46]⟩ : ByteArray)) c34)), (36, (iv ((splitP (rdD (splitP p0 (⟨#[32]⟩ : ByteArray)) x18 ByteArray.empty) (⟨#[46]⟩ : ByteArray)).length : Int))), (37, (iv (w64 (x46 + 1))))] [] (fun fb => by kernel_rfl) rfl trivial ?_
        refine WL.done rfl ?_
        exact WX.again k49 (Nat.lt_succ_self _) (x42, t58.1, x44, x45, w64 (x46 + 1)) [0, 4, 8, 19, 20, 21, 35, 36, 37] rfl ⟨(hS72.subR [0]).sub [1, 0, 2, 3] (by decide), hl52⟩
       rcases br_some hl52 with ⟨h73, hl52⟩ | ⟨h73, hl52⟩
       ·
        refine WL.setI 49 (eq_of_beq h73) rfl ?_
        refine seg 3 [] [0, 4, 8, 19, 20, 21, 35, 36, 37, 50, 51] [(0, (.string p0)), (4, (sv A4 l17 c5)), (8, (pt g39)), (19, (sv A15 (splitP p0 (⟨#[32]⟩ : ByteArray)) c16)), (20, (iv ((splitP p0 (⟨#[32]⟩ : ByteArray)).length : Int))), (21, (iv x18)), (35, (sv A33 (splitP (rdD (splitP p0 (⟨#[32]⟩ : ByteArray)) x18 ByteArray.empty) (⟨#[46]⟩ : ByteArray)) c34)), (36, (iv ((splitP (rdD (splitP p0 (⟨#[32]⟩ : ByteArray)) x18 ByteArray.empty) (⟨#[46]⟩ : ByteArray)).length : Int))), (37, (iv x46)), (50, (iv t58.1)), (51, (.pointer (some ⟨g39, 2, none⟩)))] [] (fun fb => by kernel_rfl) rfl trivial ?_
        refine WL.store hS57 1 rfl [(2, (iv t58.1))] #[(iv x42), (iv x43), (iv t58.1), (iv x45)] (fun fb => by kernel_rfl) (by kernel_rfl) rfl [0, 2, 3] (by decide) (by decide) (fun w74 hS75 => ?_)
        refine ⟨trivial, ?_⟩
        refine WL.done rfl ?_
        refine WX.blockN (WX.next ?_)
        refine WC.region ?_
        refine seg 2 [] [0, 4, 8, 19, 20, 21, 35, 36, 37] [(0, (.string p0)), (4, (sv A4 l17 c5)), (8, (pt g39)), (19, (sv A15 (splitP p0 (⟨#[32]⟩ : ByteArray)) c16)), (20, (iv ((splitP p0 (⟨#[32]⟩ : ByteArray)).length : Int))), (21, (iv x18)), (35, (sv A33 (splitP (rdD (splitP p0 (⟨#[32]⟩ : ByteArray)) x18 ByteArray.empty) (⟨#[46]⟩ : ByteArray)) c34)), (36, (iv ((splitP (rdD (splitP p0 (⟨#[32]⟩ : ByteArray)) x18 ByteArray.empty) (⟨#[46]⟩ : ByteArray)).length : Int))), (37, (iv (w64 (x46 + 1))))] [] (fun fb => by kernel_rfl) rfl trivial ?_
        refine WL.done rfl ?_
        exact WX.again k49 (Nat.lt_succ_self _) (x42, x43, t58.1, x45, w64 (x46 + 1)) [0, 4, 8, 19, 20, 21, 35, 36, 37] rfl ⟨(hS75.subR [0]).sub [1, 0, 2, 3] (by decide), hl52⟩
       rcases br_some hl52 with ⟨h76, hl52⟩ | ⟨h76, hl52⟩
       ·
        refine WL.setI 49 (eq_of_beq h76) rfl ?_
        refine seg 3 [] [0, 4, 8, 19, 20, 21, 35, 36, 37, 50, 51] [(0, (.string p0)), (4, (sv A4 l17 c5)), (8, (pt g39)), (19, (sv A15 (splitP p0 (⟨#[32]⟩ : ByteArray)) c16)), (20, (iv ((splitP p0 (⟨#[32]⟩ : ByteArray)).length : Int))), (21, (iv x18)), (35, (sv A33 (splitP (rdD (splitP p0 (⟨#[32]⟩ : ByteArray)) x18 ByteArray.empty) (⟨#[46]⟩ : ByteArray)) c34)), (36, (iv ((splitP (rdD (splitP p0 (⟨#[32]⟩ : ByteArray)) x18 ByteArray.empty) (⟨#[46]⟩ : ByteArray)).length : Int))), (37, (iv x46)), (50, (iv t58.1)), (51, (.pointer (some ⟨g39, 3, none⟩)))] [] (fun fb => by kernel_rfl) rfl trivial ?_
        refine WL.store hS57 1 rfl [(3, (iv t58.1))] #[(iv x42), (iv x43), (iv x44), (iv t58.1)] (fun fb => by kernel_rfl) (by kernel_rfl) rfl [0, 2, 3] (by decide) (by decide) (fun w77 hS78 => ?_)
        refine ⟨trivial, ?_⟩
        refine WL.done rfl ?_
        refine WX.blockN (WX.next ?_)
        refine WC.region ?_
        refine seg 2 [] [0, 4, 8, 19, 20, 21, 35, 36, 37] [(0, (.string p0)), (4, (sv A4 l17 c5)), (8, (pt g39)), (19, (sv A15 (splitP p0 (⟨#[32]⟩ : ByteArray)) c16)), (20, (iv ((splitP p0 (⟨#[32]⟩ : ByteArray)).length : Int))), (21, (iv x18)), (35, (sv A33 (splitP (rdD (splitP p0 (⟨#[32]⟩ : ByteArray)) x18 ByteArray.empty) (⟨#[46]⟩ : ByteArray)) c34)), (36, (iv ((splitP (rdD (splitP p0 (⟨#[32]⟩ : ByteArray)) x18 ByteArray.empty) (⟨#[46]⟩ : ByteArray)).length : Int))), (37, (iv (w64 (x46 + 1))))] [] (fun fb => by kernel_rfl) rfl trivial ?_
        refine WL.done rfl ?_
        exact WX.again k49 (Nat.lt_succ_self _) (x42, x43, x44, t58.1, w64 (x46 + 1)) [0, 4, 8, 19, 20, 21, 35, 36, 37] rfl ⟨(hS78.subR [0]).sub [1, 0, 2, 3] (by decide), hl52⟩
       cases hl52
      refine WC.condF2 (fun fb => by kernel_rfl) h53 ?_
      refine WC.exit ?_
      injection hl52 with hl52
      exact WX.thenX (WX.thenX (WX.blockHere (WX.to Kx47 (x42, x43, x44, x45) [0, 4, 8, 19, 20, 21] rfl ⟨(hS51.subR [0]).sub [0, 1, 2] (by decide), hl52.symm⟩)))
    rintro y82 w79 ⟨hS80, hq81⟩
    subst hq81
    have hl26 := sum_inr hl26
    refine WX.next (WC.region ?_)
    refine seg 10 [.v (iv y82.1), .v (iv y82.2.1), .v (iv y82.2.2.1), .v (iv y82.2.2.2)] [0, 19, 20, 21, 53, 62] [(0, (.string p0)), (19, (sv A15 (splitP p0 (⟨#[32]⟩ : ByteArray)) c16)), (20, (iv ((splitP p0 (⟨#[32]⟩ : ByteArray)).length : Int))), (21, (iv x18)), (53, (sv A4 l17 c5)), (62, (.agg #[(iv y82.1), (iv y82.2.1), (iv y82.2.2.1), (iv y82.2.2.2)]))] [.cell ⟨g39, 0, none⟩ (iv y82.1), .cell ⟨g39, 1, none⟩ (iv y82.2.1), .cell ⟨g39, 2, none⟩ (iv y82.2.2.1), .cell ⟨g39, 3, none⟩ (iv y82.2.2.2)] (fun fb => by kernel_rfl) rfl ⟨hS80.cell 1 rfl 0 rfl, hS80.cell 1 rfl 1 rfl, hS80.cell 1 rfl 2 rfl, hS80.cell 1 rfl 3 rfl, trivial⟩ ?_
    refine WL.new hS80 63 [] (fun g => (.slice (some ⟨g, 0, none⟩) 1 1)) (.cells #[(iv y82.1), (iv y82.2.1), (iv y82.2.2.1), (iv y82.2.2.2)] 50 (0, 0)) [] (fun fb g => by kernel_rfl) trivial (fun g83 w84 hS85 => ?_)
    refine ⟨trivial, ?_⟩
    have hS86 := hS31.go w84 [rowO 50 enc_Tile (some ⟨g83, 0, none⟩) 1 [(Tile.mk y82.1 y82.2.1 y82.2.2.1 y82.2.2.2)], rowO 50 enc_Tile A4 c5 l17, blk g39 (.cells #[(iv y82.1), (iv y82.2.1), (iv y82.2.2.1), (iv y82.2.2.2)] 44 (0, 0)), rowO 9 encStr A15 c16 (splitP p0 (⟨#[32]⟩ : ByteArray))] (hS85.map1 0 _ (fun h => rowO.ofBlk h rfl (Nat.le_of_ble_eq_true (by kernel_rfl))) (fun _ h => by obtain ⟨_, h1, h2⟩ := h; injection h1 with h1; subst h1; exact h2) [1, 2, 3] (by decide) (by decide))
    obtain ⟨h87, hl26⟩ := as_some hl26
    refine WL.append hS86 1 (d := 64) (tS := 23) (z := (.agg #[(iv 0), (iv 0), (iv 0), (iv 0)])) (bytes := 32) (c2 := 1) rfl (fun fb => by kernel_rfl) (rowO.rd (hS86.own 0).1) (by kernel_rfl) (by kernel_rfl) rfl (by decide) h87 (by decide) [0, 2, 3] (by decide) (by decide) (fun A88 c89 w90 hS91 => ?_)
    refine ⟨trivial, ?_⟩
    refine seg 13 [] [0, 4, 19, 20, 21] [(0, (.string p0)), (4, (sv A88 (l17 ++ [(Tile.mk y82.1 y82.2.1 y82.2.2.1 y82.2.2.2)]) c89)), (19, (sv A15 (splitP p0 (⟨#[32]⟩ : ByteArray)) c16)), (20, (iv ((splitP p0 (⟨#[32]⟩ : ByteArray)).length : Int))), (21, (iv x18))] [] (fun fb => by kernel_rfl) rfl trivial ?_
    refine WL.done rfl ?_
    refine WX.blockN (WX.next ?_)
    refine WC.region ?_
    refine seg 2 [] [0, 4, 19, 20, 21] [(0, (.string p0)), (4, (sv A88 (l17 ++ [(Tile.mk y82.1 y82.2.1 y82.2.2.1 y82.2.2.2)]) c89)), (19, (sv A15 (splitP p0 (⟨#[32]⟩ : ByteArray)) c16)), (20, (iv ((splitP p0 (⟨#[32]⟩ : ByteArray)).length : Int))), (21, (iv (w64 (x18 + 1))))] [] (fun fb => by kernel_rfl) rfl trivial ?_
    refine WL.done rfl ?_
    exact WX.again k23 (Nat.lt_succ_self _) ((l17 ++ [(Tile.mk y82.1 y82.2.1 y82.2.2.1 y82.2.2.2)], w64 (x18 + 1)), A88, c89) [0, 4, 19, 20, 21] rfl ⟨(hS91.subR [0]).sub [0, 3] (by decide), hl26⟩
   refine WC.condF2 (fun fb => by kernel_rfl) h27 ?_
   refine WC.exit ?_
   injection hl26 with hl26
   exact WX.thenX (WX.thenX (WX.blockHere (WX.to Kx21 (l17, A4, c5) [0, 4] rfl ⟨(hS25.subR [0]).sub [0] (by decide), hl26.symm⟩)))
 rintro ⟨y95, A19, c20⟩ w92 ⟨hS93, hq94⟩
 subst hq94
 have hf := sum_inr hf
 refine WX.next (WC.seq (WC.seq (WC.region ?_)))
 refine seg 1 [] [0, 4, 66] [(0, (.string p0)), (4, (sv A19 y95 c20)), (66, (sv A19 y95 c20))] [] (fun fb => by kernel_rfl) rfl trivial ?_
 obtain ⟨t96, ht97, hf⟩ := bind_some hf
 refine WL.call (some 67) 14 #[(sv A19 y95 c20)] (fun fb => by kernel_rfl) (tile_Valid_calls _ y95 A19 c20 t96 _ (hS93.ow 0).ofO ht97) (fun v w98 hR99 => ?_)
 obtain ⟨rfl, hk_⟩ := hR99
 have hS100 := hS93.keepN hk_
 refine ⟨trivial, ?_⟩
 refine seg 4 [] [0, 4, 69] [(0, (.string p0)), (4, (sv A19 y95 c20)), (69, (bv (!t96)))] [] (fun fb => by kernel_rfl) rfl trivial ?_
 obtain ⟨x101, hx102, hf⟩ := bind_some hf
 refine WL.cutW (T := Bool) 9 (fun t => [(4, (sv A19 y95 c20)), (74, (bv t))]) (fun t w1 => (St NoS w w1 [gloO Tryd.prog 2 5 0 1 mG] [rowO 50 enc_Tile A19 c20 y95] ∧ x101 = t) ∧ CellsOK [] w1) (fun K => ?_) ?_
 ·
  rcases br_some hx102 with ⟨h103, hx102⟩ | ⟨h103, hx102⟩
  ·
   refine WL.setB 69 h103 rfl ?_
   refine seg 9 [] [4, 74] [(4, (sv A19 y95 c20)), (74, (bv true))] [] (fun fb => by kernel_rfl) rfl trivial ?_
   injection hx102 with hx102
   exact WL.to K true [4, 74] rfl ⟨⟨(hS100.subR [0]).sub [0] (by decide), hx102.symm⟩, trivial⟩
  refine WL.setB 69 h103 rfl ?_
  refine seg 5 [] [0, 4, 69, 70] [(0, (.string p0)), (4, (sv A19 y95 c20)), (69, (bv false)), (70, (sv A19 y95 c20))] [] (fun fb => by kernel_rfl) rfl trivial ?_
  obtain ⟨t104, ht105, hx102⟩ := bind_some hx102
  refine WL.call (some 71) 25 #[(sv A19 y95 c20)] (fun fb => by kernel_rfl) (tile_write_calls _ y95 A19 c20 mG t104 _ (hS100.ow 0).ofO (hS100.rd 0) ht105) (fun v w106 hR107 => ?_)
  obtain ⟨rfl, hk_⟩ := hR107
  have hS108 := hS100.keepN hk_
  refine ⟨trivial, ?_⟩
  refine seg 7 [] [4, 69, 71, 72] [(4, (sv A19 y95 c20)), (69, (bv false)), (71, (.string t104)), (72, (.string p0))] [] (fun fb => by kernel_rfl) rfl trivial ?_
  refine seg 8 [] [4, 69, 73] [(4, (sv A19 y95 c20)), (69, (bv false)), (73, (bv (!(t104.toList == p0.toList))))] [] (fun fb => by kernel_rfl) rfl trivial ?_
  refine WL.setB 73 (congrArg not (strEq_raw t104 p0)) rfl ?_
  refine seg 9 [] [4, 74] [(4, (sv A19 y95 c20)), (74, (bv (!(strEq t104 p0))))] [] (fun fb => by kernel_rfl) rfl trivial ?_
  injection hx102 with hx102
  exact WL.to K (!(strEq t104 p0)) [4, 74] rfl ⟨⟨(hS108.subR [0]).sub [0] (by decide), hx102.symm⟩, trivial⟩
 rintro y109 w111 ⟨⟨hS112, hq110⟩, hF113⟩
 subst hq110
 refine WL.done rfl (WX.next ?_)
 rcases br_some hf with ⟨h114, hf⟩ | ⟨h114, hf⟩
 ·refine WC.condT2 (fun fb => by kernel_rfl) h114 ?_
  refine WC.seq (WC.region ?_)
  refine seg 2 [] [2, 3] [(2, (.slice none 0 0)), (3, (iv 3))] [] (fun fb => by kernel_rfl) rfl trivial ?_
  refine WL.done rfl (WX.next ?_)
  refine WC.ret ?_
  have hS115 := hS112.nilrow 50 enc_Tile
  injection hf with hf
  subst hf
  exact WX.thenR (WX.ret_ [] (.tuple #[(sv none ([] : List Tile) 0), (iv 3)]) [] (fun fb => by kernel_rfl) trivial ⟨_, rfl, none, 0, rfl, (hS115.sub [0] (by decide)).noR⟩)
 refine WC.condF2 (fun fb => by kernel_rfl) h114 ?_
 refine WC.skip (WX.next (WC.seq (WC.region ?_)))
 refine seg 3 [] [2, 3] [(2, (sv A19 y95 c20)), (3, (iv 0))] [] (fun fb => by kernel_rfl) rfl trivial ?_
 refine WL.done rfl (WX.next ?_)
 refine WC.ret ?_
 injection hf with hf
 subst hf
 exact WX.ret_ [] (.tuple #[(sv A19 y95 c20), (iv 0)]) [] (fun fb => by kernel_rfl) trivial ⟨_, rfl, A19, c20, rfl, (hS112.sub [0] (by decide)).noR⟩
theorem tile_Text_calls (k : Nat) (p0 : List Tile) (Aa : Option Addr) (ca : Nat) (mG : Glo) (r : ByteArray × Int) (w : World) (hR0 : RO NoS w (rowR enc_Tile Aa ca p0)) (hR1 : RO NoS w (gloO Tryd.prog 2 5 0 1 mG)) (hf : tile_Text k p0 = some r) :
  CallsR Tryd.prog 8 #[(sv Aa p0 ca)] w (fun v w' => v = (.tuple #[(.string r.1), (iv r.2)]) ∧ Keeps NoS w w') := by
 have hS : St NoS w w [rowR enc_Tile Aa ca p0, gloO Tryd.prog 2 5 0 1 mG] [] := St.init (ro_cons hR0 (ro_cons hR1 (ro_nil _ _)))
 refine enter 9 Tryd.func8 rfl Tryd.ntmps8 rfl ?_
 unfold tile_Text at hf
 refine WC.seq (WC.region ?_)
 refine seg 2 [] [0] [(0, (sv Aa p0 ca))] [] (fun fb => by kernel_rfl) rfl trivial ?_
 refine WL.done rfl (WX.next (WC.seq (WC.seq (WC.region ?_))))
 refine seg 1 [] [0, 4] [(0, (sv Aa p0 ca)), (4, (sv Aa p0 ca))] [] (fun fb => by kernel_rfl) rfl trivial ?_
 obtain ⟨t3, ht4, hf⟩ := bind_some hf
 refine WL.call (some 5) 14 #[(sv Aa p0 ca)] (fun fb => by kernel_rfl) (tile_Valid_calls _ p0 Aa ca t3 _ (hS.rd 0) ht4) (fun v w5 hR6 => ?_)
 obtain ⟨rfl, hk_⟩ := hR6
 have hS7 := hS.keepN hk_
 refine ⟨trivial, ?_⟩
 refine seg 3 [] [0, 6] [(0, (sv Aa p0 ca)), (6, (bv (!t3)))] [] (fun fb => by kernel_rfl) rfl trivial ?_
 refine WL.done rfl (WX.next ?_)
 rcases br_some hf with ⟨h9, hf⟩ | ⟨h9, hf⟩
 ·refine WC.condT2 (fun fb => by kernel_rfl) h9 ?_
  refine WC.seq (WC.region ?_)
  refine seg 2 [] [2, 3] [(2, (.string (⟨#[]⟩ : ByteArray))), (3, (iv 1))] [] (fun fb => by kernel_rfl) rfl trivial ?_
  refine WL.done rfl (WX.next ?_)
  refine WC.ret ?_
  injection hf with hf
  subst hf
  exact WX.thenR (WX.ret_ [] (.tuple #[(.string (⟨#[]⟩ : ByteArray)), (iv 1)]) [] (fun fb => by kernel_rfl) trivial ⟨_, rfl, rfl, hS7.keep⟩)
 refine WC.condF2 (fun fb => by kernel_rfl) h9 ?_
 refine WC.skip (WX.next (WC.seq (WC.region ?_)))
 refine seg 1 [] [7] [(7, (sv Aa p0 ca))] [] (fun fb => by kernel_rfl) rfl trivial ?_
 obtain ⟨t10, ht11, hf⟩ := bind_some hf
 refine WL.call (some 8) 25 #[(sv Aa p0 ca)] (fun fb => by kernel_rfl) (tile_write_calls _ p0 Aa ca mG t10 _ (hS7.rd 0) (hS7.rd 1) ht11) (fun v w12 hR13 => ?_)
 obtain ⟨rfl, hk_⟩ := hR13
 have hS14 := hS7.keepN hk_
 refine ⟨trivial, ?_⟩
 refine seg 4 [] [2, 3] [(2, (.string t10)), (3, (iv 0))] [] (fun fb => by kernel_rfl) rfl trivial ?_
 refine WL.done rfl (WX.next ?_)
 refine WC.ret ?_
 injection hf with hf
 subst hf
 exact WX.ret_ [] (.tuple #[(.string t10), (iv 0)]) [] (fun fb => by kernel_rfl) trivial ⟨_, rfl, rfl, hS14.keep⟩
theorem tile_Form_calls (p0 : Pattern) (Aa : Option Addr) (ca : Nat) (r : Bool) (w : World) (hR0 : RO NoS w (rowR encInt Aa ca p0.Cells)) (hf : tile_Form p0 = some r) :
  CallsR Tryd.prog 41 #[(.agg #[(iv p0.Width), (iv p0.Height), (sv Aa p0.Cells ca)])] w (fun v w' => v = (bv r) ∧ Keeps NoS w w') := by
 have hS : St NoS w w [rowR encInt Aa ca p0.Cells] [] := St.init (ro_cons hR0 (ro_nil _ _))
 refine enter 40 Tryd.func41 rfl Tryd.ntmps41 rfl ?_
 unfold tile_Form at hf
 refine WC.seq (WC.region ?_)
 refine WL.new hS 1 [] (fun g => (pt g)) (.cells #[(iv p0.Width), (iv p0.Height), (sv Aa p0.Cells ca)] 40 (0, 0)) [] (fun fb g => by kernel_rfl) trivial (fun g1 w2 hS3 => ?_)
 refine ⟨trivial, ?_⟩
 refine seg 2 [] [1] [(1, (pt g1))] [] (fun fb => by kernel_rfl) rfl trivial ?_
 refine WL.done rfl (WX.next (WC.seq (WC.region ?_)))
 refine seg 4 [.v (iv p0.Width)] [1, 6] [(1, (pt g1)), (6, (bv (decide (p0.Width ≥ 1))))] [.cell ⟨g1, 0, none⟩ (iv p0.Width)] (fun fb => by kernel_rfl) rfl ⟨hS3.cell 0 rfl 0 rfl, trivial⟩ ?_
 refine WL.cutV (T := Bool) 8 (fun t => [(10, (bv t)), (1, (pt g1))]) (fun t => ((decide (p0.Width ≥ 1)) && (decide (p0.Height ≥ 1))) = t) (fun K => ?_) ?_
 ·
  rcases Bool.eq_false_or_eq_true (decide (p0.Width ≥ 1)) with h4 | h4
  ·
   refine WL.setB 6 h4 rfl ?_
   refine seg 8 [.v (iv p0.Height)] [1, 10] [(1, (pt g1)), (10, (bv (decide (p0.Height ≥ 1))))] [.cell ⟨g1, 1, none⟩ (iv p0.Height)] (fun fb => by kernel_rfl) rfl ⟨hS3.cell 0 rfl 1 rfl, trivial⟩ ?_
   exact WL.toV K (decide (p0.Height ≥ 1)) [10, 1] rfl (by first | (rw [h4]; done) | (rw [h4]; rfl))
  refine WL.setB 6 h4 rfl ?_
  refine seg 8 [] [1, 10] [(1, (pt g1)), (10, (bv false))] [] (fun fb => by kernel_rfl) rfl trivial ?_
  exact WL.toV K false [10, 1] rfl (by first | (rw [h4]; done) | (rw [h4]; rfl))
 rintro b5 rfl
 refine seg 9 [] [1, 11] [(1, (pt g1)), (11, (bv ((decide (p0.Width ≥ 1)) && (decide (p0.Height ≥ 1)))))] [] (fun fb => by kernel_rfl) rfl trivial ?_
 refine WL.cutV (T := Bool) 13 (fun t => [(15, (bv t)), (1, (pt g1))]) (fun t => (((decide (p0.Width ≥ 1)) && (decide (p0.Height ≥ 1))) && (decide (p0.Width ≤ 40000))) = t) (fun K => ?_) ?_
 ·
  rcases Bool.eq_false_or_eq_true ((decide (p0.Width ≥ 1)) && (decide (p0.Height ≥ 1))) with h6 | h6
  ·
   refine WL.setB 11 h6 rfl ?_
   refine seg 13 [.v (iv p0.Width)] [1, 15] [(1, (pt g1)), (15, (bv (decide (p0.Width ≤ 40000))))] [.cell ⟨g1, 0, none⟩ (iv p0.Width)] (fun fb => by kernel_rfl) rfl ⟨hS3.cell 0 rfl 0 rfl, trivial⟩ ?_
   exact WL.toV K (decide (p0.Width ≤ 40000)) [15, 1] rfl (by first | (rw [h6]; done) | (rw [h6]; rfl))
  refine WL.setB 11 h6 rfl ?_
  refine seg 13 [] [1, 15] [(1, (pt g1)), (15, (bv false))] [] (fun fb => by kernel_rfl) rfl trivial ?_
  exact WL.toV K false [15, 1] rfl (by first | (rw [h6]; done) | (rw [h6]; rfl))
 rintro b7 rfl
 refine seg 14 [] [1, 16] [(1, (pt g1)), (16, (bv (((decide (p0.Width ≥ 1)) && (decide (p0.Height ≥ 1))) && (decide (p0.Width ≤ 40000)))))] [] (fun fb => by kernel_rfl) rfl trivial ?_
 refine WL.cutV (T := Bool) 18 (fun t => [(20, (bv t)), (1, (pt g1))]) (fun t => ((((decide (p0.Width ≥ 1)) && (decide (p0.Height ≥ 1))) && (decide (p0.Width ≤ 40000))) && (decide (p0.Height ≤ 40000))) = t) (fun K => ?_) ?_
 ·
  rcases Bool.eq_false_or_eq_true (((decide (p0.Width ≥ 1)) && (decide (p0.Height ≥ 1))) && (decide (p0.Width ≤ 40000))) with h8 | h8
  ·
   refine WL.setB 16 h8 rfl ?_
   refine seg 18 [.v (iv p0.Height)] [1, 20] [(1, (pt g1)), (20, (bv (decide (p0.Height ≤ 40000))))] [.cell ⟨g1, 1, none⟩ (iv p0.Height)] (fun fb => by kernel_rfl) rfl ⟨hS3.cell 0 rfl 1 rfl, trivial⟩ ?_
   exact WL.toV K (decide (p0.Height ≤ 40000)) [20, 1] rfl (by first | (rw [h8]; done) | (rw [h8]; rfl))
  refine WL.setB 16 h8 rfl ?_
  refine seg 18 [] [1, 20] [(1, (pt g1)), (20, (bv false))] [] (fun fb => by kernel_rfl) rfl trivial ?_
  exact WL.toV K false [20, 1] rfl (by first | (rw [h8]; done) | (rw [h8]; rfl))
 rintro b9 rfl
 refine seg 19 [] [1, 21] [(1, (pt g1)), (21, (bv ((((decide (p0.Width ≥ 1)) && (decide (p0.Height ≥ 1))) && (decide (p0.Width ≤ 40000))) && (decide (p0.Height ≤ 40000)))))] [] (fun fb => by kernel_rfl) rfl trivial ?_
 refine WL.cutV (T := Bool) 26 (fun t => [(28, (bv t)), (1, (pt g1))]) (fun t => (((((decide (p0.Width ≥ 1)) && (decide (p0.Height ≥ 1))) && (decide (p0.Width ≤ 40000))) && (decide (p0.Height ≤ 40000))) && (decide (w64 (p0.Width * p0.Height) ≤ 40000))) = t) (fun K => ?_) ?_
 ·
  rcases Bool.eq_false_or_eq_true ((((decide (p0.Width ≥ 1)) && (decide (p0.Height ≥ 1))) && (decide (p0.Width ≤ 40000))) && (decide (p0.Height ≤ 40000))) with h10 | h10
  ·
   refine WL.setB 21 h10 rfl ?_
   refine seg 26 [.v (iv p0.Width), .v (iv p0.Height)] [1, 28] [(1, (pt g1)), (28, (bv (decide (w64 (p0.Width * p0.Height) ≤ 40000))))] [.cell ⟨g1, 0, none⟩ (iv p0.Width), .cell ⟨g1, 1, none⟩ (iv p0.Height)] (fun fb => by kernel_rfl) rfl ⟨hS3.cell 0 rfl 0 rfl, hS3.cell 0 rfl 1 rfl, trivial⟩ ?_
   exact WL.toV K (decide (w64 (p0.Width * p0.Height) ≤ 40000)) [28, 1] rfl (by first | (rw [h10]; done) | (rw [h10]; rfl))
  refine WL.setB 21 h10 rfl ?_
  refine seg 26 [] [1, 28] [(1, (pt g1)), (28, (bv false))] [] (fun fb => by kernel_rfl) rfl trivial ?_
  exact WL.toV K false [28, 1] rfl (by first | (rw [h10]; done) | (rw [h10]; rfl))
 rintro b11 rfl
 refine seg 27 [] [1, 29] [(1, (pt g1)), (29, (bv (((((decide (p0.Width ≥ 1)) && (decide (p0.Height ≥ 1))) && (decide (p0.Width ≤ 40000))) && (decide (p0.Height ≤ 40000))) && (decide (w64 (p0.Width * p0.Height) ≤ 40000)))))] [] (fun fb => by kernel_rfl) rfl trivial ?_
 refine WL.cutV (T := Bool) 37 (fun t => [(39, (bv t))]) (fun t => ((((((decide (p0.Width ≥ 1)) && (decide (p0.Height ≥ 1))) && (decide (p0.Width ≤ 40000))) && (decide (p0.Height ≤ 40000))) && (decide (w64 (p0.Width * p0.Height) ≤ 40000))) && ((p0.Cells.length : Int) == (w64 (p0.Width * p0.Height)))) = t) (fun K => ?_) ?_
 ·
  rcases Bool.eq_false_or_eq_true (((((decide (p0.Width ≥ 1)) && (decide (p0.Height ≥ 1))) && (decide (p0.Width ≤ 40000))) && (decide (p0.Height ≤ 40000))) && (decide (w64 (p0.Width * p0.Height) ≤ 40000))) with h12 | h12
  ·
   refine WL.setB 29 h12 rfl ?_
   refine seg 37 [.v (sv Aa p0.Cells ca), .v (iv p0.Width), .v (iv p0.Height)] [39] [(39, (bv ((p0.Cells.length : Int) == (w64 (p0.Width * p0.Height)))))] [.cell ⟨g1, 2, none⟩ (sv Aa p0.Cells ca), .cell ⟨g1, 0, none⟩ (iv p0.Width), .cell ⟨g1, 1, none⟩ (iv p0.Height)] (fun fb => by kernel_rfl) rfl ⟨hS3.cell 0 rfl 2 rfl, hS3.cell 0 rfl 0 rfl, hS3.cell 0 rfl 1 rfl, trivial⟩ ?_
   exact WL.toV K ((p0.Cells.length : Int) == (w64 (p0.Width * p0.Height))) [39] rfl (by first | (rw [h12]; done) | (rw [h12]; rfl))
  refine WL.setB 29 h12 rfl ?_
  refine seg 37 [] [39] [(39, (bv false))] [] (fun fb => by kernel_rfl) rfl trivial ?_
  exact WL.toV K false [39] rfl (by first | (rw [h12]; done) | (rw [h12]; rfl))
 rintro b13 rfl
 refine seg 38 [] [2] [(2, (bv ((((((decide (p0.Width ≥ 1)) && (decide (p0.Height ≥ 1))) && (decide (p0.Width ≤ 40000))) && (decide (p0.Height ≤ 40000))) && (decide (w64 (p0.Width * p0.Height) ≤ 40000))) && ((p0.Cells.length : Int) == (w64 (p0.Width * p0.Height))))))] [] (fun fb => by kernel_rfl) rfl trivial ?_
 refine WL.done rfl (WX.next ?_)
 refine WC.ret ?_
 injection hf with hf
 subst hf
 exact WX.ret_ [] (bv ((((((decide (p0.Width ≥ 1)) && (decide (p0.Height ≥ 1))) && (decide (p0.Width ≤ 40000))) && (decide (p0.Height ≤ 40000))) && (decide (w64 (p0.Width * p0.Height) ≤ 40000))) && ((p0.Cells.length : Int) == (w64 (p0.Width * p0.Height))))) [] (fun fb => by kernel_rfl) trivial ⟨_, rfl, rfl, hS3.keep⟩
theorem tile_of_1_calls (p0 : Int) (f0 : List Tile) (ga : Nat) (Aa : Option Addr) (ca : Nat) (r : Bool) (w : World) (hR0 : RO NoS w (blk ga (.cells #[(sv Aa f0 ca)] 23 (0, 0)))) (hR1 : RO NoS w (rowR enc_Tile Aa ca f0)) (hf : tile_of_1 p0 f0 = some r) :
  CallsR Tryd.prog 42 #[(iv p0), (pt ga)] w (fun v w' => v = (bv r) ∧ Keeps NoS w w') := by
 have hS : St NoS w w [blk ga (.cells #[(sv Aa f0 ca)] 23 (0, 0)), rowR enc_Tile Aa ca f0] [] := St.init (ro_cons hR0 (ro_cons hR1 (ro_nil _ _)))
 refine enter 12 Tryd.func42 rfl Tryd.ntmps42 rfl ?_
 unfold tile_of_1 at hf
 refine WC.seq (WC.region ?_)
 refine seg 1 [] [0, 1] [(0, (iv p0)), (1, (pt ga))] [] (fun fb => by kernel_rfl) rfl trivial ?_
 refine WL.done rfl (WX.next (WC.seq (WC.region ?_)))
 refine seg 3 [] [0, 1, 6] [(0, (iv p0)), (1, (pt ga)), (6, (bv (decide (p0 < 0))))] [] (fun fb => by kernel_rfl) rfl trivial ?_
 refine WL.cutV (T := Bool) 8 (fun t => [(11, (bv t))]) (fun t => ((decide (p0 < 0)) || (decide (p0 ≥ (f0.length : Int)))) = t) (fun K => ?_) ?_
 ·
  rcases Bool.eq_false_or_eq_true (decide (p0 < 0)) with h2 | h2
  ·
   refine WL.setB 6 h2 rfl ?_
   refine seg 8 [] [11] [(11, (bv true))] [] (fun fb => by kernel_rfl) rfl trivial ?_
   exact WL.toV K true [11] rfl (by first | (rw [h2]; done) | (rw [h2]; rfl))
  refine WL.setB 6 h2 rfl ?_
  refine seg 8 [.v (sv Aa f0 ca)] [11] [(11, (bv (decide (p0 ≥ (f0.length : Int)))))] [.cell ⟨ga, 0, none⟩ (sv Aa f0 ca)] (fun fb => by kernel_rfl) rfl ⟨blk_cell (hS.rd 0).1 0 rfl, trivial⟩ ?_
  exact WL.toV K (decide (p0 ≥ (f0.length : Int))) [11] rfl (by first | (rw [h2]; done) | (rw [h2]; rfl))
 rintro b3 rfl
 refine seg 9 [] [3] [(3, (bv ((decide (p0 < 0)) || (decide (p0 ≥ (f0.length : Int))))))] [] (fun fb => by kernel_rfl) rfl trivial ?_
 refine WL.done rfl (WX.next ?_)
 refine WC.ret ?_
 injection hf with hf
 subst hf
 exact WX.ret_ [] (bv ((decide (p0 < 0)) || (decide (p0 ≥ (f0.length : Int))))) [] (fun fb => by kernel_rfl) trivial ⟨_, rfl, rfl, hS.keep⟩
theorem slices_IndexFunc_int_int_with_tile_of_1_calls (k : Nat) (p0 : List Int) (p1_0 : List Tile) (Aa : Option Addr) (ca : Nat) (ga : Nat) (Ab : Option Addr) (cb : Nat) (r : Int) (w : World) (hR0 : RO NoS w (rowR encInt Aa ca p0)) (hR1 : RO NoS w (blk ga (.cells #[(sv Ab p1_0 cb)] 23 (0, 0)))) (hR2 : RO NoS w (rowR enc_Tile Ab cb p1_0)) (hf : slices_IndexFunc_int_int_with_tile_of_1 k p0 p1_0 = some r) :
  CallsR Tryd.prog 63 #[(sv Aa p0 ca), (.func (.func 42) #[] #[(pt ga)])] w (fun v w' => v = (iv r) ∧ Keeps NoS w w') := by
 have hS : St NoS w w [rowR encInt Aa ca p0, blk ga (.cells #[(sv Ab p1_0 cb)] 23 (0, 0)), rowR enc_Tile Ab cb p1_0] [] := St.init (ro_cons hR0 (ro_cons hR1 (ro_cons hR2 (ro_nil _ _))))
 refine enter 19 Tryd.func63 rfl Tryd.ntmps63 rfl ?_
 unfold slices_IndexFunc_int_int_with_tile_of_1 at hf
 refine WC.seq (WC.region ?_)
 refine seg 1 [] [0, 1] [(0, (sv Aa p0 ca)), (1, (.func (.func 42) #[] #[(pt ga)]))] [] (fun fb => by kernel_rfl) rfl trivial ?_
 refine WL.done rfl (WX.next (WC.seq (WC.seq (WC.region ?_))))
 refine seg 3 [] [0, 1, 7, 8] [(0, (sv Aa p0 ca)), (1, (.func (.func 42) #[] #[(pt ga)])), (7, (iv (p0.length : Int))), (8, (iv 0))] [] (fun fb => by kernel_rfl) rfl trivial ?_
 refine WL.done rfl (WX.next ?_)
 obtain ⟨x4, hx5, hf⟩ := bind_some hf
 refine WC.cutN (T := Unit) (fun t => []) (fun t w1 => St NoS w w1 [rowR encInt Aa ca p0, blk ga (.cells #[(sv Ab p1_0 cb)] 23 (0, 0)), rowR enc_Tile Ab cb p1_0] [] ∧ x4 = .inr t) (fun Kx4 => ?_) ?_
 ·
  refine WC.block ?_
  refine WC.loop (T := Int) (fun t => [(0, (sv Aa p0 ca)), (1, (.func (.func 42) #[] #[(pt ga)])), (7, (iv (p0.length : Int))), (8, (iv t))]) (fun n t w1 => St NoS w w1 [rowR encInt Aa ca p0, blk ga (.cells #[(sv Ab p1_0 cb)] 23 (0, 0)), rowR enc_Tile Ab cb p1_0] [] ∧ slices_IndexFunc_int_int_with_tile_of_1.l0 n t p0 p1_0 = some x4) k 0 [0, 1, 7, 8] rfl ⟨(hS.subR [0, 1, 2]).sub [] (by decide), hx5⟩ ?_
  rintro k6 x3 w7 ⟨hS8, hl9⟩
  cases k6 with
  | zero => rw [slices_IndexFunc_int_int_with_tile_of_1.l0] at hl9; cases hl9
  | succ k6 =>
   rw [slices_IndexFunc_int_int_with_tile_of_1.l0] at hl9
   refine WC.seq (WC.region ?_)
   refine seg 1 [] [0, 1, 7, 8, 9] [(0, (sv Aa p0 ca)), (1, (.func (.func 42) #[] #[(pt ga)])), (7, (iv (p0.length : Int))), (8, (iv x3)), (9, (bv (decide (x3 < (p0.length : Int)))))] [] (fun fb => by kernel_rfl) rfl trivial ?_
   refine WL.done rfl (WX.next (WC.seq ?_))
   rcases br_some hl9 with ⟨h10, hl9⟩ | ⟨h10, hl9⟩
   ·refine WC.condT2 (fun fb => by kernel_rfl) h10 ?_
    refine WC.skip (WX.next (WC.seq (WC.block (WC.seq (WC.region ?_)))))
    refine seg 2 [] [0, 1, 5, 7, 8] [(0, (sv Aa p0 ca)), (1, (.func (.func 42) #[] #[(pt ga)])), (5, (iv x3)), (7, (iv (p0.length : Int))), (8, (iv x3))] [] (fun fb => by kernel_rfl) rfl trivial ?_
    refine WL.done rfl (WX.next (WC.seq (WC.region ?_)))
    refine seg 3 [] [0, 1, 5, 7, 8, 11, 12, 13] [(0, (sv Aa p0 ca)), (1, (.func (.func 42) #[] #[(pt ga)])), (5, (iv x3)), (7, (iv (p0.length : Int))), (8, (iv x3)), (11, (.func (.func 42) #[] #[(pt ga)])), (12, (sv Aa p0 ca)), (13, (iv x3))] [] (fun fb => by kernel_rfl) rfl trivial ?_
    obtain ⟨h11, hl9⟩ := as_some hl9
    refine seg 5 [.v (iv (rdD p0 x3 0))] [0, 1, 5, 7, 8, 11, 15] [(0, (sv Aa p0 ca)), (1, (.func (.func 42) #[] #[(pt ga)])), (5, (iv x3)), (7, (iv (p0.length : Int))), (8, (iv x3)), (11, (.func (.func 42) #[] #[(pt ga)])), (15, (iv (rdD p0 x3 0)))] [.idx Aa x3 p0.length, .cell ((adr Aa).add ((x3).toNat * 1)) (iv (rdD p0 x3 0))] (fun fb => by kernel_rfl) rfl ⟨rowR.adr (hS8.rd 0).1 h11.1 h11.2, rowR.cell (hS8.rd 0).1 0 h11.1 h11.2 0 rfl, trivial⟩ ?_
    obtain ⟨t12, ht13, hl9⟩ := bind_some hl9
    refine WL.call (some 16) 42 #[(iv (rdD p0 x3 0)), (pt ga)] (fun fb => by kernel_rfl) (tile_of_1_calls (rdD p0 x3 0) p1_0 ga Ab cb t12 _ (hS8.rd 1) (hS8.rd 2) ht13) (fun v w14 hR15 => ?_)
    obtain ⟨rfl, hk_⟩ := hR15
    have hS16 := hS8.keepN hk_
    refine ⟨trivial, ?_⟩
    refine WL.done rfl (WX.next ?_)
    rcases br_some hl9 with ⟨h17, hl9⟩ | ⟨h17, hl9⟩
    ·refine WC.condT2 (fun fb => by kernel_rfl) h17 ?_
     refine WC.seq (WC.region ?_)
     refine seg 2 [] [4] [(4, (iv x3))] [] (fun fb => by kernel_rfl) rfl trivial ?_
     refine WL.done rfl (WX.next ?_)
     refine WC.ret ?_
     injection hl9 with hl9
     subst hl9
     injection hf with hf
     subst hf
     exact WX.blockR (WX.thenR (WX.thenR (WX.blockR (WX.thenR (WX.ret_ [] (iv x3) [] (fun fb => by kernel_rfl) trivial ⟨_, rfl, rfl, hS16.keep⟩)))))
    refine WC.condF2 (fun fb => by kernel_rfl) h17 ?_
    refine WC.skip ?_
    refine WX.blockN (WX.next ?_)
    refine WC.region ?_
    refine seg 2 [] [0, 1, 7, 8] [(0, (sv Aa p0 ca)), (1, (.func (.func 42) #[] #[(pt ga)])), (7, (iv (p0.length : Int))), (8, (iv (w64 (x3 + 1))))] [] (fun fb => by kernel_rfl) rfl trivial ?_
    refine WL.done rfl ?_
    exact WX.again k6 (Nat.lt_succ_self _) (w64 (x3 + 1)) [0, 1, 7, 8] rfl ⟨(hS16.subR [0, 1, 2]).sub [] (by decide), hl9⟩
   refine WC.condF2 (fun fb => by kernel_rfl) h10 ?_
   refine WC.exit ?_
   injection hl9 with hl9
   exact WX.thenX (WX.thenX (WX.blockHere (WX.to Kx4 () [] rfl ⟨(hS8.subR [0, 1, 2]).sub [] (by decide), hl9.symm⟩)))
 rintro y21 w18 ⟨hS19, hq20⟩
 subst hq20
 have hf := sum_inr hf
 refine WX.next (WC.seq (WC.region ?_))
 refine seg 1 [] [4] [(4, (iv (-1)))] [] (fun fb => by kernel_rfl) rfl trivial ?_
 refine WL.done rfl (WX.next ?_)
 refine WC.ret ?_
 injection hf with hf
 subst hf
 exact WX.ret_ [] (iv (-1)) [] (fun fb => by kernel_rfl) trivial ⟨_, rfl, rfl, hS19.keep⟩
theorem slices_ContainsFunc_int_int_with_tile_of_1_calls (k : Nat) (p0 : List Int) (p1_0 : List Tile) (Aa : Option Addr) (ca : Nat) (ga : Nat) (Ab : Option Addr) (cb : Nat) (r : Bool) (w : World) (hR0 : RO NoS w (rowR encInt Aa ca p0)) (hR1 : RO NoS w (blk ga (.cells #[(sv Ab p1_0 cb)] 23 (0, 0)))) (hR2 : RO NoS w (rowR enc_Tile Ab cb p1_0)) (hf : slices_ContainsFunc_int_int_with_tile_of_1 k p0 p1_0 = some r) :
  CallsR Tryd.prog 39 #[(sv Aa p0 ca), (.func (.func 42) #[] #[(pt ga)])] w (fun v w' => v = (bv r) ∧ Keeps NoS w w') := by
 have hS : St NoS w w [rowR encInt Aa ca p0, blk ga (.cells #[(sv Ab p1_0 cb)] 23 (0, 0)), rowR enc_Tile Ab cb p1_0] [] := St.init (ro_cons hR0 (ro_cons hR1 (ro_cons hR2 (ro_nil _ _))))
 refine enter 9 Tryd.func39 rfl Tryd.ntmps39 rfl ?_
 unfold slices_ContainsFunc_int_int_with_tile_of_1 at hf
 refine WC.seq (WC.region ?_)
 refine seg 1 [] [0, 1] [(0, (sv Aa p0 ca)), (1, (.func (.func 42) #[] #[(pt ga)]))] [] (fun fb => by kernel_rfl) rfl trivial ?_
 refine WL.done rfl (WX.next (WC.seq (WC.region ?_)))
 refine seg 2 [] [5, 6] [(5, (sv Aa p0 ca)), (6, (.func (.func 42) #[] #[(pt ga)]))] [] (fun fb => by kernel_rfl) rfl trivial ?_
 obtain ⟨t3, ht4, hf⟩ := bind_some hf
 refine WL.call (some 7) 63 #[(sv Aa p0 ca), (.func (.func 42) #[] #[(pt ga)])] (fun fb => by kernel_rfl) (slices_IndexFunc_int_int_with_tile_of_1_calls _ p0 p1_0 Aa ca ga Ab cb t3 _ (hS.rd 0) (hS.rd 1) (hS.rd 2) ht4) (fun v w5 hR6 => ?_)
 obtain ⟨rfl, hk_⟩ := hR6
 have hS7 := hS.keepN hk_
 refine ⟨trivial, ?_⟩
 refine seg 5 [] [4] [(4, (bv (decide (t3 ≥ 0))))] [] (fun fb => by kernel_rfl) rfl trivial ?_
 refine WL.done rfl (WX.next ?_)
 refine WC.ret ?_
 injection hf with hf
 subst hf
 exact WX.ret_ [] (bv (decide (t3 ≥ 0))) [] (fun fb => by kernel_rfl) trivial ⟨_, rfl, rfl, hS7.keep⟩
theorem tile_of_calls (k : Nat) (p0 : List Tile) (p1 : Pattern) (Aa : Option Addr) (ca : Nat) (Ab : Option Addr) (cb : Nat) (r : Bool) (w : World) (hR0 : RO NoS w (rowR enc_Tile Aa ca p0)) (hR1 : RO NoS w (rowR encInt Ab cb p1.Cells)) (hf : tile_of k p0 p1 = some r) :
  CallsR Tryd.prog 31 #[(sv Aa p0 ca), (.agg #[(iv p1.Width), (iv p1.Height), (sv Ab p1.Cells cb)])] w (fun v w' => v = (bv r) ∧ Keeps NoS w w') := by
 have hS : St NoS w w [rowR enc_Tile Aa ca p0, rowR encInt Ab cb p1.Cells] [] := St.init (ro_cons hR0 (ro_cons hR1 (ro_nil _ _)))
 refine enter 18 Tryd.func31 rfl Tryd.ntmps31 rfl ?_
 unfold tile_of at hf
 refine WC.seq (WC.region ?_)
 refine WL.new hS 2 [] (fun g => (pt g)) (.cells #[(sv Aa p0 ca)] 23 (0, 0)) [] (fun fb g => by kernel_rfl) trivial (fun g2 w3 hS4 => ?_)
 refine ⟨trivial, ?_⟩
 refine WL.new hS4 3 [] (fun g => (pt g)) (.cells #[(iv p1.Width), (iv p1.Height), (sv Ab p1.Cells cb)] 40 (0, 0)) [] (fun fb g => by kernel_rfl) trivial (fun g5 w6 hS7 => ?_)
 refine ⟨trivial, ?_⟩
 refine seg 3 [] [2, 3] [(2, (pt g2)), (3, (pt g5))] [] (fun fb => by kernel_rfl) rfl trivial ?_
 refine WL.done rfl (WX.next (WC.seq (WC.region ?_)))
 refine seg 1 [.v (sv Aa p0 ca)] [2, 3, 5] [(2, (pt g2)), (3, (pt g5)), (5, (sv Aa p0 ca))] [.cell ⟨g2, 0, none⟩ (sv Aa p0 ca)] (fun fb => by kernel_rfl) rfl ⟨hS7.cell 1 rfl 0 rfl, trivial⟩ ?_
 obtain ⟨t8, ht9, hf⟩ := bind_some hf
 refine WL.call (some 6) 14 #[(sv Aa p0 ca)] (fun fb => by kernel_rfl) (tile_Valid_calls _ p0 Aa ca t8 _ (hS7.rd 0) ht9) (fun v w10 hR11 => ?_)
 obtain ⟨rfl, hk_⟩ := hR11
 have hS12 := hS7.keepN hk_
 refine ⟨trivial, ?_⟩
 refine seg 3 [] [2, 3, 7] [(2, (pt g2)), (3, (pt g5)), (7, (bv t8))] [] (fun fb => by kernel_rfl) rfl trivial ?_
 obtain ⟨x13, hx14, hf⟩ := bind_some hf
 refine WL.cutW (T := Bool) 6 (fun t => [(2, (pt g2)), (3, (pt g5)), (10, (bv t))]) (fun t w1 => (St NoS w w1 [rowR enc_Tile Aa ca p0, rowR encInt Ab cb p1.Cells] [blk g2 (.cells #[(sv Aa p0 ca)] 23 (0, 0)), blk g5 (.cells #[(iv p1.Width), (iv p1.Height), (sv Ab p1.Cells cb)] 40 (0, 0))] ∧ x13 = t) ∧ CellsOK [] w1) (fun K => ?_) ?_
 ·
  rcases br_some hx14 with ⟨h15, hx14⟩ | ⟨h15, hx14⟩
  ·
   refine WL.setB 7 h15 rfl ?_
   refine seg 4 [.v (iv p1.Width), .v (iv p1.Height), .v (sv Ab p1.Cells cb)] [2, 3, 7, 8] [(2, (pt g2)), (3, (pt g5)), (7, (bv true)), (8, (.agg #[(iv p1.Width), (iv p1.Height), (sv Ab p1.Cells cb)]))] [.cell ⟨g5, 0, none⟩ (iv p1.Width), .cell ⟨g5, 1, none⟩ (iv p1.Height), .cell ⟨g5, 2, none⟩ (sv Ab p1.Cells cb)] (fun fb => by kernel_rfl) rfl ⟨hS12.cell 0 rfl 0 rfl, hS12.cell 0 rfl 1 rfl, hS12.cell 0 rfl 2 rfl, trivial⟩ ?_
   obtain ⟨t16, ht17, hx14⟩ := bind_some hx14
   refine WL.call (some 9) 41 #[(.agg #[(iv p1.Width), (iv p1.Height), (sv Ab p1.Cells cb)])] (fun fb => by kernel_rfl) (tile_Form_calls p1 Ab cb t16 _ (hS12.rd 1) ht17) (fun v w18 hR19 => ?_)
   obtain ⟨rfl, hk_⟩ := hR19
   have hS20 := hS12.keepN hk_
   refine ⟨trivial, ?_⟩
   refine seg 6 [] [2, 3, 10] [(2, (pt g2)), (3, (pt g5)), (10, (bv t16))] [] (fun fb => by kernel_rfl) rfl trivial ?_
   injection hx14 with hx14
   exact WL.to K t16 [2, 3, 10] rfl ⟨⟨(hS20.subR [0, 1]).sub [1, 0] (by decide), hx14.symm⟩, trivial⟩
  refine WL.setB 7 h15 rfl ?_
  refine seg 6 [] [2, 3, 10] [(2, (pt g2)), (3, (pt g5)), (10, (bv false))] [] (fun fb => by kernel_rfl) rfl trivial ?_
  injection hx14 with hx14
  exact WL.to K false [2, 3, 10] rfl ⟨⟨(hS12.subR [0, 1]).sub [1, 0] (by decide), hx14.symm⟩, trivial⟩
 rintro y21 w23 ⟨⟨hS24, hq22⟩, hF25⟩
 subst hq22
 refine seg 7 [] [2, 3, 11] [(2, (pt g2)), (3, (pt g5)), (11, (bv x13))] [] (fun fb => by kernel_rfl) rfl trivial ?_
 obtain ⟨x26, hx27, hf⟩ := bind_some hf
 refine WL.cutW (T := Bool) 13 (fun t => [(17, (bv t))]) (fun t w1 => (St NoS w w1 [rowR enc_Tile Aa ca p0, rowR encInt Ab cb p1.Cells] [] ∧ x26 = t) ∧ CellsOK [] w1) (fun K => ?_) ?_
 ·
  rcases br_some hx27 with ⟨h28, hx27⟩ | ⟨h28, hx27⟩
  ·
   refine WL.setB 11 h28 rfl ?_
   refine seg 10 [.v (sv Ab p1.Cells cb)] [11, 13, 14] [(11, (bv true)), (13, (sv Ab p1.Cells cb)), (14, (.func (.func 42) #[] #[(pt g2)]))] [.cell ⟨g5, 2, none⟩ (sv Ab p1.Cells cb)] (fun fb => by kernel_rfl) rfl ⟨hS24.cell 1 rfl 2 rfl, trivial⟩ ?_
   obtain ⟨t29, ht30, hx27⟩ := bind_some hx27
   refine WL.call (some 15) 39 #[(sv Ab p1.Cells cb), (.func (.func 42) #[] #[(pt g2)])] (fun fb => by kernel_rfl) (slices_ContainsFunc_int_int_with_tile_of_1_calls _ p1.Cells p0 Ab cb g2 Aa ca t29 _ (hS24.rd 1) (hS24.ow 0) (hS24.rd 0) ht30) (fun v w32 hR33 => ?_)
   obtain ⟨rfl, hk_⟩ := hR33
   have hS34 := hS24.keepN hk_
   refine ⟨trivial, ?_⟩
   refine seg 13 [] [17] [(17, (bv (!t29)))] [] (fun fb => by kernel_rfl) rfl trivial ?_
   injection hx27 with hx27
   exact WL.to K (!t29) [17] rfl ⟨⟨(hS34.subR [0, 1]).sub [] (by decide), hx27.symm⟩, trivial⟩
  refine WL.setB 11 h28 rfl ?_
  refine seg 13 [] [17] [(17, (bv false))] [] (fun fb => by kernel_rfl) rfl trivial ?_
  injection hx27 with hx27
  exact WL.to K false [17] rfl ⟨⟨(hS24.subR [0, 1]).sub [] (by decide), hx27.symm⟩, trivial⟩
 rintro y35 w37 ⟨⟨hS38, hq36⟩, hF39⟩
 subst hq36
 refine seg 14 [] [4] [(4, (bv x26))] [] (fun fb => by kernel_rfl) rfl trivial ?_
 refine WL.done rfl (WX.next ?_)
 refine WC.ret ?_
 injection hf with hf
 subst hf
 exact WX.ret_ [] (bv x26) [] (fun fb => by kernel_rfl) trivial ⟨_, rfl, rfl, hS38.keep⟩
theorem tile_joins_calls (k : Nat) (p0 : List Tile) (p1 : Pattern) (p2 : Bool) (Aa : Option Addr) (ca : Nat) (Ab : Option Addr) (cb : Nat) (r : Bool) (w : World) (hR0 : RO NoS w (rowR enc_Tile Aa ca p0)) (hR1 : RO NoS w (rowR encInt Ab cb p1.Cells)) (hf : tile_joins k p0 p1 p2 = some r) :
  CallsR Tryd.prog 32 #[(sv Aa p0 ca), (.agg #[(iv p1.Width), (iv p1.Height), (sv Ab p1.Cells cb)]), (bv p2)] w (fun v w' => v = (bv r) ∧ Keeps NoS w w') := by
 have hS : St NoS w w [rowR enc_Tile Aa ca p0, rowR encInt Ab cb p1.Cells] [] := St.init (ro_cons hR0 (ro_cons hR1 (ro_nil _ _)))
 refine enter 92 Tryd.func32 rfl Tryd.ntmps32 rfl ?_
 unfold tile_joins at hf
 refine WC.seq (WC.region ?_)
 refine WL.new hS 4 [] (fun g => (pt g)) (.cells #[(iv p1.Width), (iv p1.Height), (sv Ab p1.Cells cb)] 40 (0, 0)) [] (fun fb g => by kernel_rfl) trivial (fun g3 w4 hS5 => ?_)
 refine ⟨trivial, ?_⟩
 refine seg 2 [] [0, 2, 4] [(0, (sv Aa p0 ca)), (2, (bv p2)), (4, (pt g3))] [] (fun fb => by kernel_rfl) rfl trivial ?_
 refine WL.done rfl (WX.next (WC.seq (WC.seq (WC.region ?_))))
 refine seg 4 [.v (sv Ab p1.Cells cb)] [0, 2, 4, 12, 13, 14] [(0, (sv Aa p0 ca)), (2, (bv p2)), (4, (pt g3)), (12, (sv Ab p1.Cells cb)), (13, (iv (p1.Cells.length : Int))), (14, (iv 0))] [.cell ⟨g3, 2, none⟩ (sv Ab p1.Cells cb)] (fun fb => by kernel_rfl) rfl ⟨hS5.cell 0 rfl 2 rfl, trivial⟩ ?_
 refine WL.done rfl (WX.next ?_)
 obtain ⟨x7, hx8, hf⟩ := bind_some hf
 refine WC.cutN (T := Unit) (fun t => []) (fun t w1 => St NoS w w1 [rowR enc_Tile Aa ca p0, rowR encInt Ab cb p1.Cells] [] ∧ x7 = .inr t) (fun Kx7 => ?_) ?_
 ·
  refine WC.block ?_
  refine WC.loop (T := Int) (fun t => [(0, (sv Aa p0 ca)), (2, (bv p2)), (4, (pt g3)), (12, (sv Ab p1.Cells cb)), (13, (iv (p1.Cells.length : Int))), (14, (iv t))]) (fun n t w1 => St NoS w w1 [rowR enc_Tile Aa ca p0, rowR encInt Ab cb p1.Cells] [blk g3 (.cells #[(iv p1.Width), (iv p1.Height), (sv Ab p1.Cells cb)] 40 (0, 0))] ∧ tile_joins.l0 n t p0 p1 p2 = some x7) k 0 [0, 2, 4, 12, 13, 14] rfl ⟨(hS5.subR [0, 1]).sub [0] (by decide), hx8⟩ ?_
  rintro k9 x6 w10 ⟨hS11, hl12⟩
  cases k9 with
  | zero => rw [tile_joins.l0] at hl12; cases hl12
  | succ k9 =>
   rw [tile_joins.l0] at hl12
   refine WC.seq (WC.region ?_)
   refine seg 1 [] [0, 2, 4, 12, 13, 14, 15] [(0, (sv Aa p0 ca)), (2, (bv p2)), (4, (pt g3)), (12, (sv Ab p1.Cells cb)), (13, (iv (p1.Cells.length : Int))), (14, (iv x6)), (15, (bv (decide (x6 < (p1.Cells.length : Int)))))] [] (fun fb => by kernel_rfl) rfl trivial ?_
   refine WL.done rfl (WX.next (WC.seq ?_))
   rcases br_some hl12 with ⟨h13, hl12⟩ | ⟨h13, hl12⟩
   ·refine WC.condT2 (fun fb => by kernel_rfl) h13 ?_
    refine WC.skip (WX.next (WC.seq (WC.block (WC.seq (WC.region ?_)))))
    refine seg 1 [] [0, 2, 4, 12, 13, 14, 16] [(0, (sv Aa p0 ca)), (2, (bv p2)), (4, (pt g3)), (12, (sv Ab p1.Cells cb)), (13, (iv (p1.Cells.length : Int))), (14, (iv x6)), (16, (iv x6))] [] (fun fb => by kernel_rfl) rfl trivial ?_
    obtain ⟨h14, hl12⟩ := as_some hl12
    refine seg 5 [.v (iv (rdD p1.Cells x6 0))] [0, 2, 4, 7, 8, 12, 13, 14] [(0, (sv Aa p0 ca)), (2, (bv p2)), (4, (pt g3)), (7, (iv x6)), (8, (iv (rdD p1.Cells x6 0))), (12, (sv Ab p1.Cells cb)), (13, (iv (p1.Cells.length : Int))), (14, (iv x6))] [.idx Ab x6 p1.Cells.length, .cell ((adr Ab).add ((x6).toNat * 1)) (iv (rdD p1.Cells x6 0))] (fun fb => by kernel_rfl) rfl ⟨rowR.adr (hS11.rd 1).1 h14.1 h14.2, rowR.cell (hS11.rd 1).1 0 h14.1 h14.2 0 rfl, trivial⟩ ?_
    refine WL.done rfl (WX.next (WC.seq ?_))
    obtain ⟨h17, hl12⟩ := as_some hl12
    refine WC.regionD ([(2, ⟨g3, 0, none⟩, (iv p1.Width)), (6, ⟨g3, 0, none⟩, (iv p1.Width))], [0, 1, 2, 3, 4, 5, 6, 7, 8, 9], [[], [], [1], [0, 1, 2], [], [], [5], [4, 5, 6], [0, 1, 2, 3], [0, 1, 2, 3, 4, 5, 6, 7, 8]]) [[0, 1, 2, 3, 4, 5, 6, 7, 8, 9]] (by kernel_rfl) (by kernel_rfl) (NoPanic.seq (NoPanic.block (NoPanic.seq (NoPanic.seq (NoPanic.block (NoPanic.seq (NoPanic.body))))))) ?_
    have hS16 := hS11.drew
    revert hS16
    generalize World.drew w10 = w15
    intro hS16
    refine ⟨⟨hS16.cell 0 rfl 0 rfl, hS16.cell 0 rfl 0 rfl, trivial⟩, forallC ?_ (forallN)⟩
    refine segF 10 [.v (iv p1.Width), .v (iv p1.Width)] [0, 2, 4, 8, 9, 10, 12, 13, 14] [(0, (sv Aa p0 ca)), (2, (bv p2)), (4, (pt g3)), (8, (iv (rdD p1.Cells x6 0))), (9, (iv (Int.tmod x6 p1.Width))), (10, (iv (w64 (Int.tdiv x6 p1.Width)))), (12, (sv Ab p1.Cells cb)), (13, (iv (p1.Cells.length : Int))), (14, (iv x6))] [.ne p1.Width, .ne p1.Width] [0, 1] [(2, ⟨g3, 0, none⟩, (iv p1.Width)), (6, ⟨g3, 0, none⟩, (iv p1.Width))] (fun fb => by kernel_rfl) rfl ⟨h17, h17, trivial⟩ rfl ?_
    refine WL.done rfl (WX.next (WC.seq (WC.seq (WC.region ?_))))
    refine seg 6 [.v (iv p1.Width)] [0, 2, 4, 8, 9, 10, 12, 13, 14, 32] [(0, (sv Aa p0 ca)), (2, (bv p2)), (4, (pt g3)), (8, (iv (rdD p1.Cells x6 0))), (9, (iv (Int.tmod x6 p1.Width))), (10, (iv (w64 (Int.tdiv x6 p1.Width)))), (12, (sv Ab p1.Cells cb)), (13, (iv (p1.Cells.length : Int))), (14, (iv x6)), (32, (bv (decide (w64 ((Int.tmod x6 p1.Width) + 1) < p1.Width))))] [.cell ⟨g3, 0, none⟩ (iv p1.Width)] (fun fb => by kernel_rfl) rfl ⟨hS16.cell 0 rfl 0 rfl, trivial⟩ ?_
    refine WL.cutV (T := Bool) 8 (fun t => [(34, (bv t)), (0, (sv Aa p0 ca)), (2, (bv p2)), (4, (pt g3)), (8, (iv (rdD p1.Cells x6 0))), (9, (iv (Int.tmod x6 p1.Width))), (10, (iv (w64 (Int.tdiv x6 p1.Width)))), (12, (sv Ab p1.Cells cb)), (13, (iv (p1.Cells.length : Int))), (14, (iv x6))]) (fun t => ((decide (w64 ((Int.tmod x6 p1.Width) + 1) < p1.Width)) || p2) = t) (fun K => ?_) ?_
    ·
     rcases Bool.eq_false_or_eq_true (decide (w64 ((Int.tmod x6 p1.Width) + 1) < p1.Width)) with h18 | h18
     ·
      refine WL.setB 32 h18 rfl ?_
      refine seg 8 [] [0, 2, 4, 8, 9, 10, 12, 13, 14, 34] [(0, (sv Aa p0 ca)), (2, (bv p2)), (4, (pt g3)), (8, (iv (rdD p1.Cells x6 0))), (9, (iv (Int.tmod x6 p1.Width))), (10, (iv (w64 (Int.tdiv x6 p1.Width)))), (12, (sv Ab p1.Cells cb)), (13, (iv (p1.Cells.length : Int))), (14, (iv x6)), (34, (bv true))] [] (fun fb => by kernel_rfl) rfl trivial ?_
      exact WL.toV K true [34, 0, 2, 4, 8, 9, 10, 12, 13, 14] rfl (by first | (rw [h18]; done) | (rw [h18]; rfl))
     refine WL.setB 32 h18 rfl ?_
     refine seg 8 [] [0, 2, 4, 8, 9, 10, 12, 13, 14, 34] [(0, (sv Aa p0 ca)), (2, (bv p2)), (4, (pt g3)), (8, (iv (rdD p1.Cells x6 0))), (9, (iv (Int.tmod x6 p1.Width))), (10, (iv (w64 (Int.tdiv x6 p1.Width)))), (12, (sv Ab p1.Cells cb)), (13, (iv (p1.Cells.length : Int))), (14, (iv x6)), (34, (bv p2))] [] (fun fb => by kernel_rfl) rfl trivial ?_
     exact WL.toV K p2 [34, 0, 2, 4, 8, 9, 10, 12, 13, 14] rfl (by first | (rw [h18]; done) | (rw [h18]; rfl))
    rintro b19 rfl
    refine WL.done rfl (WX.next ?_)
    obtain ⟨x20, hx21, hl12⟩ := bind_some hl12
    refine WC.cutN (T := Unit) (fun t => [(0, (sv Aa p0 ca)), (2, (bv p2)), (4, (pt g3)), (8, (iv (rdD p1.Cells x6 0))), (9, (iv (Int.tmod x6 p1.Width))), (10, (iv (w64 (Int.tdiv x6 p1.Width)))), (12, (sv Ab p1.Cells cb)), (13, (iv (p1.Cells.length : Int))), (14, (iv x6))]) (fun t w1 => St NoS w w1 [rowR enc_Tile Aa ca p0, rowR encInt Ab cb p1.Cells] [blk g3 (.cells #[(iv p1.Width), (iv p1.Height), (sv Ab p1.Cells cb)] 40 (0, 0))] ∧ x20 = .inr t) (fun Kx20 => ?_) ?_
    ·
     rcases br_some hx21 with ⟨h22, hx21⟩ | ⟨h22, hx21⟩
     ·refine WC.condT2 (fun fb => by kernel_rfl) h22 ?_
      refine WC.seq ?_
      obtain ⟨h25, hx21⟩ := as_some hx21
      obtain ⟨h26, hx21⟩ := as_some hx21
      obtain ⟨h27, hx21⟩ := as_some hx21
      refine WC.regionD ([(4, (((adr Aa).add (((rdD p1.Cells x6 0)).toNat * 4)).add 1), (iv ((rdD p0 (rdD p1.Cells x6 0) z_Tile).E))), (7, ⟨g3, 2, none⟩, (sv Ab p1.Cells cb)), (10, ⟨g3, 0, none⟩, (iv p1.Width)), (15, ⟨g3, 0, none⟩, (iv p1.Width)), (19, ((adr Ab).add ((w64 ((w64 ((w64 (Int.tdiv x6 p1.Width)) * p1.Width)) + (Int.tmod (w64 ((Int.tmod x6 p1.Width) + 1)) p1.Width))).toNat * 1)), (iv (rdD p1.Cells (w64 ((w64 ((w64 (Int.tdiv x6 p1.Width)) * p1.Width)) + (Int.tmod (w64 ((Int.tmod x6 p1.Width) + 1)) p1.Width))) 0))), (22, (((adr Aa).add (((rdD p1.Cells (w64 ((w64 ((w64 (Int.tdiv x6 p1.Width)) * p1.Width)) + (Int.tmod (w64 ((Int.tmod x6 p1.Width) + 1)) p1.Width))) 0)).toNat * 4)).add 3), (iv ((rdD p0 (rdD p1.Cells (w64 ((w64 ((w64 (Int.tdiv x6 p1.Width)) * p1.Width)) + (Int.tmod (w64 ((Int.tmod x6 p1.Width) + 1)) p1.Width))) 0) z_Tile).W)))], [0, 1, 2, 3, 4, 5, 6, 7, 8, 9, 10, 11, 12, 13, 14, 15, 16, 17, 18, 19, 20, 21, 22, 23], [[], [], [0, 1], [0, 1, 2], [0, 1, 2, 3], [], [], [6], [], [], [9], [8, 9, 10], [], [12], [], [14], [12, 13, 14, 15], [8, 9, 10, 11, 12, 13, 14, 15, 16], [6, 7, 8, 9, 10, 11, 12, 13, 14, 15, 16, 17], [6, 7, 8, 9, 10, 11, 12, 13, 14, 15, 16, 17, 18], [5, 6, 7, 8, 9, 10, 11, 12, 13, 14, 15, 16, 17, 18, 19], [5, 6, 7, 8, 9, 10, 11, 12, 13, 14, 15, 16, 17, 18, 19, 20], [5, 6, 7, 8, 9, 10, 11, 12, 13, 14, 15, 16, 17, 18, 19, 20, 21], [0, 1, 2, 3, 4, 5, 6, 7, 8, 9, 10, 11, 12, 13, 14, 15, 16, 17, 18, 19, 20, 21, 22]]) [[0, 1, 2, 3, 4, 5, 6, 7, 8, 9, 10, 11, 12, 13, 14, 15, 16, 17, 18, 19, 20, 21, 22, 23]] (by kernel_rfl) (by kernel_rfl) (NoPanic.seq (NoPanic.seq (NoPanic.block (NoPanic.seq (NoPanic.seq (NoPanic.block (NoPanic.seq (NoPanic.body)))))))) ?_
      have hS24 := hS16.drew
      revert hS24
      generalize World.drew w15 = w23
      intro hS24
      refine ⟨⟨rowR.cell (hS24.rd 0).1 z_Tile h25.1 h25.2 1 rfl, hS24.cell 0 rfl 2 rfl, hS24.cell 0 rfl 0 rfl, hS24.cell 0 rfl 0 rfl, rowR.cell (hS24.rd 1).1 0 h26.1 h26.2 0 rfl, rowR.cell (hS24.rd 0).1 z_Tile h27.1 h27.2 3 rfl, trivial⟩, forallC ?_ (forallN)⟩
      refine segF 24 [.v (iv ((rdD p0 (rdD p1.Cells x6 0) z_Tile).E)), .v (sv Ab p1.Cells cb), .v (iv p1.Width), .v (iv p1.Width), .v (iv (rdD p1.Cells (w64 ((w64 ((w64 (Int.tdiv x6 p1.Width)) * p1.Width)) + (Int.tmod (w64 ((Int.tmod x6 p1.Width) + 1)) p1.Width))) 0)), .v (iv ((rdD p0 (rdD p1.Cells (w64 ((w64 ((w64 (Int.tdiv x6 p1.Width)) * p1.Width)) + (Int.tmod (w64 ((Int.tmod x6 p1.Width) + 1)) p1.Width))) 0) z_Tile).W))] [0, 2, 4, 8, 9, 10, 12, 13, 14, 58] [(0, (sv Aa p0 ca)), (2, (bv p2)), (4, (pt g3)), (8, (iv (rdD p1.Cells x6 0))), (9, (iv (Int.tmod x6 p1.Width))), (10, (iv (w64 (Int.tdiv x6 p1.Width)))), (12, (sv Ab p1.Cells cb)), (13, (iv (p1.Cells.length : Int))), (14, (iv x6)), (58, (bv (((rdD p0 (rdD p1.Cells x6 0) z_Tile).E) != ((rdD p0 (rdD p1.Cells (w64 ((w64 ((w64 (Int.tdiv x6 p1.Width)) * p1.Width)) + (Int.tmod (w64 ((Int.tmod x6 p1.Width) + 1)) p1.Width))) 0) z_Tile).W))))] [.idx Aa (rdD p1.Cells x6 0) p0.length, .ne p1.Width, .idx Ab (w64 ((w64 ((w64 (Int.tdiv x6 p1.Width)) * p1.Width)) + (Int.tmod (w64 ((Int.tmod x6 p1.Width) + 1)) p1.Width))) p1.Cells.length, .idx Aa (rdD p1.Cells (w64 ((w64 ((w64 (Int.tdiv x6 p1.Width)) * p1.Width)) + (Int.tmod (w64 ((Int.tmod x6 p1.Width) + 1)) p1.Width))) 0) p0.length] [0, 1, 2, 3, 4, 5] [(4, (((adr Aa).add (((rdD p1.Cells x6 0)).toNat * 4)).add 1), (iv ((rdD p0 (rdD p1.Cells x6 0) z_Tile).E))), (7, ⟨g3, 2, none⟩, (sv Ab p1.Cells cb)), (10, ⟨g3, 0, none⟩, (iv p1.Width)), (15, ⟨g3, 0, none⟩, (iv p1.Width)), (19, ((adr Ab).add ((w64 ((w64 ((w64 (Int.tdiv x6 p1.Width)) * p1.Width)) + (Int.tmod (w64 ((Int.tmod x6 p1.Width) + 1)) p1.Width))).toNat * 1)), (iv (rdD p1.Cells (w64 ((w64 ((w64 (Int.tdiv x6 p1.Width)) * p1.Width)) + (Int.tmod (w64 ((Int.tmod x6 p1.Width) + 1)) p1.Width))) 0))), (22, (((adr Aa).add (((rdD p1.Cells (w64 ((w64 ((w64 (Int.tdiv x6 p1.Width)) * p1.Width)) + (Int.tmod (w64 ((Int.tmod x6 p1.Width) + 1)) p1.Width))) 0)).toNat * 4)).add 3), (iv ((rdD p0 (rdD p1.Cells (w64 ((w64 ((w64 (Int.tdiv x6 p1.Width)) * p1.Width)) + (Int.tmod (w64 ((Int.tmod x6 p1.Width) + 1)) p1.Width))) 0) z_Tile).W)))] (fun fb => by kernel_rfl) rfl ⟨rowR.adr (hS24.rd 0).1 h25.1 h25.2, h17, rowR.adr (hS24.rd 1).1 h26.1 h26.2, rowR.adr (hS24.rd 0).1 h27.1 h27.2, trivial⟩ rfl ?_
      refine WL.done rfl (WX.next ?_)
      rcases br_some hx21 with ⟨h28, hx21⟩ | ⟨h28, hx21⟩
      ·refine WC.condT2 (fun fb => by kernel_rfl) h28 ?_
       refine WC.seq (WC.region ?_)
       refine seg 1 [] [6] [(6, (bv false))] [] (fun fb => by kernel_rfl) rfl trivial ?_
       refine WL.done rfl (WX.next ?_)
       refine WC.ret ?_
       injection hx21 with hx21
       subst hx21
       injection hl12 with hl12
       subst hl12
       injection hf with hf
       subst hf
       exact WX.thenR (WX.blockR (WX.thenR (WX.thenR (WX.blockR (WX.thenR (WX.ret_ [] (bv false) [] (fun fb => by kernel_rfl) trivial ⟨_, rfl, rfl, hS24.keep⟩))))))
      refine WC.condF2 (fun fb => by kernel_rfl) h28 ?_
      refine WC.skip ?_
      injection hx21 with hx21
      exact WX.to Kx20 () [0, 2, 4, 8, 9, 10, 12, 13, 14] rfl ⟨(hS24.subR [0, 1]).sub [0] (by decide), hx21.symm⟩
     refine WC.condF2 (fun fb => by kernel_rfl) h22 ?_
     refine WC.skip ?_
     injection hx21 with hx21
     exact WX.to Kx20 () [0, 2, 4, 8, 9, 10, 12, 13, 14] rfl ⟨(hS16.subR [0, 1]).sub [0] (by decide), hx21.symm⟩
    rintro y33 w29 ⟨hS30, hq31⟩
    subst hq31
    have hl12 := sum_inr hl12
    refine WX.next (WC.seq (WC.region ?_))
    refine seg 6 [.v (iv p1.Height)] [0, 2, 4, 8, 9, 10, 12, 13, 14, 64] [(0, (sv Aa p0 ca)), (2, (bv p2)), (4, (pt g3)), (8, (iv (rdD p1.Cells x6 0))), (9, (iv (Int.tmod x6 p1.Width))), (10, (iv (w64 (Int.tdiv x6 p1.Width)))), (12, (sv Ab p1.Cells cb)), (13, (iv (p1.Cells.length : Int))), (14, (iv x6)), (64, (bv (decide (w64 ((w64 (Int.tdiv x6 p1.Width)) + 1) < p1.Height))))] [.cell ⟨g3, 1, none⟩ (iv p1.Height)] (fun fb => by kernel_rfl) rfl ⟨hS30.cell 0 rfl 1 rfl, trivial⟩ ?_
    refine WL.cutV (T := Bool) 8 (fun t => [(66, (bv t)), (0, (sv Aa p0 ca)), (2, (bv p2)), (4, (pt g3)), (8, (iv (rdD p1.Cells x6 0))), (9, (iv (Int.tmod x6 p1.Width))), (10, (iv (w64 (Int.tdiv x6 p1.Width)))), (12, (sv Ab p1.Cells cb)), (13, (iv (p1.Cells.length : Int))), (14, (iv x6))]) (fun t => ((decide (w64 ((w64 (Int.tdiv x6 p1.Width)) + 1) < p1.Height)) || p2) = t) (fun K => ?_) ?_
    ·
     rcases Bool.eq_false_or_eq_true (decide (w64 ((w64 (Int.tdiv x6 p1.Width)) + 1) < p1.Height)) with h34 | h34
     ·
      refine WL.setB 64 h34 rfl ?_
      refine seg 8 [] [0, 2, 4, 8, 9, 10, 12, 13, 14, 66] [(0, (sv Aa p0 ca)), (2, (bv p2)), (4, (pt g3)), (8, (iv (rdD p1.Cells x6 0))), (9, (iv (Int.tmod x6 p1.Width))), (10, (iv (w64 (Int.tdiv x6 p1.Width)))), (12, (sv Ab p1.Cells cb)), (13, (iv (p1.Cells.length : Int))), (14, (iv x6)), (66, (bv true))] [] (fun fb => by kernel_rfl) rfl trivial ?_
      exact WL.toV K true [66, 0, 2, 4, 8, 9, 10, 12, 13, 14] rfl (by first | (rw [h34]; done) | (rw [h34]; rfl))
     refine WL.setB 64 h34 rfl ?_
     refine seg 8 [] [0, 2, 4, 8, 9, 10, 12, 13, 14, 66] [(0, (sv Aa p0 ca)), (2, (bv p2)), (4, (pt g3)), (8, (iv (rdD p1.Cells x6 0))), (9, (iv (Int.tmod x6 p1.Width))), (10, (iv (w64 (Int.tdiv x6 p1.Width)))), (12, (sv Ab p1.Cells cb)), (13, (iv (p1.Cells.length : Int))), (14, (iv x6)), (66, (bv p2))] [] (fun fb => by kernel_rfl) rfl trivial ?_
     exact WL.toV K p2 [66, 0, 2, 4, 8, 9, 10, 12, 13, 14] rfl (by first | (rw [h34]; done) | (rw [h34]; rfl))
    rintro b35 rfl
    refine WL.done rfl (WX.next ?_)
    obtain ⟨x36, hx37, hl12⟩ := bind_some hl12
    refine WC.cutN (T := Unit) (fun t => [(0, (sv Aa p0 ca)), (2, (bv p2)), (4, (pt g3)), (12, (sv Ab p1.Cells cb)), (13, (iv (p1.Cells.length : Int))), (14, (iv x6))]) (fun t w1 => St NoS w w1 [rowR enc_Tile Aa ca p0, rowR encInt Ab cb p1.Cells] [blk g3 (.cells #[(iv p1.Width), (iv p1.Height), (sv Ab p1.Cells cb)] 40 (0, 0))] ∧ x36 = .inr t) (fun Kx36 => ?_) ?_
    ·
     rcases br_some hx37 with ⟨h38, hx37⟩ | ⟨h38, hx37⟩
     ·refine WC.condT2 (fun fb => by kernel_rfl) h38 ?_
      refine WC.seq ?_
      obtain ⟨h41, hx37⟩ := as_some hx37
      obtain ⟨h42, hx37⟩ := as_some hx37
      obtain ⟨h43, hx37⟩ := as_some hx37
      obtain ⟨h44, hx37⟩ := as_some hx37
      refine WC.regionD ([(4, ((adr Aa).add (((rdD p1.Cells x6 0)).toNat * 4)), (iv ((rdD p0 (rdD p1.Cells x6 0) z_Tile).N))), (7, ⟨g3, 2, none⟩, (sv Ab p1.Cells cb)), (11, ⟨g3, 1, none⟩, (iv p1.Height)), (14, ⟨g3, 0, none⟩, (iv p1.Width)), (19, ((adr Ab).add ((w64 ((w64 ((Int.tmod (w64 ((w64 (Int.tdiv x6 p1.Width)) + 1)) p1.Height) * p1.Width)) + (Int.tmod x6 p1.Width))).toNat * 1)), (iv (rdD p1.Cells (w64 ((w64 ((Int.tmod (w64 ((w64 (Int.tdiv x6 p1.Width)) + 1)) p1.Height) * p1.Width)) + (Int.tmod x6 p1.Width))) 0))), (22, (((adr Aa).add (((rdD p1.Cells (w64 ((w64 ((Int.tmod (w64 ((w64 (Int.tdiv x6 p1.Width)) + 1)) p1.Height) * p1.Width)) + (Int.tmod x6 p1.Width))) 0)).toNat * 4)).add 2), (iv ((rdD p0 (rdD p1.Cells (w64 ((w64 ((Int.tmod (w64 ((w64 (Int.tdiv x6 p1.Width)) + 1)) p1.Height) * p1.Width)) + (Int.tmod x6 p1.Width))) 0) z_Tile).S)))], [0, 1, 2, 3, 4, 5, 6, 7, 8, 9, 10, 11, 12, 13, 14, 15, 16, 17, 18, 19, 20, 21, 22, 23], [[], [], [0, 1], [0, 1, 2], [0, 1, 2, 3], [], [], [6], [], [8], [], [10], [8, 9, 10, 11], [], [13], [8, 9, 10, 11, 12, 13, 14], [], [8, 9, 10, 11, 12, 13, 14, 15, 16], [6, 7, 8, 9, 10, 11, 12, 13, 14, 15, 16, 17], [6, 7, 8, 9, 10, 11, 12, 13, 14, 15, 16, 17, 18], [5, 6, 7, 8, 9, 10, 11, 12, 13, 14, 15, 16, 17, 18, 19], [5, 6, 7, 8, 9, 10, 11, 12, 13, 14, 15, 16, 17, 18, 19, 20], [5, 6, 7, 8, 9, 10, 11, 12, 13, 14, 15, 16, 17, 18, 19, 20, 21], [0, 1, 2, 3, 4, 5, 6, 7, 8, 9, 10, 11, 12, 13, 14, 15, 16, 17, 18, 19, 20, 21, 22]]) [[0, 1, 2, 3, 4, 5, 6, 7, 8, 9, 10, 11, 12, 13, 14, 15, 16, 17, 18, 19, 20, 21, 22, 23]] (by kernel_rfl) (by kernel_rfl) (NoPanic.seq (NoPanic.block (NoPanic.seq (NoPanic.seq (NoPanic.block (NoPanic.seq (NoPanic.body))))))) ?_
      have hS40 := hS30.drew
      revert hS40
      generalize World.drew w29 = w39
      intro hS40
      refine ⟨⟨rowR.cell (hS40.rd 0).1 z_Tile h41.1 h41.2 0 rfl, hS40.cell 0 rfl 2 rfl, hS40.cell 0 rfl 1 rfl, hS40.cell 0 rfl 0 rfl, rowR.cell (hS40.rd 1).1 0 h43.1 h43.2 0 rfl, rowR.cell (hS40.rd 0).1 z_Tile h44.1 h44.2 2 rfl, trivial⟩, forallC ?_ (forallN)⟩
      refine segF 24 [.v (iv ((rdD p0 (rdD p1.Cells x6 0) z_Tile).N)), .v (sv Ab p1.Cells cb), .v (iv p1.Height), .v (iv p1.Width), .v (iv (rdD p1.Cells (w64 ((w64 ((Int.tmod (w64 ((w64 (Int.tdiv x6 p1.Width)) + 1)) p1.Height) * p1.Width)) + (Int.tmod x6 p1.Width))) 0)), .v (iv ((rdD p0 (rdD p1.Cells (w64 ((w64 ((Int.tmod (w64 ((w64 (Int.tdiv x6 p1.Width)) + 1)) p1.Height) * p1.Width)) + (Int.tmod x6 p1.Width))) 0) z_Tile).S))] [0, 2, 4, 12, 13, 14, 90] [(0, (sv Aa p0 ca)), (2, (bv p2)), (4, (pt g3)), (12, (sv Ab p1.Cells cb)), (13, (iv (p1.Cells.length : Int))), (14, (iv x6)), (90, (bv (((rdD p0 (rdD p1.Cells x6 0) z_Tile).N) != ((rdD p0 (rdD p1.Cells (w64 ((w64 ((Int.tmod (w64 ((w64 (Int.tdiv x6 p1.Width)) + 1)) p1.Height) * p1.Width)) + (Int.tmod x6 p1.Width))) 0) z_Tile).S))))] [.idx Aa (rdD p1.Cells x6 0) p0.length, .ne p1.Height, .idx Ab (w64 ((w64 ((Int.tmod (w64 ((w64 (Int.tdiv x6 p1.Width)) + 1)) p1.Height) * p1.Width)) + (Int.tmod x6 p1.Width))) p1.Cells.length, .idx Aa (rdD p1.Cells (w64 ((w64 ((Int.tmod (w64 ((w64 (Int.tdiv x6 p1.Width)) + 1)) p1.Height) * p1.Width)) + (Int.tmod x6 p1.Width))) 0) p0.length] [0, 1, 2, 3, 4, 5] [(4, ((adr Aa).add (((rdD p1.Cells x6 0)).toNat * 4)), (iv ((rdD p0 (rdD p1.Cells x6 0) z_Tile).N))), (7, ⟨g3, 2, none⟩, (sv Ab p1.Cells cb)), (11, ⟨g3, 1, none⟩, (iv p1.Height)), (14, ⟨g3, 0, none⟩, (iv p1.Width)), (19, ((adr Ab).add ((w64 ((w64 ((Int.tmod (w64 ((w64 (Int.tdiv x6 p1.Width)) + 1)) p1.Height) * p1.Width)) + (Int.tmod x6 p1.Width))).toNat * 1)), (iv (rdD p1.Cells (w64 ((w64 ((Int.tmod (w64 ((w64 (Int.tdiv x6 p1.Width)) + 1)) p1.Height) * p1.Width)) + (Int.tmod x6 p1.Width))) 0))), (22, (((adr Aa).add (((rdD p1.Cells (w64 ((w64 ((Int.tmod (w64 ((w64 (Int.tdiv x6 p1.Width)) + 1)) p1.Height) * p1.Width)) + (Int.tmod x6 p1.Width))) 0)).toNat * 4)).add 2), (iv ((rdD p0 (rdD p1.Cells (w64 ((w64 ((Int.tmod (w64 ((w64 (Int.tdiv x6 p1.Width)) + 1)) p1.Height) * p1.Width)) + (Int.tmod x6 p1.Width))) 0) z_Tile).S)))] (fun fb => by kernel_rfl) rfl ⟨rowR.adr (hS40.rd 0).1 h41.1 h41.2, h42, rowR.adr (hS40.rd 1).1 h43.1 h43.2, rowR.adr (hS40.rd 0).1 h44.1 h44.2, trivial⟩ rfl ?_
      refine WL.done rfl (WX.next ?_)
      rcases br_some hx37 with ⟨h45, hx37⟩ | ⟨h45, hx37⟩
      ·refine WC.condT2 (fun fb => by kernel_rfl) h45 ?_
       refine WC.seq (WC.region ?_)
       refine seg 1 [] [6] [(6, (bv false))] [] (fun fb => by kernel_rfl) rfl trivial ?_
       refine WL.done rfl (WX.next ?_)
       refine WC.ret ?_
       injection hx37 with hx37
       subst hx37
       injection hl12 with hl12
       subst hl12
       injection hf with hf
       subst hf
       exact WX.blockR (WX.thenR (WX.thenR (WX.blockR (WX.thenR (WX.ret_ [] (bv false) [] (fun fb => by kernel_rfl) trivial ⟨_, rfl, rfl, hS40.keep⟩)))))
      refine WC.condF2 (fun fb => by kernel_rfl) h45 ?_
      refine WC.skip ?_
      injection hx37 with hx37
      exact WX.to Kx36 () [0, 2, 4, 12, 13, 14] rfl ⟨(hS40.subR [0, 1]).sub [0] (by decide), hx37.symm⟩
     refine WC.condF2 (fun fb => by kernel_rfl) h38 ?_
     refine WC.skip ?_
     injection hx37 with hx37
     exact WX.to Kx36 () [0, 2, 4, 12, 13, 14] rfl ⟨(hS30.subR [0, 1]).sub [0] (by decide), hx37.symm⟩
    rintro y49 w46 ⟨hS47, hq48⟩
    subst hq48
    have hl12 := sum_inr hl12
    refine WX.blockN (WX.next ?_)
    refine WC.region ?_
    refine seg 2 [] [0, 2, 4, 12, 13, 14] [(0, (sv Aa p0 ca)), (2, (bv p2)), (4, (pt g3)), (12, (sv Ab p1.Cells cb)), (13, (iv (p1.Cells.length : Int))), (14, (iv (w64 (x6 + 1))))] [] (fun fb => by kernel_rfl) rfl trivial ?_
    refine WL.done rfl ?_
    exact WX.again k9 (Nat.lt_succ_self _) (w64 (x6 + 1)) [0, 2, 4, 12, 13, 14] rfl ⟨(hS47.subR [0, 1]).sub [0] (by decide), hl12⟩
   refine WC.condF2 (fun fb => by kernel_rfl) h13 ?_
   refine WC.exit ?_
   injection hl12 with hl12
   exact WX.thenX (WX.thenX (WX.blockHere (WX.to Kx7 () [] rfl ⟨(hS11.subR [0, 1]).sub [] (by decide), hl12.symm⟩)))
 rintro y53 w50 ⟨hS51, hq52⟩
 subst hq52
 have hf := sum_inr hf
 refine WX.next (WC.seq (WC.region ?_))
 refine seg 1 [] [6] [(6, (bv true))] [] (fun fb => by kernel_rfl) rfl trivial ?_
 refine WL.done rfl (WX.next ?_)
 refine WC.ret ?_
 injection hf with hf
 subst hf
 exact WX.ret_ [] (bv true) [] (fun fb => by kernel_rfl) trivial ⟨_, rfl, rfl, hS51.keep⟩
theorem tile_Repeats_calls (k : Nat) (p0 : List Tile) (p1 : Pattern) (Aa : Option Addr) (ca : Nat) (Ab : Option Addr) (cb : Nat) (r : Bool) (w : World) (hR0 : RO NoS w (rowR enc_Tile Aa ca p0)) (hR1 : RO NoS w (rowR encInt Ab cb p1.Cells)) (hf : tile_Repeats k p0 p1 = some r) :
  CallsR Tryd.prog 21 #[(sv Aa p0 ca), (.agg #[(iv p1.Width), (iv p1.Height), (sv Ab p1.Cells cb)])] w (fun v w' => v = (bv r) ∧ Keeps NoS w w') := by
 have hS : St NoS w w [rowR enc_Tile Aa ca p0, rowR encInt Ab cb p1.Cells] [] := St.init (ro_cons hR0 (ro_cons hR1 (ro_nil _ _)))
 refine enter 13 Tryd.func21 rfl Tryd.ntmps21 rfl ?_
 unfold tile_Repeats at hf
 refine WC.seq (WC.region ?_)
 refine WL.new hS 3 [] (fun g => (pt g)) (.cells #[(iv p1.Width), (iv p1.Height), (sv Ab p1.Cells cb)] 40 (0, 0)) [] (fun fb g => by kernel_rfl) trivial (fun g2 w3 hS4 => ?_)
 refine ⟨trivial, ?_⟩
 refine seg 2 [] [0, 3] [(0, (sv Aa p0 ca)), (3, (pt g2))] [] (fun fb => by kernel_rfl) rfl trivial ?_
 refine WL.done rfl (WX.next (WC.seq (WC.region ?_)))
 refine seg 2 [.v (iv p1.Width), .v (iv p1.Height), .v (sv Ab p1.Cells cb)] [0, 3, 5, 6] [(0, (sv Aa p0 ca)), (3, (pt g2)), (5, (sv Aa p0 ca)), (6, (.agg #[(iv p1.Width), (iv p1.Height), (sv Ab p1.Cells cb)]))] [.cell ⟨g2, 0, none⟩ (iv p1.Width), .cell ⟨g2, 1, none⟩ (iv p1.Height), .cell ⟨g2, 2, none⟩ (sv Ab p1.Cells cb)] (fun fb => by kernel_rfl) rfl ⟨hS4.cell 0 rfl 0 rfl, hS4.cell 0 rfl 1 rfl, hS4.cell 0 rfl 2 rfl, trivial⟩ ?_
 obtain ⟨t5, ht6, hf⟩ := bind_some hf
 refine WL.call (some 7) 31 #[(sv Aa p0 ca), (.agg #[(iv p1.Width), (iv p1.Height), (sv Ab p1.Cells cb)])] (fun fb => by kernel_rfl) (tile_of_calls _ p0 p1 Aa ca Ab cb t5 _ (hS4.rd 0) (hS4.rd 1) ht6) (fun v w7 hR8 => ?_)
 obtain ⟨rfl, hk_⟩ := hR8
 have hS9 := hS4.keepN hk_
 refine ⟨trivial, ?_⟩
 refine seg 4 [] [0, 3, 8] [(0, (sv Aa p0 ca)), (3, (pt g2)), (8, (bv t5))] [] (fun fb => by kernel_rfl) rfl trivial ?_
 obtain ⟨x10, hx11, hf⟩ := bind_some hf
 refine WL.cutW (T := Bool) 8 (fun t => [(12, (bv t))]) (fun t w1 => (St NoS w w1 [rowR enc_Tile Aa ca p0, rowR encInt Ab cb p1.Cells] [] ∧ x10 = t) ∧ CellsOK [] w1) (fun K => ?_) ?_
 ·
  rcases br_some hx11 with ⟨h12, hx11⟩ | ⟨h12, hx11⟩
  ·
   refine WL.setB 8 h12 rfl ?_
   refine seg 6 [.v (iv p1.Width), .v (iv p1.Height), .v (sv Ab p1.Cells cb)] [8, 9, 10] [(8, (bv true)), (9, (sv Aa p0 ca)), (10, (.agg #[(iv p1.Width), (iv p1.Height), (sv Ab p1.Cells cb)]))] [.cell ⟨g2, 0, none⟩ (iv p1.Width), .cell ⟨g2, 1, none⟩ (iv p1.Height), .cell ⟨g2, 2, none⟩ (sv Ab p1.Cells cb)] (fun fb => by kernel_rfl) rfl ⟨hS9.cell 0 rfl 0 rfl, hS9.cell 0 rfl 1 rfl, hS9.cell 0 rfl 2 rfl, trivial⟩ ?_
   obtain ⟨t13, ht14, hx11⟩ := bind_some hx11
   refine WL.call (some 11) 32 #[(sv Aa p0 ca), (.agg #[(iv p1.Width), (iv p1.Height), (sv Ab p1.Cells cb)]), (bv true)] (fun fb => by kernel_rfl) (tile_joins_calls _ p0 p1 true Aa ca Ab cb t13 _ (hS9.rd 0) (hS9.rd 1) ht14) (fun v w15 hR16 => ?_)
   obtain ⟨rfl, hk_⟩ := hR16
   have hS17 := hS9.keepN hk_
   refine ⟨trivial, ?_⟩
   refine seg 8 [] [12] [(12, (bv t13))] [] (fun fb => by kernel_rfl) rfl trivial ?_
   injection hx11 with hx11
   exact WL.to K t13 [12] rfl ⟨⟨(hS17.subR [0, 1]).sub [] (by decide), hx11.symm⟩, trivial⟩
  refine WL.setB 8 h12 rfl ?_
  refine seg 8 [] [12] [(12, (bv false))] [] (fun fb => by kernel_rfl) rfl trivial ?_
  injection hx11 with hx11
  exact WL.to K false [12] rfl ⟨⟨(hS9.subR [0, 1]).sub [] (by decide), hx11.symm⟩, trivial⟩
 rintro y18 w20 ⟨⟨hS22, hq19⟩, hF23⟩
 subst hq19
 refine seg 9 [] [4] [(4, (bv x10))] [] (fun fb => by kernel_rfl) rfl trivial ?_
 refine WL.done rfl (WX.next ?_)
 refine WC.ret ?_
 injection hf with hf
 subst hf
 exact WX.ret_ [] (bv x10) [] (fun fb => by kernel_rfl) trivial ⟨_, rfl, rfl, hS22.keep⟩
theorem tile_Fits_calls (k : Nat) (p0 : List Tile) (p1 : Pattern) (Aa : Option Addr) (ca : Nat) (Ab : Option Addr) (cb : Nat) (r : Bool) (w : World) (hR0 : RO NoS w (rowR enc_Tile Aa ca p0)) (hR1 : RO NoS w (rowR encInt Ab cb p1.Cells)) (hf : tile_Fits k p0 p1 = some r) :
  CallsR Tryd.prog 22 #[(sv Aa p0 ca), (.agg #[(iv p1.Width), (iv p1.Height), (sv Ab p1.Cells cb)])] w (fun v w' => v = (bv r) ∧ Keeps NoS w w') := by
 have hS : St NoS w w [rowR enc_Tile Aa ca p0, rowR encInt Ab cb p1.Cells] [] := St.init (ro_cons hR0 (ro_cons hR1 (ro_nil _ _)))
 refine enter 13 Tryd.func22 rfl Tryd.ntmps22 rfl ?_
 unfold tile_Fits at hf
 refine WC.seq (WC.region ?_)
 refine WL.new hS 3 [] (fun g => (pt g)) (.cells #[(iv p1.Width), (iv p1.Height), (sv Ab p1.Cells cb)] 40 (0, 0)) [] (fun fb g => by kernel_rfl) trivial (fun g2 w3 hS4 => ?_)
 refine ⟨trivial, ?_⟩
 refine seg 2 [] [0, 3] [(0, (sv Aa p0 ca)), (3, (pt g2))] [] (fun fb => by kernel_rfl) rfl trivial ?_
 refine WL.done rfl (WX.next (WC.seq (WC.region ?_)))
 refine seg 2 [.v (iv p1.Width), .v (iv p1.Height), .v (sv Ab p1.Cells cb)] [0, 3, 5, 6] [(0, (sv Aa p0 ca)), (3, (pt g2)), (5, (sv Aa p0 ca)), (6, (.agg #[(iv p1.Width), (iv p1.Height), (sv Ab p1.Cells cb)]))] [.cell ⟨g2, 0, none⟩ (iv p1.Width), .cell ⟨g2, 1, none⟩ (iv p1.Height), .cell ⟨g2, 2, none⟩ (sv Ab p1.Cells cb)] (fun fb => by kernel_rfl) rfl ⟨hS4.cell 0 rfl 0 rfl, hS4.cell 0 rfl 1 rfl, hS4.cell 0 rfl 2 rfl, trivial⟩ ?_
 obtain ⟨t5, ht6, hf⟩ := bind_some hf
 refine WL.call (some 7) 31 #[(sv Aa p0 ca), (.agg #[(iv p1.Width), (iv p1.Height), (sv Ab p1.Cells cb)])] (fun fb => by kernel_rfl) (tile_of_calls _ p0 p1 Aa ca Ab cb t5 _ (hS4.rd 0) (hS4.rd 1) ht6) (fun v w7 hR8 => ?_)
 obtain ⟨rfl, hk_⟩ := hR8
 have hS9 := hS4.keepN hk_
 refine ⟨trivial, ?_⟩
 refine seg 4 [] [0, 3, 8] [(0, (sv Aa p0 ca)), (3, (pt g2)), (8, (bv t5))] [] (fun fb => by kernel_rfl) rfl trivial ?_
 obtain ⟨x10, hx11, hf⟩ := bind_some hf
 refine WL.cutW (T := Bool) 8 (fun t => [(12, (bv t))]) (fun t w1 => (St NoS w w1 [rowR enc_Tile Aa ca p0, rowR encInt Ab cb p1.Cells] [] ∧ x10 = t) ∧ CellsOK [] w1) (fun K => ?_) ?_
 ·
  rcases br_some hx11 with ⟨h12, hx11⟩ | ⟨h12, hx11⟩
  ·
   refine WL.setB 8 h12 rfl ?_
   refine seg 6 [.v (iv p1.Width), .v (iv p1.Height), .v (sv Ab p1.Cells cb)] [8, 9, 10] [(8, (bv true)), (9, (sv Aa p0 ca)), (10, (.agg #[(iv p1.Width), (iv p1.Height), (sv Ab p1.Cells cb)]))] [.cell ⟨g2, 0, none⟩ (iv p1.Width), .cell ⟨g2, 1, none⟩ (iv p1.Height), .cell ⟨g2, 2, none⟩ (sv Ab p1.Cells cb)] (fun fb => by kernel_rfl) rfl ⟨hS9.cell 0 rfl 0 rfl, hS9.cell 0 rfl 1 rfl, hS9.cell 0 rfl 2 rfl, trivial⟩ ?_
   obtain ⟨t13, ht14, hx11⟩ := bind_some hx11
   refine WL.call (some 11) 32 #[(sv Aa p0 ca), (.agg #[(iv p1.Width), (iv p1.Height), (sv Ab p1.Cells cb)]), (bv false)] (fun fb => by kernel_rfl) (tile_joins_calls _ p0 p1 false Aa ca Ab cb t13 _ (hS9.rd 0) (hS9.rd 1) ht14) (fun v w15 hR16 => ?_)
   obtain ⟨rfl, hk_⟩ := hR16
   have hS17 := hS9.keepN hk_
   refine ⟨trivial, ?_⟩
   refine seg 8 [] [12] [(12, (bv t13))] [] (fun fb => by kernel_rfl) rfl trivial ?_
   injection hx11 with hx11
   exact WL.to K t13 [12] rfl ⟨⟨(hS17.subR [0, 1]).sub [] (by decide), hx11.symm⟩, trivial⟩
  refine WL.setB 8 h12 rfl ?_
  refine seg 8 [] [12] [(12, (bv false))] [] (fun fb => by kernel_rfl) rfl trivial ?_
  injection hx11 with hx11
  exact WL.to K false [12] rfl ⟨⟨(hS9.subR [0, 1]).sub [] (by decide), hx11.symm⟩, trivial⟩
 rintro y18 w20 ⟨⟨hS21, hq19⟩, hF23⟩
 subst hq19
 refine seg 9 [] [4] [(4, (bv x10))] [] (fun fb => by kernel_rfl) rfl trivial ?_
 refine WL.done rfl (WX.next ?_)
 refine WC.ret ?_
 injection hf with hf
 subst hf
 exact WX.ret_ [] (bv x10) [] (fun fb => by kernel_rfl) trivial ⟨_, rfl, rfl, hS21.keep⟩
theorem law01_awake_calls (k : Nat)  (mG : Glo) (r : Bool) (w : World) (hR0 : RO NoS w (gloO Tryd.prog 2 5 0 1 mG)) (hf : law01_awake k = some r) :
  CallsR Tryd.prog 5 #[] w (fun v w' => v = (bv r) ∧ Keeps NoS w w') := by
 have hS : St NoS w w [gloO Tryd.prog 2 5 0 1 mG] [] := St.init (ro_cons hR0 (ro_nil _ _))
 refine enter 55 Tryd.func5 rfl Tryd.ntmps5 rfl ?_
 unfold law01_awake at hf
 refine WC.seq (WC.region ?_)
 refine seg 1 [] [] [] [] (fun fb => by kernel_rfl) rfl trivial ?_
 refine WL.done rfl (WX.next (WC.seq (WC.region ?_)))
 obtain ⟨t3, ht4, hf⟩ := bind_some hf
 refine WL.call (some 9) 6 #[(.string (⟨#[48, 46, 49, 46, 48, 46, 49]⟩ : ByteArray))] (fun fb => by kernel_rfl) (tile_Parse_calls _ (⟨#[48, 46, 49, 46, 48, 46, 49]⟩ : ByteArray) mG t3 _ (hS.rd 0) ht4) (fun v w6 hR7 => ?_)
 obtain ⟨A9, c10, rfl, hk_⟩ := hR7
 have hS8 := hS.go w6 [rowO 50 enc_Tile A9 c10 t3.1] (hS.call hk_ [] [] (fun g hg => hg.elim) (by simp) (by decide))
 refine ⟨trivial, ?_⟩
 refine seg 6 [] [1, 2] [(1, (sv A9 t3.1 c10)), (2, (iv t3.2))] [] (fun fb => by kernel_rfl) rfl trivial ?_
 refine WL.done rfl (WX.next (WC.seq (WC.region ?_)))
 obtain ⟨t11, ht12, hf⟩ := bind_some hf
 refine WL.call (some 13) 6 #[(.string (⟨#[48, 46, 49, 46, 49, 46, 48, 32, 49, 46, 48, 46, 48, 46, 49]⟩ : ByteArray))] (fun fb => by kernel_rfl) (tile_Parse_calls _ (⟨#[48, 46, 49, 46, 49, 46, 48, 32, 49, 46, 48, 46, 48, 46, 49]⟩ : ByteArray) mG t11 _ (hS8.rd 0) ht12) (fun v w13 hR14 => ?_)
 obtain ⟨A16, c17, rfl, hk_⟩ := hR14
 have hS15 := hS8.go w13 [rowO 50 enc_Tile A16 c17 t11.1, rowO 50 enc_Tile A9 c10 t3.1] (hS8.call hk_ [] [0] (fun g hg => hg.elim) (by simp) (by decide))
 refine ⟨trivial, ?_⟩
 refine seg 6 [] [1, 2, 3, 4] [(1, (sv A9 t3.1 c10)), (2, (iv t3.2)), (3, (sv A16 t11.1 c17)), (4, (iv t11.2))] [] (fun fb => by kernel_rfl) rfl trivial ?_
 refine WL.done rfl (WX.next (WC.seq (WC.region ?_)))
 refine WL.new hS15 16 [] (fun g => (.slice (some ⟨g, 0, none⟩) 4 4)) (.cells #[(iv 0), (iv 1), (iv 1), (iv 0)] 3 (0, 0)) [] (fun fb g => by kernel_rfl) trivial (fun g18 w19 hS20 => ?_)
 refine ⟨trivial, ?_⟩
 have hS21 := hS15.go w19 [rowO 3 encInt (some ⟨g18, 0, none⟩) 4 [0, 1, 1, 0], rowO 50 enc_Tile A16 c17 t11.1, rowO 50 enc_Tile A9 c10 t3.1] (hS20.map1 0 _ (fun h => rowO.ofBlk h rfl (Nat.le_of_ble_eq_true (by kernel_rfl))) (fun _ h => by obtain ⟨_, h1, h2⟩ := h; injection h1 with h1; subst h1; exact h2) [1, 2] (by decide) (by decide))
 refine seg 2 [] [1, 2, 3, 4, 17] [(1, (sv A9 t3.1 c10)), (2, (iv t3.2)), (3, (sv A16 t11.1 c17)), (4, (iv t11.2)), (17, (.agg #[(iv 2), (iv 2), (sv (some ⟨g18, 0, none⟩) [0, 1, 1, 0] 4)]))] [] (fun fb => by kernel_rfl) rfl trivial ?_
 refine WL.new hS21 5 [] (fun g => (pt g)) (.cells #[(iv 0), (iv 0), (.slice none 0 0)] 40 (0, 0)) [] (fun fb g => by kernel_rfl) trivial (fun g22 w23 hS24 => ?_)
 refine ⟨trivial, ?_⟩
 refine WL.store hS24 0 rfl [(0, (iv 2)), (1, (iv 2)), (2, (sv (some ⟨g18, 0, none⟩) [0, 1, 1, 0] 4))] #[(iv 2), (iv 2), (sv (some ⟨g18, 0, none⟩) [0, 1, 1, 0] 4)] (fun fb => by kernel_rfl) (by kernel_rfl) rfl [1, 2, 3] (by decide) (by decide) (fun w25 hS26 => ?_)
 refine ⟨trivial, ?_⟩
 refine WL.done rfl (WX.next (WC.seq (WC.region ?_)))
 refine seg 1 [] [1, 2, 3, 4, 5, 19] [(1, (sv A9 t3.1 c10)), (2, (iv t3.2)), (3, (sv A16 t11.1 c17)), (4, (iv t11.2)), (5, (pt g22)), (19, (sv A16 t11.1 c17))] [] (fun fb => by kernel_rfl) rfl trivial ?_
 obtain ⟨t27, ht28, hf⟩ := bind_some hf
 refine WL.call (some 20) 8 #[(sv A16 t11.1 c17)] (fun fb => by kernel_rfl) (tile_Text_calls _ t11.1 A16 c17 mG t27 _ (hS26.ow 2).ofO (hS26.rd 0) ht28) (fun v w29 hR30 => ?_)
 obtain ⟨rfl, hk_⟩ := hR30
 have hS31 := hS26.keepN hk_
 refine ⟨trivial, ?_⟩
 refine seg 7 [] [1, 2, 3, 4, 5, 6, 7] [(1, (sv A9 t3.1 c10)), (2, (iv t3.2)), (3, (sv A16 t11.1 c17)), (4, (iv t11.2)), (5, (pt g22)), (6, (.string t27.1)), (7, (iv t27.2))] [] (fun fb => by kernel_rfl) rfl trivial ?_
 refine WL.done rfl (WX.next (WC.seq (WC.region ?_)))
 refine seg 3 [] [1, 3, 4, 5, 6, 7, 25] [(1, (sv A9 t3.1 c10)), (3, (sv A16 t11.1 c17)), (4, (iv t11.2)), (5, (pt g22)), (6, (.string t27.1)), (7, (iv t27.2)), (25, (bv (t3.2 == 0)))] [] (fun fb => by kernel_rfl) rfl trivial ?_
 refine WL.cutV (T := Bool) 6 (fun t => [(28, (bv t)), (1, (sv A9 t3.1 c10)), (3, (sv A16 t11.1 c17)), (5, (pt g22)), (6, (.string t27.1)), (7, (iv t27.2))]) (fun t => ((t3.2 == 0) && (t11.2 == 0)) = t) (fun K => ?_) ?_
 ·
  rcases Bool.eq_false_or_eq_true (t3.2 == 0) with h32 | h32
  ·
   refine WL.setB 25 h32 rfl ?_
   refine seg 6 [] [1, 3, 5, 6, 7, 28] [(1, (sv A9 t3.1 c10)), (3, (sv A16 t11.1 c17)), (5, (pt g22)), (6, (.string t27.1)), (7, (iv t27.2)), (28, (bv (t11.2 == 0)))] [] (fun fb => by kernel_rfl) rfl trivial ?_
   exact WL.toV K (t11.2 == 0) [28, 1, 3, 5, 6, 7] rfl (by first | (rw [h32]; done) | (rw [h32]; rfl))
  refine WL.setB 25 h32 rfl ?_
  refine seg 6 [] [1, 3, 5, 6, 7, 28] [(1, (sv A9 t3.1 c10)), (3, (sv A16 t11.1 c17)), (5, (pt g22)), (6, (.string t27.1)), (7, (iv t27.2)), (28, (bv false))] [] (fun fb => by kernel_rfl) rfl trivial ?_
  exact WL.toV K false [28, 1, 3, 5, 6, 7] rfl (by first | (rw [h32]; done) | (rw [h32]; rfl))
 rintro b33 rfl
 refine seg 7 [] [1, 3, 5, 6, 7, 29] [(1, (sv A9 t3.1 c10)), (3, (sv A16 t11.1 c17)), (5, (pt g22)), (6, (.string t27.1)), (7, (iv t27.2)), (29, (bv ((t3.2 == 0) && (t11.2 == 0))))] [] (fun fb => by kernel_rfl) rfl trivial ?_
 refine WL.cutV (T := Bool) 10 (fun t => [(32, (bv t)), (1, (sv A9 t3.1 c10)), (3, (sv A16 t11.1 c17)), (5, (pt g22)), (6, (.string t27.1))]) (fun t => (((t3.2 == 0) && (t11.2 == 0)) && (t27.2 == 0)) = t) (fun K => ?_) ?_
 ·
  rcases Bool.eq_false_or_eq_true ((t3.2 == 0) && (t11.2 == 0)) with h34 | h34
  ·
   refine WL.setB 29 h34 rfl ?_
   refine seg 10 [] [1, 3, 5, 6, 32] [(1, (sv A9 t3.1 c10)), (3, (sv A16 t11.1 c17)), (5, (pt g22)), (6, (.string t27.1)), (32, (bv (t27.2 == 0)))] [] (fun fb => by kernel_rfl) rfl trivial ?_
   exact WL.toV K (t27.2 == 0) [32, 1, 3, 5, 6] rfl (by first | (rw [h34]; done) | (rw [h34]; rfl))
  refine WL.setB 29 h34 rfl ?_
  refine seg 10 [] [1, 3, 5, 6, 32] [(1, (sv A9 t3.1 c10)), (3, (sv A16 t11.1 c17)), (5, (pt g22)), (6, (.string t27.1)), (32, (bv false))] [] (fun fb => by kernel_rfl) rfl trivial ?_
  exact WL.toV K false [32, 1, 3, 5, 6] rfl (by first | (rw [h34]; done) | (rw [h34]; rfl))
 rintro b35 rfl
 refine seg 11 [] [1, 3, 5, 6, 33] [(1, (sv A9 t3.1 c10)), (3, (sv A16 t11.1 c17)), (5, (pt g22)), (6, (.string t27.1)), (33, (bv (((t3.2 == 0) && (t11.2 == 0)) && (t27.2 == 0))))] [] (fun fb => by kernel_rfl) rfl trivial ?_
 refine WL.cutV (T := Bool) 14 (fun t => [(36, (bv t)), (1, (sv A9 t3.1 c10)), (3, (sv A16 t11.1 c17)), (5, (pt g22))]) (fun t => ((((t3.2 == 0) && (t11.2 == 0)) && (t27.2 == 0)) && (strEq t27.1 (⟨#[48, 46, 49, 46, 49, 46, 48, 32, 49, 46, 48, 46, 48, 46, 49]⟩ : ByteArray))) = t) (fun K => ?_) ?_
 ·
  rcases Bool.eq_false_or_eq_true (((t3.2 == 0) && (t11.2 == 0)) && (t27.2 == 0)) with h36 | h36
  ·
   refine WL.setB 33 h36 rfl ?_
   refine seg 12 [] [1, 3, 5, 33, 34] [(1, (sv A9 t3.1 c10)), (3, (sv A16 t11.1 c17)), (5, (pt g22)), (33, (bv true)), (34, (.string t27.1))] [] (fun fb => by kernel_rfl) rfl trivial ?_
   refine seg 13 [] [1, 3, 5, 33, 35] [(1, (sv A9 t3.1 c10)), (3, (sv A16 t11.1 c17)), (5, (pt g22)), (33, (bv true)), (35, (bv (t27.1.toList == (⟨#[48, 46, 49, 46, 49, 46, 48, 32, 49, 46, 48, 46, 48, 46, 49]⟩ : ByteArray).toList)))] [] (fun fb => by kernel_rfl) rfl trivial ?_
   refine WL.setB 35 (strEq_raw t27.1 (⟨#[48, 46, 49, 46, 49, 46, 48, 32, 49, 46, 48, 46, 48, 46, 49]⟩ : ByteArray)) rfl ?_
   refine seg 14 [] [1, 3, 5, 36] [(1, (sv A9 t3.1 c10)), (3, (sv A16 t11.1 c17)), (5, (pt g22)), (36, (bv (strEq t27.1 (⟨#[48, 46, 49, 46, 49, 46, 48, 32, 49, 46, 48, 46, 48, 46, 49]⟩ : ByteArray))))] [] (fun fb => by kernel_rfl) rfl trivial ?_
   exact WL.toV K (strEq t27.1 (⟨#[48, 46, 49, 46, 49, 46, 48, 32, 49, 46, 48, 46, 48, 46, 49]⟩ : ByteArray)) [36, 1, 3, 5] rfl (by first | (rw [h36]; done) | (rw [h36]; rfl))
  refine WL.setB 33 h36 rfl ?_
  refine seg 14 [] [1, 3, 5, 36] [(1, (sv A9 t3.1 c10)), (3, (sv A16 t11.1 c17)), (5, (pt g22)), (36, (bv false))] [] (fun fb => by kernel_rfl) rfl trivial ?_
  exact WL.toV K false [36, 1, 3, 5] rfl (by first | (rw [h36]; done) | (rw [h36]; rfl))
 rintro b37 rfl
 refine seg 15 [] [1, 3, 5, 37] [(1, (sv A9 t3.1 c10)), (3, (sv A16 t11.1 c17)), (5, (pt g22)), (37, (bv ((((t3.2 == 0) && (t11.2 == 0)) && (t27.2 == 0)) && (strEq t27.1 (⟨#[48, 46, 49, 46, 49, 46, 48, 32, 49, 46, 48, 46, 48, 46, 49]⟩ : ByteArray)))))] [] (fun fb => by kernel_rfl) rfl trivial ?_
 obtain ⟨x38, hx39, hf⟩ := bind_some hf
 refine WL.cutW (T := Bool) 20 (fun t => [(3, (sv A16 t11.1 c17)), (5, (pt g22)), (42, (bv t))]) (fun t w1 => (St NoS w w1 [gloO Tryd.prog 2 5 0 1 mG] [rowO 50 enc_Tile A16 c17 t11.1, blk g22 (.cells #[(iv 2), (iv 2), (sv (some ⟨g18, 0, none⟩) [0, 1, 1, 0] 4)] 40 (0, 0)), rowO 3 encInt (some ⟨g18, 0, none⟩) 4 [0, 1, 1, 0]] ∧ x38 = t) ∧ CellsOK [] w1) (fun K => ?_) ?_
 ·
  rcases br_some hx39 with ⟨h40, hx39⟩ | ⟨h40, hx39⟩
  ·
   refine WL.setB 37 h40 rfl ?_
   refine seg 16 [] [3, 5, 37, 38] [(3, (sv A16 t11.1 c17)), (5, (pt g22)), (37, (bv true)), (38, (sv A9 t3.1 c10))] [] (fun fb => by kernel_rfl) rfl trivial ?_
   refine WL.new hS31 39 [] (fun g => (.slice (some ⟨g, 0, none⟩) 1 1)) (.cells #[(iv 0)] 3 (0, 0)) [] (fun fb g => by kernel_rfl) trivial (fun g41 w42 hS43 => ?_)
   refine ⟨trivial, ?_⟩
   have hS44 := hS21.go w42 [rowO 3 encInt (some ⟨g41, 0, none⟩) 1 [0], blk g22 (.cells #[(iv 2), (iv 2), (sv (some ⟨g18, 0, none⟩) [0, 1, 1, 0] 4)] 40 (0, 0)), rowO 3 encInt (some ⟨g18, 0, none⟩) 4 [0, 1, 1, 0], rowO 50 enc_Tile A16 c17 t11.1, rowO 50 enc_Tile A9 c10 t3.1] (hS43.map1 0 _ (fun h => rowO.ofBlk h rfl (Nat.le_of_ble_eq_true (by kernel_rfl))) (fun _ h => by obtain ⟨_, h1, h2⟩ := h; injection h1 with h1; subst h1; exact h2) [1, 2, 3, 4] (by decide) (by decide))
   refine seg 18 [] [3, 5, 37, 38, 40] [(3, (sv A16 t11.1 c17)), (5, (pt g22)), (37, (bv true)), (38, (sv A9 t3.1 c10)), (40, (.agg #[(iv 1), (iv 1), (sv (some ⟨g41, 0, none⟩) [0] 1)]))] [] (fun fb => by kernel_rfl) rfl trivial ?_
   obtain ⟨t45, ht46, hx39⟩ := bind_some hx39
   refine WL.call (some 41) 21 #[(sv A9 t3.1 c10), (.agg #[(iv 1), (iv 1), (sv (some ⟨g41, 0, none⟩) [0] 1)])] (fun fb => by kernel_rfl) (tile_Repeats_calls _ t3.1 (Pattern.mk 1 1 [0]) A9 c10 (some ⟨g41, 0, none⟩) 1 t45 _ (hS44.ow 4).ofO (hS44.ow 0).ofO ht46) (fun v w47 hR48 => ?_)
   obtain ⟨rfl, hk_⟩ := hR48
   have hS49 := hS44.keepN hk_
   refine ⟨trivial, ?_⟩
   refine seg 20 [] [3, 5, 42] [(3, (sv A16 t11.1 c17)), (5, (pt g22)), (42, (bv t45))] [] (fun fb => by kernel_rfl) rfl trivial ?_
   injection hx39 with hx39
   exact WL.to K t45 [3, 5, 42] rfl ⟨⟨(hS49.subR [0]).sub [3, 1, 2] (by decide), hx39.symm⟩, trivial⟩
  refine WL.setB 37 h40 rfl ?_
  refine seg 20 [] [3, 5, 42] [(3, (sv A16 t11.1 c17)), (5, (pt g22)), (42, (bv false))] [] (fun fb => by kernel_rfl) rfl trivial ?_
  injection hx39 with hx39
  exact WL.to K false [3, 5, 42] rfl ⟨⟨(hS31.subR [0]).sub [2, 0, 1] (by decide), hx39.symm⟩, trivial⟩
 rintro y50 w52 ⟨⟨hS53, hq51⟩, hF54⟩
 subst hq51
 refine seg 21 [] [3, 5, 43] [(3, (sv A16 t11.1 c17)), (5, (pt g22)), (43, (bv x38))] [] (fun fb => by kernel_rfl) rfl trivial ?_
 obtain ⟨x55, hx56, hf⟩ := bind_some hf
 refine WL.cutW (T := Bool) 25 (fun t => [(3, (sv A16 t11.1 c17)), (47, (bv t))]) (fun t w1 => (St NoS w w1 [gloO Tryd.prog 2 5 0 1 mG] [rowO 50 enc_Tile A16 c17 t11.1] ∧ x55 = t) ∧ CellsOK [] w1) (fun K => ?_) ?_
 ·
  rcases br_some hx56 with ⟨h57, hx56⟩ | ⟨h57, hx56⟩
  ·
   refine WL.setB 43 h57 rfl ?_
   refine seg 23 [.v (iv 2), .v (iv 2), .v (sv (some ⟨g18, 0, none⟩) [0, 1, 1, 0] 4)] [3, 43, 44, 45] [(3, (sv A16 t11.1 c17)), (43, (bv true)), (44, (sv A16 t11.1 c17)), (45, (.agg #[(iv 2), (iv 2), (sv (some ⟨g18, 0, none⟩) [0, 1, 1, 0] 4)]))] [.cell ⟨g22, 0, none⟩ (iv 2), .cell ⟨g22, 1, none⟩ (iv 2), .cell ⟨g22, 2, none⟩ (sv (some ⟨g18, 0, none⟩) [0, 1, 1, 0] 4)] (fun fb => by kernel_rfl) rfl ⟨hS53.cell 1 rfl 0 rfl, hS53.cell 1 rfl 1 rfl, hS53.cell 1 rfl 2 rfl, trivial⟩ ?_
   obtain ⟨t58, ht59, hx56⟩ := bind_some hx56
   refine WL.call (some 46) 21 #[(sv A16 t11.1 c17), (.agg #[(iv 2), (iv 2), (sv (some ⟨g18, 0, none⟩) [0, 1, 1, 0] 4)])] (fun fb => by kernel_rfl) (tile_Repeats_calls _ t11.1 (Pattern.mk 2 2 [0, 1, 1, 0]) A16 c17 (some ⟨g18, 0, none⟩) 4 t58 _ (hS53.ow 0).ofO (hS53.ow 2).ofO ht59) (fun v w60 hR61 => ?_)
   obtain ⟨rfl, hk_⟩ := hR61
   have hS62 := hS53.keepN hk_
   refine ⟨trivial, ?_⟩
   refine seg 25 [] [3, 47] [(3, (sv A16 t11.1 c17)), (47, (bv t58))] [] (fun fb => by kernel_rfl) rfl trivial ?_
   injection hx56 with hx56
   exact WL.to K t58 [3, 47] rfl ⟨⟨(hS62.subR [0]).sub [0] (by decide), hx56.symm⟩, trivial⟩
  refine WL.setB 43 h57 rfl ?_
  refine seg 25 [] [3, 47] [(3, (sv A16 t11.1 c17)), (47, (bv false))] [] (fun fb => by kernel_rfl) rfl trivial ?_
  injection hx56 with hx56
  exact WL.to K false [3, 47] rfl ⟨⟨(hS53.subR [0]).sub [0] (by decide), hx56.symm⟩, trivial⟩
 rintro y63 w66 ⟨⟨hS67, hq65⟩, hF68⟩
 subst hq65
 refine seg 26 [] [3, 48] [(3, (sv A16 t11.1 c17)), (48, (bv x55))] [] (fun fb => by kernel_rfl) rfl trivial ?_
 obtain ⟨x69, hx70, hf⟩ := bind_some hf
 refine WL.cutW (T := Bool) 32 (fun t => [(54, (bv t))]) (fun t w1 => (St NoS w w1 [gloO Tryd.prog 2 5 0 1 mG] [] ∧ x69 = t) ∧ CellsOK [] w1) (fun K => ?_) ?_
 ·
  rcases br_some hx70 with ⟨h71, hx70⟩ | ⟨h71, hx70⟩
  ·
   refine WL.setB 48 h71 rfl ?_
   refine seg 27 [] [48, 49] [(48, (bv true)), (49, (sv A16 t11.1 c17))] [] (fun fb => by kernel_rfl) rfl trivial ?_
   refine WL.new hS67 50 [] (fun g => (.slice (some ⟨g, 0, none⟩) 2 2)) (.cells #[(iv 0), (iv 0)] 3 (0, 0)) [] (fun fb g => by kernel_rfl) trivial (fun g72 w73 hS74 => ?_)
   refine ⟨trivial, ?_⟩
   have hS75 := hS21.go w73 [rowO 3 encInt (some ⟨g72, 0, none⟩) 2 [0, 0], rowO 50 enc_Tile A16 c17 t11.1] (hS74.map1 0 _ (fun h => rowO.ofBlk h rfl (Nat.le_of_ble_eq_true (by kernel_rfl))) (fun _ h => by obtain ⟨_, h1, h2⟩ := h; injection h1 with h1; subst h1; exact h2) [1] (by decide) (by decide))
   refine seg 29 [] [48, 49, 51] [(48, (bv true)), (49, (sv A16 t11.1 c17)), (51, (.agg #[(iv 2), (iv 1), (sv (some ⟨g72, 0, none⟩) [0, 0] 2)]))] [] (fun fb => by kernel_rfl) rfl trivial ?_
   obtain ⟨t76, ht77, hx70⟩ := bind_some hx70
   refine WL.call (some 52) 22 #[(sv A16 t11.1 c17), (.agg #[(iv 2), (iv 1), (sv (some ⟨g72, 0, none⟩) [0, 0] 2)])] (fun fb => by kernel_rfl) (tile_Fits_calls _ t11.1 (Pattern.mk 2 1 [0, 0]) A16 c17 (some ⟨g72, 0, none⟩) 2 t76 _ (hS75.ow 1).ofO (hS75.ow 0).ofO ht77) (fun v w78 hR79 => ?_)
   obtain ⟨rfl, hk_⟩ := hR79
   have hS80 := hS75.keepN hk_
   refine ⟨trivial, ?_⟩
   refine seg 32 [] [54] [(54, (bv (!t76)))] [] (fun fb => by kernel_rfl) rfl trivial ?_
   injection hx70 with hx70
   exact WL.to K (!t76) [54] rfl ⟨⟨(hS80.subR [0]).sub [] (by decide), hx70.symm⟩, trivial⟩
  refine WL.setB 48 h71 rfl ?_
  refine seg 32 [] [54] [(54, (bv false))] [] (fun fb => by kernel_rfl) rfl trivial ?_
  injection hx70 with hx70
  exact WL.to K false [54] rfl ⟨⟨(hS67.subR [0]).sub [] (by decide), hx70.symm⟩, trivial⟩
 rintro y81 w83 ⟨⟨hS84, hq82⟩, hF85⟩
 subst hq82
 refine seg 33 [] [0] [(0, (bv x69))] [] (fun fb => by kernel_rfl) rfl trivial ?_
 refine WL.done rfl (WX.next ?_)
 refine WC.ret ?_
 injection hf with hf
 subst hf
 exact WX.ret_ [] (bv x69) [] (fun fb => by kernel_rfl) trivial ⟨_, rfl, rfl, hS84.keep⟩
theorem tile_changes_calls   (r : A3_Change) (w : World)  (hf : tile_changes = some r) :
  CallsR Tryd.prog 38 #[] w (fun v w' => v = (.agg #[(.func (.func 55) #[] #[]), (.func (.func 56) #[] #[]), (.func (.func 57) #[] #[]), (.func (.func 58) #[] #[]), (.func (.func 56) #[] #[]), (.func (.func 59) #[] #[]), (.func (.func 60) #[] #[]), (.func (.func 61) #[] #[]), (.func (.func 62) #[] #[])]) ∧ Keeps NoS w w') := by
 have hS : St NoS w w [] [] := St.init (ro_nil _ _)
 refine enter 5 Tryd.func38 rfl Tryd.ntmps38 rfl ?_
 unfold tile_changes at hf
 refine WC.seq (WC.region ?_)
 refine WL.new hS 0 [] (fun g => (pt g)) (.cells #[.nilFunc, .nilFunc, .nilFunc, .nilFunc, .nilFunc, .nilFunc, .nilFunc, .nilFunc, .nilFunc] 67 (0, 0)) [] (fun fb g => by kernel_rfl) trivial (fun g1 w2 hS4 => ?_)
 refine ⟨trivial, ?_⟩
 refine WL.done rfl (WX.next (WC.seq (WC.region ?_)))
 refine seg 4 [] [0, 4] [(0, (pt g1)), (4, (.agg #[(.func (.func 55) #[] #[]), (.func (.func 56) #[] #[]), (.func (.func 57) #[] #[]), (.func (.func 58) #[] #[]), (.func (.func 56) #[] #[]), (.func (.func 59) #[] #[]), (.func (.func 60) #[] #[]), (.func (.func 61) #[] #[]), (.func (.func 62) #[] #[])]))] [] (fun fb => by kernel_rfl) rfl trivial ?_
 refine WL.store hS4 0 rfl [(0, (.func (.func 55) #[] #[])), (1, (.func (.func 56) #[] #[])), (2, (.func (.func 57) #[] #[])), (3, (.func (.func 58) #[] #[])), (4, (.func (.func 56) #[] #[])), (5, (.func (.func 59) #[] #[])), (6, (.func (.func 60) #[] #[])), (7, (.func (.func 61) #[] #[])), (8, (.func (.func 62) #[] #[]))] #[(.func (.func 55) #[] #[]), (.func (.func 56) #[] #[]), (.func (.func 57) #[] #[]), (.func (.func 58) #[] #[]), (.func (.func 56) #[] #[]), (.func (.func 59) #[] #[]), (.func (.func 60) #[] #[]), (.func (.func 61) #[] #[]), (.func (.func 62) #[] #[])] (fun fb => by kernel_rfl) (by kernel_rfl) (by kernel_rfl) [] (by decide) (by decide) (fun w5 hS6 => ?_)
 refine ⟨trivial, ?_⟩
 refine WL.done rfl (WX.next ?_)
 refine WC.ret ?_
 injection hf with hf
 subst hf
 exact WX.ret_ [.v (.func (.func 55) #[] #[]), .v (.func (.func 56) #[] #[]), .v (.func (.func 57) #[] #[]), .v (.func (.func 58) #[] #[]), .v (.func (.func 56) #[] #[]), .v (.func (.func 59) #[] #[]), .v (.func (.func 60) #[] #[]), .v (.func (.func 61) #[] #[]), .v (.func (.func 62) #[] #[])] (.agg #[(.func (.func 55) #[] #[]), (.func (.func 56) #[] #[]), (.func (.func 57) #[] #[]), (.func (.func 58) #[] #[]), (.func (.func 56) #[] #[]), (.func (.func 59) #[] #[]), (.func (.func 60) #[] #[]), (.func (.func 61) #[] #[]), (.func (.func 62) #[] #[])]) [.cell ⟨g1, 0, none⟩ (.func (.func 55) #[] #[]), .cell ⟨g1, 1, none⟩ (.func (.func 56) #[] #[]), .cell ⟨g1, 2, none⟩ (.func (.func 57) #[] #[]), .cell ⟨g1, 3, none⟩ (.func (.func 58) #[] #[]), .cell ⟨g1, 4, none⟩ (.func (.func 56) #[] #[]), .cell ⟨g1, 5, none⟩ (.func (.func 59) #[] #[]), .cell ⟨g1, 6, none⟩ (.func (.func 60) #[] #[]), .cell ⟨g1, 7, none⟩ (.func (.func 61) #[] #[]), .cell ⟨g1, 8, none⟩ (.func (.func 62) #[] #[])] (fun fb => by kernel_rfl) ⟨hS6.cell 0 rfl 0 rfl, hS6.cell 0 rfl 1 rfl, hS6.cell 0 rfl 2 rfl, hS6.cell 0 rfl 3 rfl, hS6.cell 0 rfl 4 rfl, hS6.cell 0 rfl 5 rfl, hS6.cell 0 rfl 6 rfl, hS6.cell 0 rfl 7 rfl, hS6.cell 0 rfl 8 rfl, trivial⟩ ⟨_, rfl, rfl, hS6.keep⟩
theorem tile_changes_1_calls (p0 : Tile)  (r : Tile) (w : World)  (hf : tile_changes_1 p0 = some r) :
  CallsR Tryd.prog 55 #[(.agg #[(iv p0.N), (iv p0.E), (iv p0.S), (iv p0.W)])] w (fun v w' => v = (.agg #[(iv r.N), (iv r.E), (iv r.S), (iv r.W)]) ∧ Keeps NoS w w') := by
 have hS : St NoS w w [] [] := St.init (ro_nil _ _)
 refine enter 12 Tryd.func55 rfl Tryd.ntmps55 rfl ?_
 unfold tile_changes_1 at hf
 refine WC.seq (WC.region ?_)
 refine WL.new hS 1 [] (fun g => (pt g)) (.cells #[(iv p0.N), (iv p0.E), (iv p0.S), (iv p0.W)] 50 (0, 0)) [] (fun fb g => by kernel_rfl) trivial (fun g2 w3 hS4 => ?_)
 refine ⟨trivial, ?_⟩
 refine WL.new hS4 2 [] (fun g => (pt g)) (.cells #[(iv 0), (iv 0), (iv 0), (iv 0)] 50 (0, 0)) [] (fun fb g => by kernel_rfl) trivial (fun g5 w6 hS7 => ?_)
 refine ⟨trivial, ?_⟩
 refine WL.done rfl (WX.next (WC.seq (WC.region ?_)))
 refine seg 9 [.v (iv p0.N), .v (iv p0.W), .v (iv p0.S), .v (iv p0.E)] [2, 11] [(2, (pt g5)), (11, (.agg #[(iv p0.N), (iv p0.W), (iv p0.S), (iv p0.E)]))] [.cell ⟨g2, 0, none⟩ (iv p0.N), .cell ⟨g2, 3, none⟩ (iv p0.W), .cell ⟨g2, 2, none⟩ (iv p0.S), .cell ⟨g2, 1, none⟩ (iv p0.E)] (fun fb => by kernel_rfl) rfl ⟨hS7.cell 1 rfl 0 rfl, hS7.cell 1 rfl 3 rfl, hS7.cell 1 rfl 2 rfl, hS7.cell 1 rfl 1 rfl, trivial⟩ ?_
 refine WL.store hS7 0 rfl [(0, (iv p0.N)), (1, (iv p0.W)), (2, (iv p0.S)), (3, (iv p0.E))] #[(iv p0.N), (iv p0.W), (iv p0.S), (iv p0.E)] (fun fb => by kernel_rfl) (by kernel_rfl) rfl [1] (by decide) (by decide) (fun w8 hS9 => ?_)
 refine ⟨trivial, ?_⟩
 refine WL.done rfl (WX.next ?_)
 refine WC.ret ?_
 injection hf with hf
 subst hf
 exact WX.ret_ [.v (iv p0.N), .v (iv p0.W), .v (iv p0.S), .v (iv p0.E)] (.agg #[(iv p0.N), (iv p0.W), (iv p0.S), (iv p0.E)]) [.cell ⟨g5, 0, none⟩ (iv p0.N), .cell ⟨g5, 1, none⟩ (iv p0.W), .cell ⟨g5, 2, none⟩ (iv p0.S), .cell ⟨g5, 3, none⟩ (iv p0.E)] (fun fb => by kernel_rfl) ⟨hS9.cell 0 rfl 0 rfl, hS9.cell 0 rfl 1 rfl, hS9.cell 0 rfl 2 rfl, hS9.cell 0 rfl 3 rfl, trivial⟩ ⟨_, rfl, rfl, hS9.keep⟩
theorem tile_changed_at0_calls (k : Nat) (p0 : List Tile) (Aa : Option Addr) (ca : Nat) (r : (List Tile) × Int) (w : World) (hR0 : RO NoS w (rowR enc_Tile Aa ca p0)) (hf : tile_changed_at0 k p0 = some r) :
  CallsR Tryd.prog 26 #[(sv Aa p0 ca), (iv 0)] w (fun v w' => ∃ (A1_ : Option Addr), ∃ (c1_ : Nat), v = (.tuple #[(sv A1_ r.1 c1_), (iv r.2)]) ∧ St NoS w w' [] [rowO 50 enc_Tile A1_ c1_ r.1]) := by
 have hS : St NoS w w [rowR enc_Tile Aa ca p0] [] := St.init (ro_cons hR0 (ro_nil _ _))
 refine enter 29 Tryd.func26 rfl Tryd.ntmps26 rfl ?_
 unfold tile_changed_at0 at hf
 refine WC.seq (WC.region ?_)
 refine seg 2 [] [0, 1] [(0, (sv Aa p0 ca)), (1, (iv 0))] [] (fun fb => by kernel_rfl) rfl trivial ?_
 refine WL.done rfl (WX.next (WC.seq (WC.seq (WC.region ?_))))
 refine seg 1 [] [0, 1, 9] [(0, (sv Aa p0 ca)), (1, (iv 0)), (9, (sv Aa p0 ca))] [] (fun fb => by kernel_rfl) rfl trivial ?_
 obtain ⟨t3, ht4, hf⟩ := bind_some hf
 refine WL.call (some 10) 14 #[(sv Aa p0 ca)] (fun fb => by kernel_rfl) (tile_Valid_calls _ p0 Aa ca t3 _ (hS.rd 0) ht4) (fun v w5 hR6 => ?_)
 obtain ⟨rfl, hk_⟩ := hR6
 have hS7 := hS.keepN hk_
 refine ⟨trivial, ?_⟩
 refine seg 3 [] [0, 1, 11] [(0, (sv Aa p0 ca)), (1, (iv 0)), (11, (bv (!t3)))] [] (fun fb => by kernel_rfl) rfl trivial ?_
 refine WL.done rfl (WX.next ?_)
 rcases br_some hf with ⟨h8, hf⟩ | ⟨h8, hf⟩
 ·refine WC.condT2 (fun fb => by kernel_rfl) h8 ?_
  refine WC.seq (WC.region ?_)
  refine seg 2 [] [4, 5] [(4, (.slice none 0 0)), (5, (iv 1))] [] (fun fb => by kernel_rfl) rfl trivial ?_
  refine WL.done rfl (WX.next ?_)
  refine WC.ret ?_
  have hS9 := hS7.nilrow 50 enc_Tile
  injection hf with hf
  subst hf
  exact WX.thenR (WX.ret_ [] (.tuple #[(sv none ([] : List Tile) 0), (iv 1)]) [] (fun fb => by kernel_rfl) trivial ⟨_, rfl, none, 0, rfl, (hS9.sub [0] (by decide)).noR⟩)
 refine WC.condF2 (fun fb => by kernel_rfl) h8 ?_
 refine WC.skip (WX.next (WC.seq (WC.region ?_)))
 refine seg 1 [] [0, 1, 6] [(0, (sv Aa p0 ca)), (1, (iv 0)), (6, (.slice none 0 0))] [] (fun fb => by kernel_rfl) rfl trivial ?_
 refine WL.done rfl (WX.next (WC.seq (WC.seq (WC.region ?_))))
 refine seg 3 [] [1, 6, 12, 13, 14] [(1, (iv 0)), (6, (.slice none 0 0)), (12, (sv Aa p0 ca)), (13, (iv (p0.length : Int))), (14, (iv 0))] [] (fun fb => by kernel_rfl) rfl trivial ?_
 refine WL.done rfl (WX.next ?_)
 have hS10 := hS7.nilrow 50 enc_Tile
 obtain ⟨x17, hx18, hf⟩ := bind_some hf
 refine WC.cutN (T := (List Tile) × (Option Addr) × Nat) (fun t => [(6, (sv t.2.1 t.1 t.2.2))]) (fun t w1 => St NoS w w1 [rowR enc_Tile Aa ca p0] [rowO 50 enc_Tile t.2.1 t.2.2 t.1] ∧ x17 = t.1) (fun Kx17 => ?_) ?_
 ·
  refine WC.block ?_
  refine WC.loop (T := ((List Tile) × Int) × (Option Addr) × Nat) (fun t => [(1, (iv 0)), (6, (sv t.2.1 t.1.1 t.2.2)), (12, (sv Aa p0 ca)), (13, (iv (p0.length : Int))), (14, (iv t.1.2))]) (fun n t w1 => St NoS w w1 [rowR enc_Tile Aa ca p0] [rowO 50 enc_Tile t.2.1 t.2.2 t.1.1] ∧ tile_changed_at0.l0 n t.1.1 t.1.2 p0 = some x17) k ((([] : List Tile), 0), none, 0) [1, 6, 12, 13, 14] rfl ⟨(hS10.subR [0]).sub [0] (by decide), hx18⟩ ?_
  rintro k19 ⟨⟨l13, x14⟩, A11, c12⟩ w20 ⟨hS21, hl22⟩
  cases k19 with
  | zero => rw [tile_changed_at0.l0] at hl22; cases hl22
  | succ k19 =>
   rw [tile_changed_at0.l0] at hl22
   refine WC.seq (WC.region ?_)
   refine seg 1 [] [1, 6, 12, 13, 14, 15] [(1, (iv 0)), (6, (sv A11 l13 c12)), (12, (sv Aa p0 ca)), (13, (iv (p0.length : Int))), (14, (iv x14)), (15, (bv (decide (x14 < (p0.length : Int)))))] [] (fun fb => by kernel_rfl) rfl trivial ?_
   refine WL.done rfl (WX.next (WC.seq ?_))
   rcases br_some hl22 with ⟨h23, hl22⟩ | ⟨h23, hl22⟩
   ·refine WC.condT2 (fun fb => by kernel_rfl) h23 ?_
    refine WC.skip (WX.next (WC.seq (WC.block (WC.seq (WC.region ?_)))))
    obtain ⟨h24, hl22⟩ := as_some hl22
    refine seg 2 [.v (iv ((rdD p0 x14 z_Tile).N)), .v (iv ((rdD p0 x14 z_Tile).E)), .v (iv ((rdD p0 x14 z_Tile).S)), .v (iv ((rdD p0 x14 z_Tile).W))] [1, 6, 12, 13, 14, 17] [(1, (iv 0)), (6, (sv A11 l13 c12)), (12, (sv Aa p0 ca)), (13, (iv (p0.length : Int))), (14, (iv x14)), (17, (.agg #[(iv ((rdD p0 x14 z_Tile).N)), (iv ((rdD p0 x14 z_Tile).E)), (iv ((rdD p0 x14 z_Tile).S)), (iv ((rdD p0 x14 z_Tile).W))]))] [.idx Aa x14 p0.length, .cell ((adr Aa).add ((x14).toNat * 4)) (iv ((rdD p0 x14 z_Tile).N)), .cell (((adr Aa).add ((x14).toNat * 4)).add 1) (iv ((rdD p0 x14 z_Tile).E)), .cell (((adr Aa).add ((x14).toNat * 4)).add 2) (iv ((rdD p0 x14 z_Tile).S)), .cell (((adr Aa).add ((x14).toNat * 4)).add 3) (iv ((rdD p0 x14 z_Tile).W))] (fun fb => by kernel_rfl) rfl ⟨rowR.adr (hS21.rd 0).1 h24.1 h24.2, rowR.cell (hS21.rd 0).1 z_Tile h24.1 h24.2 0 rfl, rowR.cell (hS21.rd 0).1 z_Tile h24.1 h24.2 1 rfl, rowR.cell (hS21.rd 0).1 z_Tile h24.1 h24.2 2 rfl, rowR.cell (hS21.rd 0).1 z_Tile h24.1 h24.2 3 rfl, trivial⟩ ?_
    refine WL.new hS21 8 [] (fun g => (pt g)) (.cells #[(iv 0), (iv 0), (iv 0), (iv 0)] 50 (0, 0)) [] (fun fb g => by kernel_rfl) trivial (fun g25 w27 hS28 => ?_)
    refine ⟨trivial, ?_⟩
    refine WL.store hS28 0 rfl [(0, (iv ((rdD p0 x14 z_Tile).N))), (1, (iv ((rdD p0 x14 z_Tile).E))), (2, (iv ((rdD p0 x14 z_Tile).S))), (3, (iv ((rdD p0 x14 z_Tile).W)))] #[(iv ((rdD p0 x14 z_Tile).N)), (iv ((rdD p0 x14 z_Tile).E)), (iv ((rdD p0 x14 z_Tile).S)), (iv ((rdD p0 x14 z_Tile).W))] (fun fb => by kernel_rfl) (by kernel_rfl) rfl [1] (by decide) (by decide) (fun w29 hS30 => ?_)
    refine ⟨trivial, ?_⟩
    refine WL.done rfl (WX.next ?_)
    refine WC.regionD ([(5, ⟨g25, 0, none⟩, (iv ((rdD p0 x14 z_Tile).N))), (5, ⟨g25, 1, none⟩, (iv ((rdD p0 x14 z_Tile).E))), (5, ⟨g25, 2, none⟩, (iv ((rdD p0 x14 z_Tile).S))), (5, ⟨g25, 3, none⟩, (iv ((rdD p0 x14 z_Tile).W)))], [0, 2, 3, 4, 5, 9], [[], [], [], [1, 2], [1, 2, 3], [], [1, 2, 3, 4, 5], [1, 2, 3, 4, 5, 6], [0, 1, 2, 3, 4, 5, 6, 7], [0, 1, 2, 3, 4, 5, 6, 7, 8]]) [[0, 2, 5, 1, 3, 4, 6, 7, 8, 9]] (by kernel_rfl) (by kernel_rfl) (NoPanic.block (NoPanic.seq (NoPanic.seq (NoPanic.block (NoPanic.seq (NoPanic.body)))))) ?_
    have hS32 := hS30.drew
    revert hS32
    generalize World.drew w29 = w31
    intro hS32
    refine ⟨⟨hS32.cell 0 rfl 0 rfl, hS32.cell 0 rfl 1 rfl, hS32.cell 0 rfl 2 rfl, hS32.cell 0 rfl 3 rfl, trivial⟩, forallC ?_ (forallN)⟩
    refine segF 3 [.v (iv ((rdD p0 x14 z_Tile).N)), .v (iv ((rdD p0 x14 z_Tile).E)), .v (iv ((rdD p0 x14 z_Tile).S)), .v (iv ((rdD p0 x14 z_Tile).W))] [1, 12, 13, 14, 18, 20, 23] [(1, (iv 0)), (12, (sv Aa p0 ca)), (13, (iv (p0.length : Int))), (14, (iv x14)), (18, (sv A11 l13 c12)), (20, (iv 0)), (23, (.agg #[(iv ((rdD p0 x14 z_Tile).N)), (iv ((rdD p0 x14 z_Tile).E)), (iv ((rdD p0 x14 z_Tile).S)), (iv ((rdD p0 x14 z_Tile).W))]))] [] [0, 1, 2, 3] [(5, ⟨g25, 0, none⟩, (iv ((rdD p0 x14 z_Tile).N))), (5, ⟨g25, 1, none⟩, (iv ((rdD p0 x14 z_Tile).E))), (5, ⟨g25, 2, none⟩, (iv ((rdD p0 x14 z_Tile).S))), (5, ⟨g25, 3, none⟩, (iv ((rdD p0 x14 z_Tile).W)))] (fun fb => by kernel_rfl) rfl trivial rfl ?_
    obtain ⟨t33, ht34, hl22⟩ := bind_some hl22
    refine WL.call (some 19) 38 #[] (fun fb => by kernel_rfl) (tile_changes_calls t33 _ ht34) (fun v w35 hR36 => ?_)
    obtain ⟨rfl, hk_⟩ := hR36
    have hS37 := hS32.keepN hk_
    refine ⟨⟨hS37.cell 0 rfl 0 rfl, hS37.cell 0 rfl 1 rfl, hS37.cell 0 rfl 2 rfl, hS37.cell 0 rfl 3 rfl, trivial⟩, ?_⟩
    refine seg 6 [] [1, 12, 13, 14, 18, 22, 23] [(1, (iv 0)), (12, (sv Aa p0 ca)), (13, (iv (p0.length : Int))), (14, (iv x14)), (18, (sv A11 l13 c12)), (22, (.func (.func 55) #[] #[])), (23, (.agg #[(iv ((rdD p0 x14 z_Tile).N)), (iv ((rdD p0 x14 z_Tile).E)), (iv ((rdD p0 x14 z_Tile).S)), (iv ((rdD p0 x14 z_Tile).W))]))] [] (fun fb => by kernel_rfl) rfl trivial ?_
    obtain ⟨t38, ht39, hl22⟩ := bind_some hl22
    refine WL.call (some 24) 55 #[(.agg #[(iv ((rdD p0 x14 z_Tile).N)), (iv ((rdD p0 x14 z_Tile).E)), (iv ((rdD p0 x14 z_Tile).S)), (iv ((rdD p0 x14 z_Tile).W))])] (fun fb => by kernel_rfl) (tile_changes_1_calls (rdD p0 x14 z_Tile) t38 _ ht39) (fun v w40 hR41 => ?_)
    obtain ⟨rfl, hk_⟩ := hR41
    have hS42 := hS37.keepN hk_
    refine ⟨trivial, ?_⟩
    refine WL.new hS42 25 [] (fun g => (.slice (some ⟨g, 0, none⟩) 1 1)) (.cells #[(iv t38.N), (iv t38.E), (iv t38.S), (iv t38.W)] 50 (0, 0)) [] (fun fb g => by kernel_rfl) trivial (fun g43 w44 hS45 => ?_)
    refine ⟨trivial, ?_⟩
    have hS46 := hS.go w44 [rowO 50 enc_Tile (some ⟨g43, 0, none⟩) 1 [t38], blk g25 (.cells #[(iv ((rdD p0 x14 z_Tile).N)), (iv ((rdD p0 x14 z_Tile).E)), (iv ((rdD p0 x14 z_Tile).S)), (iv ((rdD p0 x14 z_Tile).W))] 50 (0, 0)), rowO 50 enc_Tile A11 c12 l13] (hS45.map1 0 _ (fun h => rowO.ofBlk h rfl (Nat.le_of_ble_eq_true (by kernel_rfl))) (fun _ h => by obtain ⟨_, h1, h2⟩ := h; injection h1 with h1; subst h1; exact h2) [1, 2] (by decide) (by decide))
    obtain ⟨h47, hl22⟩ := as_some hl22
    refine WL.append hS46 2 (d := 26) (tS := 23) (z := (.agg #[(iv 0), (iv 0), (iv 0), (iv 0)])) (bytes := 32) (c2 := 1) rfl (fun fb => by kernel_rfl) (rowO.rd (hS46.own 0).1) (by kernel_rfl) (by kernel_rfl) rfl (by decide) h47 (by decide) [0, 1] (by decide) (by decide) (fun A48 c49 w50 hS51 => ?_)
    refine ⟨trivial, ?_⟩
    refine seg 10 [] [1, 6, 12, 13, 14] [(1, (iv 0)), (6, (sv A48 (l13 ++ [t38]) c49)), (12, (sv Aa p0 ca)), (13, (iv (p0.length : Int))), (14, (iv x14))] [] (fun fb => by kernel_rfl) rfl trivial ?_
    refine WL.done rfl ?_
    refine WX.blockN (WX.next ?_)
    refine WC.region ?_
    refine seg 2 [] [1, 6, 12, 13, 14] [(1, (iv 0)), (6, (sv A48 (l13 ++ [t38]) c49)), (12, (sv Aa p0 ca)), (13, (iv (p0.length : Int))), (14, (iv (w64 (x14 + 1))))] [] (fun fb => by kernel_rfl) rfl trivial ?_
    refine WL.done rfl ?_
    exact WX.again k19 (Nat.lt_succ_self _) ((l13 ++ [t38], w64 (x14 + 1)), A48, c49) [1, 6, 12, 13, 14] rfl ⟨(hS51.subR [0]).sub [0] (by decide), hl22⟩
   refine WC.condF2 (fun fb => by kernel_rfl) h23 ?_
   refine WC.exit ?_
   injection hl22 with hl22
   exact WX.thenX (WX.thenX (WX.blockHere (WX.to Kx17 (l13, A11, c12) [6] rfl ⟨(hS21.subR [0]).sub [0] (by decide), hl22.symm⟩)))
 rintro ⟨y55, A15, c16⟩ w52 ⟨hS53, hq54⟩
 subst hq54
 refine WX.next (WC.seq (WC.region ?_))
 refine seg 3 [] [4, 5] [(4, (sv A15 x17 c16)), (5, (iv 0))] [] (fun fb => by kernel_rfl) rfl trivial ?_
 refine WL.done rfl (WX.next ?_)
 refine WC.ret ?_
 injection hf with hf
 subst hf
 exact WX.ret_ [] (.tuple #[(sv A15 x17 c16), (iv 0)]) [] (fun fb => by kernel_rfl) trivial ⟨_, rfl, A15, c16, rfl, (hS53.sub [0] (by decide)).noR⟩
theorem tile_Mirror_calls (k : Nat) (p0 : List Tile) (Aa : Option Addr) (ca : Nat) (r : (List Tile) × Int) (w : World) (hR0 : RO NoS w (rowR enc_Tile Aa ca p0)) (hf : tile_Mirror k p0 = some r) :
  CallsR Tryd.prog 11 #[(sv Aa p0 ca)] w (fun v w' => ∃ (A1_ : Option Addr), ∃ (c1_ : Nat), v = (.tuple #[(sv A1_ r.1 c1_), (iv r.2)]) ∧ St NoS w w' [] [rowO 50 enc_Tile A1_ c1_ r.1]) := by
 have hS : St NoS w w [rowR enc_Tile Aa ca p0] [] := St.init (ro_cons hR0 (ro_nil _ _))
 refine enter 8 Tryd.func11 rfl Tryd.ntmps11 rfl ?_
 unfold tile_Mirror at hf
 refine WC.seq (WC.region ?_)
 refine seg 2 [] [0] [(0, (sv Aa p0 ca))] [] (fun fb => by kernel_rfl) rfl trivial ?_
 refine WL.done rfl (WX.next (WC.seq (WC.region ?_)))
 refine seg 1 [] [4] [(4, (sv Aa p0 ca))] [] (fun fb => by kernel_rfl) rfl trivial ?_
 obtain ⟨t3, ht4, hf⟩ := bind_some hf
 refine WL.call (some 5) 26 #[(sv Aa p0 ca), (iv 0)] (fun fb => by kernel_rfl) (tile_changed_at0_calls _ p0 Aa ca t3 _ (hS.rd 0) ht4) (fun v w5 hR6 => ?_)
 obtain ⟨A8, c9, rfl, hk_⟩ := hR6
 have hS7 := hS.go w5 [rowO 50 enc_Tile A8 c9 t3.1] (hS.call hk_ [] [] (fun g hg => hg.elim) (by simp) (by decide))
 refine ⟨trivial, ?_⟩
 refine seg 6 [] [2, 3] [(2, (sv A8 t3.1 c9)), (3, (iv t3.2))] [] (fun fb => by kernel_rfl) rfl trivial ?_
 refine WL.done rfl (WX.next ?_)
 refine WC.ret ?_
 injection hf with hf
 subst hf
 exact WX.ret_ [] (.tuple #[(sv A8 t3.1 c9), (iv t3.2)]) [] (fun fb => by kernel_rfl) trivial ⟨_, rfl, A8, c9, rfl, (hS7.sub [0] (by decide)).noR⟩
theorem tile_changes_3_calls (p0 : Tile)  (r : Tile) (w : World)  (hf : tile_changes_3 p0 = some r) :
  CallsR Tryd.prog 58 #[(.agg #[(iv p0.N), (iv p0.E), (iv p0.S), (iv p0.W)])] w (fun v w' => v = (.agg #[(iv r.N), (iv r.E), (iv r.S), (iv r.W)]) ∧ Keeps NoS w w') := by
 have hS : St NoS w w [] [] := St.init (ro_nil _ _)
 refine enter 12 Tryd.func58 rfl Tryd.ntmps58 rfl ?_
 unfold tile_changes_3 at hf
 refine WC.seq (WC.region ?_)
 refine WL.new hS 1 [] (fun g => (pt g)) (.cells #[(iv p0.N), (iv p0.E), (iv p0.S), (iv p0.W)] 50 (0, 0)) [] (fun fb g => by kernel_rfl) trivial (fun g1 w2 hS4 => ?_)
 refine ⟨trivial, ?_⟩
 refine WL.new hS4 2 [] (fun g => (pt g)) (.cells #[(iv 0), (iv 0), (iv 0), (iv 0)] 50 (0, 0)) [] (fun fb g => by kernel_rfl) trivial (fun g5 w6 hS7 => ?_)
 refine ⟨trivial, ?_⟩
 refine WL.done rfl (WX.next (WC.seq (WC.region ?_)))
 refine seg 9 [.v (iv p0.S), .v (iv p0.E), .v (iv p0.N), .v (iv p0.W)] [2, 11] [(2, (pt g5)), (11, (.agg #[(iv p0.S), (iv p0.E), (iv p0.N), (iv p0.W)]))] [.cell ⟨g1, 2, none⟩ (iv p0.S), .cell ⟨g1, 1, none⟩ (iv p0.E), .cell ⟨g1, 0, none⟩ (iv p0.N), .cell ⟨g1, 3, none⟩ (iv p0.W)] (fun fb => by kernel_rfl) rfl ⟨hS7.cell 1 rfl 2 rfl, hS7.cell 1 rfl 1 rfl, hS7.cell 1 rfl 0 rfl, hS7.cell 1 rfl 3 rfl, trivial⟩ ?_
 refine WL.store hS7 0 rfl [(0, (iv p0.S)), (1, (iv p0.E)), (2, (iv p0.N)), (3, (iv p0.W))] #[(iv p0.S), (iv p0.E), (iv p0.N), (iv p0.W)] (fun fb => by kernel_rfl) (by kernel_rfl) rfl [1] (by decide) (by decide) (fun w8 hS9 => ?_)
 refine ⟨trivial, ?_⟩
 refine WL.done rfl (WX.next ?_)
 refine WC.ret ?_
 injection hf with hf
 subst hf
 exact WX.ret_ [.v (iv p0.S), .v (iv p0.E), .v (iv p0.N), .v (iv p0.W)] (.agg #[(iv p0.S), (iv p0.E), (iv p0.N), (iv p0.W)]) [.cell ⟨g5, 0, none⟩ (iv p0.S), .cell ⟨g5, 1, none⟩ (iv p0.E), .cell ⟨g5, 2, none⟩ (iv p0.N), .cell ⟨g5, 3, none⟩ (iv p0.W)] (fun fb => by kernel_rfl) ⟨hS9.cell 0 rfl 0 rfl, hS9.cell 0 rfl 1 rfl, hS9.cell 0 rfl 2 rfl, hS9.cell 0 rfl 3 rfl, trivial⟩ ⟨_, rfl, rfl, hS9.keep⟩
theorem tile_changed_at1_calls (k : Nat) (p0 : List Tile) (Aa : Option Addr) (ca : Nat) (r : (List Tile) × Int) (w : World) (hR0 : RO NoS w (rowR enc_Tile Aa ca p0)) (hf : tile_changed_at1 k p0 = some r) :
  CallsR Tryd.prog 26 #[(sv Aa p0 ca), (iv 1)] w (fun v w' => ∃ (A1_ : Option Addr), ∃ (c1_ : Nat), v = (.tuple #[(sv A1_ r.1 c1_), (iv r.2)]) ∧ St NoS w w' [] [rowO 50 enc_Tile A1_ c1_ r.1]) := by
 have hS : St NoS w w [rowR enc_Tile Aa ca p0] [] := St.init (ro_cons hR0 (ro_nil _ _))
 refine enter 29 Tryd.func26 rfl Tryd.ntmps26 rfl ?_
 unfold tile_changed_at1 at hf
 refine WC.seq (WC.region ?_)
 refine seg 2 [] [0, 1] [(0, (sv Aa p0 ca)), (1, (iv 1))] [] (fun fb => by kernel_rfl) rfl trivial ?_
 refine WL.done rfl (WX.next (WC.seq (WC.seq (WC.region ?_))))
 refine seg 1 [] [0, 1, 9] [(0, (sv Aa p0 ca)), (1, (iv 1)), (9, (sv Aa p0 ca))] [] (fun fb => by kernel_rfl) rfl trivial ?_
 obtain ⟨t4, ht5, hf⟩ := bind_some hf
 refine WL.call (some 10) 14 #[(sv Aa p0 ca)] (fun fb => by kernel_rfl) (tile_Valid_calls _ p0 Aa ca t4 _ (hS.rd 0) ht5) (fun v w6 hR7 => ?_)
 obtain ⟨rfl, hk_⟩ := hR7
 have hS8 := hS.keepN hk_
 refine ⟨trivial, ?_⟩
 refine seg 3 [] [0, 1, 11] [(0, (sv Aa p0 ca)), (1, (iv 1)), (11, (bv (!t4)))] [] (fun fb => by kernel_rfl) rfl trivial ?_
 refine WL.done rfl (WX.next ?_)
 rcases br_some hf with ⟨h9, hf⟩ | ⟨h9, hf⟩
 ·refine WC.condT2 (fun fb => by kernel_rfl) h9 ?_
  refine WC.seq (WC.region ?_)
  refine seg 2 [] [4, 5] [(4, (.slice none 0 0)), (5, (iv 1))] [] (fun fb => by kernel_rfl) rfl trivial ?_
  refine WL.done rfl (WX.next ?_)
  refine WC.ret ?_
  have hS10 := hS8.nilrow 50 enc_Tile
  injection hf with hf
  subst hf
  exact WX.thenR (WX.ret_ [] (.tuple #[(sv none ([] : List Tile) 0), (iv 1)]) [] (fun fb => by kernel_rfl) trivial ⟨_, rfl, none, 0, rfl, (hS10.sub [0] (by decide)).noR⟩)
 refine WC.condF2 (fun fb => by kernel_rfl) h9 ?_
 refine WC.skip (WX.next (WC.seq (WC.region ?_)))
 refine seg 1 [] [0, 1, 6] [(0, (sv Aa p0 ca)), (1, (iv 1)), (6, (.slice none 0 0))] [] (fun fb => by kernel_rfl) rfl trivial ?_
 refine WL.done rfl (WX.next (WC.seq (WC.seq (WC.region ?_))))
 refine seg 3 [] [1, 6, 12, 13, 14] [(1, (iv 1)), (6, (.slice none 0 0)), (12, (sv Aa p0 ca)), (13, (iv (p0.length : Int))), (14, (iv 0))] [] (fun fb => by kernel_rfl) rfl trivial ?_
 refine WL.done rfl (WX.next ?_)
 have hS11 := hS8.nilrow 50 enc_Tile
 obtain ⟨x18, hx19, hf⟩ := bind_some hf
 refine WC.cutN (T := (List Tile) × (Option Addr) × Nat) (fun t => [(6, (sv t.2.1 t.1 t.2.2))]) (fun t w1 => St NoS w w1 [rowR enc_Tile Aa ca p0] [rowO 50 enc_Tile t.2.1 t.2.2 t.1] ∧ x18 = t.1) (fun Kx18 => ?_) ?_
 ·
  refine WC.block ?_
  refine WC.loop (T := ((List Tile) × Int) × (Option Addr) × Nat) (fun t => [(1, (iv 1)), (6, (sv t.2.1 t.1.1 t.2.2)), (12, (sv Aa p0 ca)), (13, (iv (p0.length : Int))), (14, (iv t.1.2))]) (fun n t w1 => St NoS w w1 [rowR enc_Tile Aa ca p0] [rowO 50 enc_Tile t.2.1 t.2.2 t.1.1] ∧ tile_changed_at1.l0 n t.1.1 t.1.2 p0 = some x18) k ((([] : List Tile), 0), none, 0) [1, 6, 12, 13, 14] rfl ⟨(hS11.subR [0]).sub [0] (by decide), hx19⟩ ?_
  rintro k20 ⟨⟨l14, x15⟩, A12, c13⟩ w21 ⟨hS22, hl23⟩
  cases k20 with
  | zero => rw [tile_changed_at1.l0] at hl23; cases hl23
  | succ k20 =>
   rw [tile_changed_at1.l0] at hl23
   refine WC.seq (WC.region ?_)
   refine seg 1 [] [1, 6, 12, 13, 14, 15] [(1, (iv 1)), (6, (sv A12 l14 c13)), (12, (sv Aa p0 ca)), (13, (iv (p0.length : Int))), (14, (iv x15)), (15, (bv (decide (x15 < (p0.length : Int)))))] [] (fun fb => by kernel_rfl) rfl trivial ?_
   refine WL.done rfl (WX.next (WC.seq ?_))
   rcases br_some hl23 with ⟨h24, hl23⟩ | ⟨h24, hl23⟩
   ·refine WC.condT2 (fun fb => by kernel_rfl) h24 ?_
    refine WC.skip (WX.next (WC.seq (WC.block (WC.seq (WC.region ?_)))))
    obtain ⟨h25, hl23⟩ := as_some hl23
    refine seg 2 [.v (iv ((rdD p0 x15 z_Tile).N)), .v (iv ((rdD p0 x15 z_Tile).E)), .v (iv ((rdD p0 x15 z_Tile).S)), .v (iv ((rdD p0 x15 z_Tile).W))] [1, 6, 12, 13, 14, 17] [(1, (iv 1)), (6, (sv A12 l14 c13)), (12, (sv Aa p0 ca)), (13, (iv (p0.length : Int))), (14, (iv x15)), (17, (.agg #[(iv ((rdD p0 x15 z_Tile).N)), (iv ((rdD p0 x15 z_Tile).E)), (iv ((rdD p0 x15 z_Tile).S)), (iv ((rdD p0 x15 z_Tile).W))]))] [.idx Aa x15 p0.length, .cell ((adr Aa).add ((x15).toNat * 4)) (iv ((rdD p0 x15 z_Tile).N)), .cell (((adr Aa).add ((x15).toNat * 4)).add 1) (iv ((rdD p0 x15 z_Tile).E)), .cell (((adr Aa).add ((x15).toNat * 4)).add 2) (iv ((rdD p0 x15 z_Tile).S)), .cell (((adr Aa).add ((x15).toNat * 4)).add 3) (iv ((rdD p0 x15 z_Tile).W))] (fun fb => by kernel_rfl) rfl ⟨rowR.adr (hS22.rd 0).1 h25.1 h25.2, rowR.cell (hS22.rd 0).1 z_Tile h25.1 h25.2 0 rfl, rowR.cell (hS22.rd 0).1 z_Tile h25.1 h25.2 1 rfl, rowR.cell (hS22.rd 0).1 z_Tile h25.1 h25.2 2 rfl, rowR.cell (hS22.rd 0).1 z_Tile h25.1 h25.2 3 rfl, trivial⟩ ?_
    refine WL.new hS22 8 [] (fun g => (pt g)) (.cells #[(iv 0), (iv 0), (iv 0), (iv 0)] 50 (0, 0)) [] (fun fb g => by kernel_rfl) trivial (fun g27 w28 hS29 => ?_)
    refine ⟨trivial, ?_⟩
    refine WL.store hS29 0 rfl [(0, (iv ((rdD p0 x15 z_Tile).N))), (1, (iv ((rdD p0 x15 z_Tile).E))), (2, (iv ((rdD p0 x15 z_Tile).S))), (3, (iv ((rdD p0 x15 z_Tile).W)))] #[(iv ((rdD p0 x15 z_Tile).N)), (iv ((rdD p0 x15 z_Tile).E)), (iv ((rdD p0 x15 z_Tile).S)), (iv ((rdD p0 x15 z_Tile).W))] (fun fb => by kernel_rfl) (by kernel_rfl) rfl [1] (by decide) (by decide) (fun w30 hS31 => ?_)
    refine ⟨trivial, ?_⟩
    refine WL.done rfl (WX.next ?_)
    refine WC.regionD ([(5, ⟨g27, 0, none⟩, (iv ((rdD p0 x15 z_Tile).N))), (5, ⟨g27, 1, none⟩, (iv ((rdD p0 x15 z_Tile).E))), (5, ⟨g27, 2, none⟩, (iv ((rdD p0 x15 z_Tile).S))), (5, ⟨g27, 3, none⟩, (iv ((rdD p0 x15 z_Tile).W)))], [0, 2, 3, 4, 5, 9], [[], [], [], [1, 2], [1, 2, 3], [], [1, 2, 3, 4, 5], [1, 2, 3, 4, 5, 6], [0, 1, 2, 3, 4, 5, 6, 7], [0, 1, 2, 3, 4, 5, 6, 7, 8]]) [[0, 2, 5, 1, 3, 4, 6, 7, 8, 9]] (by kernel_rfl) (by kernel_rfl) (NoPanic.block (NoPanic.seq (NoPanic.seq (NoPanic.block (NoPanic.seq (NoPanic.body)))))) ?_
    have hS33 := hS31.drew
    revert hS33
    generalize World.drew w30 = w32
    intro hS33
    refine ⟨⟨hS33.cell 0 rfl 0 rfl, hS33.cell 0 rfl 1 rfl, hS33.cell 0 rfl 2 rfl, hS33.cell 0 rfl 3 rfl, trivial⟩, forallC ?_ (forallN)⟩
    refine segF 3 [.v (iv ((rdD p0 x15 z_Tile).N)), .v (iv ((rdD p0 x15 z_Tile).E)), .v (iv ((rdD p0 x15 z_Tile).S)), .v (iv ((rdD p0 x15 z_Tile).W))] [1, 12, 13, 14, 18, 20, 23] [(1, (iv 1)), (12, (sv Aa p0 ca)), (13, (iv (p0.length : Int))), (14, (iv x15)), (18, (sv A12 l14 c13)), (20, (iv 1)), (23, (.agg #[(iv ((rdD p0 x15 z_Tile).N)), (iv ((rdD p0 x15 z_Tile).E)), (iv ((rdD p0 x15 z_Tile).S)), (iv ((rdD p0 x15 z_Tile).W))]))] [] [0, 1, 2, 3] [(5, ⟨g27, 0, none⟩, (iv ((rdD p0 x15 z_Tile).N))), (5, ⟨g27, 1, none⟩, (iv ((rdD p0 x15 z_Tile).E))), (5, ⟨g27, 2, none⟩, (iv ((rdD p0 x15 z_Tile).S))), (5, ⟨g27, 3, none⟩, (iv ((rdD p0 x15 z_Tile).W)))] (fun fb => by kernel_rfl) rfl trivial rfl ?_
    obtain ⟨t34, ht35, hl23⟩ := bind_some hl23
    refine WL.call (some 19) 38 #[] (fun fb => by kernel_rfl) (tile_changes_calls t34 _ ht35) (fun v w36 hR37 => ?_)
    obtain ⟨rfl, hk_⟩ := hR37
    have hS38 := hS33.keepN hk_
    refine ⟨⟨hS38.cell 0 rfl 0 rfl, hS38.cell 0 rfl 1 rfl, hS38.cell 0 rfl 2 rfl, hS38.cell 0 rfl 3 rfl, trivial⟩, ?_⟩
    refine seg 6 [] [1, 12, 13, 14, 18, 22, 23] [(1, (iv 1)), (12, (sv Aa p0 ca)), (13, (iv (p0.length : Int))), (14, (iv x15)), (18, (sv A12 l14 c13)), (22, (.func (.func 58) #[] #[])), (23, (.agg #[(iv ((rdD p0 x15 z_Tile).N)), (iv ((rdD p0 x15 z_Tile).E)), (iv ((rdD p0 x15 z_Tile).S)), (iv ((rdD p0 x15 z_Tile).W))]))] [] (fun fb => by kernel_rfl) rfl trivial ?_
    obtain ⟨t39, ht40, hl23⟩ := bind_some hl23
    refine WL.call (some 24) 58 #[(.agg #[(iv ((rdD p0 x15 z_Tile).N)), (iv ((rdD p0 x15 z_Tile).E)), (iv ((rdD p0 x15 z_Tile).S)), (iv ((rdD p0 x15 z_Tile).W))])] (fun fb => by kernel_rfl) (tile_changes_3_calls (rdD p0 x15 z_Tile) t39 _ ht40) (fun v w41 hR42 => ?_)
    obtain ⟨rfl, hk_⟩ := hR42
    have hS43 := hS38.keepN hk_
    refine ⟨trivial, ?_⟩
    refine WL.new hS43 25 [] (fun g => (.slice (some ⟨g, 0, none⟩) 1 1)) (.cells #[(iv t39.N), (iv t39.E), (iv t39.S), (iv t39.W)] 50 (0, 0)) [] (fun fb g => by kernel_rfl) trivial (fun g44 w45 hS46 => ?_)
    refine ⟨trivial, ?_⟩
    have hS47 := hS.go w45 [rowO 50 enc_Tile (some ⟨g44, 0, none⟩) 1 [t39], blk g27 (.cells #[(iv ((rdD p0 x15 z_Tile).N)), (iv ((rdD p0 x15 z_Tile).E)), (iv ((rdD p0 x15 z_Tile).S)), (iv ((rdD p0 x15 z_Tile).W))] 50 (0, 0)), rowO 50 enc_Tile A12 c13 l14] (hS46.map1 0 _ (fun h => rowO.ofBlk h rfl (Nat.le_of_ble_eq_true (by kernel_rfl))) (fun _ h => by obtain ⟨_, h1, h2⟩ := h; injection h1 with h1; subst h1; exact h2) [1, 2] (by decide) (by decide))
    obtain ⟨h48, hl23⟩ := as_some hl23
    refine WL.append hS47 2 (d := 26) (tS := 23) (z := (.agg #[(iv 0), (iv 0), (iv 0), (iv 0)])) (bytes := 32) (c2 := 1) rfl (fun fb => by kernel_rfl) (rowO.rd (hS47.own 0).1) (by kernel_rfl) (by kernel_rfl) rfl (by decide) h48 (by decide) [0, 1] (by decide) (by decide) (fun A49 c50 w51 hS52 => ?_)
    refine ⟨trivial, ?_⟩
    refine seg 10 [] [1, 6, 12, 13, 14] [(1, (iv 1)), (6, (sv A49 (l14 ++ [t39]) c50)), (12, (sv Aa p0 ca)), (13, (iv (p0.length : Int))), (14, (iv x15))] [] (fun fb => by kernel_rfl) rfl trivial ?_
    refine WL.done rfl ?_
    refine WX.blockN (WX.next ?_)
    refine WC.region ?_
    refine seg 2 [] [1, 6, 12, 13, 14] [(1, (iv 1)), (6, (sv A49 (l14 ++ [t39]) c50)), (12, (sv Aa p0 ca)), (13, (iv (p0.length : Int))), (14, (iv (w64 (x15 + 1))))] [] (fun fb => by kernel_rfl) rfl trivial ?_
    refine WL.done rfl ?_
    exact WX.again k20 (Nat.lt_succ_self _) ((l14 ++ [t39], w64 (x15 + 1)), A49, c50) [1, 6, 12, 13, 14] rfl ⟨(hS52.subR [0]).sub [0] (by decide), hl23⟩
   refine WC.condF2 (fun fb => by kernel_rfl) h24 ?_
   refine WC.exit ?_
   injection hl23 with hl23
   exact WX.thenX (WX.thenX (WX.blockHere (WX.to Kx18 (l14, A12, c13) [6] rfl ⟨(hS22.subR [0]).sub [0] (by decide), hl23.symm⟩)))
 rintro ⟨y56, A16, c17⟩ w53 ⟨hS54, hq55⟩
 subst hq55
 refine WX.next (WC.seq (WC.region ?_))
 refine seg 3 [] [4, 5] [(4, (sv A16 x18 c17)), (5, (iv 0))] [] (fun fb => by kernel_rfl) rfl trivial ?_
 refine WL.done rfl (WX.next ?_)
 refine WC.ret ?_
 injection hf with hf
 subst hf
 exact WX.ret_ [] (.tuple #[(sv A16 x18 c17), (iv 0)]) [] (fun fb => by kernel_rfl) trivial ⟨_, rfl, A16, c17, rfl, (hS54.sub [0] (by decide)).noR⟩
theorem tile_Upturn_calls (k : Nat) (p0 : List Tile) (Aa : Option Addr) (ca : Nat) (r : (List Tile) × Int) (w : World) (hR0 : RO NoS w (rowR enc_Tile Aa ca p0)) (hf : tile_Upturn k p0 = some r) :
  CallsR Tryd.prog 12 #[(sv Aa p0 ca)] w (fun v w' => ∃ (A1_ : Option Addr), ∃ (c1_ : Nat), v = (.tuple #[(sv A1_ r.1 c1_), (iv r.2)]) ∧ St NoS w w' [] [rowO 50 enc_Tile A1_ c1_ r.1]) := by
 have hS : St NoS w w [rowR enc_Tile Aa ca p0] [] := St.init (ro_cons hR0 (ro_nil _ _))
 refine enter 8 Tryd.func12 rfl Tryd.ntmps12 rfl ?_
 unfold tile_Upturn at hf
 refine WC.seq (WC.region ?_)
 refine seg 2 [] [0] [(0, (sv Aa p0 ca))] [] (fun fb => by kernel_rfl) rfl trivial ?_
 refine WL.done rfl (WX.next (WC.seq (WC.region ?_)))
 refine seg 1 [] [4] [(4, (sv Aa p0 ca))] [] (fun fb => by kernel_rfl) rfl trivial ?_
 obtain ⟨t3, ht4, hf⟩ := bind_some hf
 refine WL.call (some 5) 26 #[(sv Aa p0 ca), (iv 1)] (fun fb => by kernel_rfl) (tile_changed_at1_calls _ p0 Aa ca t3 _ (hS.rd 0) ht4) (fun v w5 hR6 => ?_)
 obtain ⟨A8, c9, rfl, hk_⟩ := hR6
 have hS7 := hS.go w5 [rowO 50 enc_Tile A8 c9 t3.1] (hS.call hk_ [] [] (fun g hg => hg.elim) (by simp) (by decide))
 refine ⟨trivial, ?_⟩
 refine seg 6 [] [2, 3] [(2, (sv A8 t3.1 c9)), (3, (iv t3.2))] [] (fun fb => by kernel_rfl) rfl trivial ?_
 refine WL.done rfl (WX.next ?_)
 refine WC.ret ?_
 injection hf with hf
 subst hf
 exact WX.ret_ [] (.tuple #[(sv A8 t3.1 c9), (iv t3.2)]) [] (fun fb => by kernel_rfl) trivial ⟨_, rfl, A8, c9, rfl, (hS7.sub [0] (by decide)).noR⟩
theorem tile_changes_5_calls (p0 : Tile)  (r : Tile) (w : World)  (hf : tile_changes_5 p0 = some r) :
  CallsR Tryd.prog 60 #[(.agg #[(iv p0.N), (iv p0.E), (iv p0.S), (iv p0.W)])] w (fun v w' => v = (.agg #[(iv r.N), (iv r.E), (iv r.S), (iv r.W)]) ∧ Keeps NoS w w') := by
 have hS : St NoS w w [] [] := St.init (ro_nil _ _)
 refine enter 12 Tryd.func60 rfl Tryd.ntmps60 rfl ?_
 unfold tile_changes_5 at hf
 refine WC.seq (WC.region ?_)
 refine WL.new hS 1 [] (fun g => (pt g)) (.cells #[(iv p0.N), (iv p0.E), (iv p0.S), (iv p0.W)] 50 (0, 0)) [] (fun fb g => by kernel_rfl) trivial (fun g1 w2 hS3 => ?_)
 refine ⟨trivial, ?_⟩
 refine WL.new hS3 2 [] (fun g => (pt g)) (.cells #[(iv 0), (iv 0), (iv 0), (iv 0)] 50 (0, 0)) [] (fun fb g => by kernel_rfl) trivial (fun g4 w6 hS7 => ?_)
 refine ⟨trivial, ?_⟩
 refine WL.done rfl (WX.next (WC.seq (WC.region ?_)))
 refine seg 9 [.v (iv p0.W), .v (iv p0.N), .v (iv p0.E), .v (iv p0.S)] [2, 11] [(2, (pt g4)), (11, (.agg #[(iv p0.W), (iv p0.N), (iv p0.E), (iv p0.S)]))] [.cell ⟨g1, 3, none⟩ (iv p0.W), .cell ⟨g1, 0, none⟩ (iv p0.N), .cell ⟨g1, 1, none⟩ (iv p0.E), .cell ⟨g1, 2, none⟩ (iv p0.S)] (fun fb => by kernel_rfl) rfl ⟨hS7.cell 1 rfl 3 rfl, hS7.cell 1 rfl 0 rfl, hS7.cell 1 rfl 1 rfl, hS7.cell 1 rfl 2 rfl, trivial⟩ ?_
 refine WL.store hS7 0 rfl [(0, (iv p0.W)), (1, (iv p0.N)), (2, (iv p0.E)), (3, (iv p0.S))] #[(iv p0.W), (iv p0.N), (iv p0.E), (iv p0.S)] (fun fb => by kernel_rfl) (by kernel_rfl) rfl [1] (by decide) (by decide) (fun w8 hS9 => ?_)
 refine ⟨trivial, ?_⟩
 refine WL.done rfl (WX.next ?_)
 refine WC.ret ?_
 injection hf with hf
 subst hf
 exact WX.ret_ [.v (iv p0.W), .v (iv p0.N), .v (iv p0.E), .v (iv p0.S)] (.agg #[(iv p0.W), (iv p0.N), (iv p0.E), (iv p0.S)]) [.cell ⟨g4, 0, none⟩ (iv p0.W), .cell ⟨g4, 1, none⟩ (iv p0.N), .cell ⟨g4, 2, none⟩ (iv p0.E), .cell ⟨g4, 3, none⟩ (iv p0.S)] (fun fb => by kernel_rfl) ⟨hS9.cell 0 rfl 0 rfl, hS9.cell 0 rfl 1 rfl, hS9.cell 0 rfl 2 rfl, hS9.cell 0 rfl 3 rfl, trivial⟩ ⟨_, rfl, rfl, hS9.keep⟩
theorem tile_changed_at2_calls (k : Nat) (p0 : List Tile) (Aa : Option Addr) (ca : Nat) (r : (List Tile) × Int) (w : World) (hR0 : RO NoS w (rowR enc_Tile Aa ca p0)) (hf : tile_changed_at2 k p0 = some r) :
  CallsR Tryd.prog 26 #[(sv Aa p0 ca), (iv 2)] w (fun v w' => ∃ (A1_ : Option Addr), ∃ (c1_ : Nat), v = (.tuple #[(sv A1_ r.1 c1_), (iv r.2)]) ∧ St NoS w w' [] [rowO 50 enc_Tile A1_ c1_ r.1]) := by
 have hS : St NoS w w [rowR enc_Tile Aa ca p0] [] := St.init (ro_cons hR0 (ro_nil _ _))
 refine enter 29 Tryd.func26 rfl Tryd.ntmps26 rfl ?_
 unfold tile_changed_at2 at hf
 refine WC.seq (WC.region ?_)
 refine seg 2 [] [0, 1] [(0, (sv Aa p0 ca)), (1, (iv 2))] [] (fun fb => by kernel_rfl) rfl trivial ?_
 refine WL.done rfl (WX.next (WC.seq (WC.seq (WC.region ?_))))
 refine seg 1 [] [0, 1, 9] [(0, (sv Aa p0 ca)), (1, (iv 2)), (9, (sv Aa p0 ca))] [] (fun fb => by kernel_rfl) rfl trivial ?_
 obtain ⟨t3, ht4, hf⟩ := bind_some hf
 refine WL.call (some 10) 14 #[(sv Aa p0 ca)] (fun fb => by kernel_rfl) (tile_Valid_calls _ p0 Aa ca t3 _ (hS.rd 0) ht4) (fun v w6 hR7 => ?_)
 obtain ⟨rfl, hk_⟩ := hR7
 have hS8 := hS.keepN hk_
 refine ⟨trivial, ?_⟩
 refine seg 3 [] [0, 1, 11] [(0, (sv Aa p0 ca)), (1, (iv 2)), (11, (bv (!t3)))] [] (fun fb => by kernel_rfl) rfl trivial ?_
 refine WL.done rfl (WX.next ?_)
 rcases br_some hf with ⟨h9, hf⟩ | ⟨h9, hf⟩
 ·refine WC.condT2 (fun fb => by kernel_rfl) h9 ?_
  refine WC.seq (WC.region ?_)
  refine seg 2 [] [4, 5] [(4, (.slice none 0 0)), (5, (iv 1))] [] (fun fb => by kernel_rfl) rfl trivial ?_
  refine WL.done rfl (WX.next ?_)
  refine WC.ret ?_
  have hS10 := hS8.nilrow 50 enc_Tile
  injection hf with hf
  subst hf
  exact WX.thenR (WX.ret_ [] (.tuple #[(sv none ([] : List Tile) 0), (iv 1)]) [] (fun fb => by kernel_rfl) trivial ⟨_, rfl, none, 0, rfl, (hS10.sub [0] (by decide)).noR⟩)
 refine WC.condF2 (fun fb => by kernel_rfl) h9 ?_
 refine WC.skip (WX.next (WC.seq (WC.region ?_)))
 refine seg 1 [] [0, 1, 6] [(0, (sv Aa p0 ca)), (1, (iv 2)), (6, (.slice none 0 0))] [] (fun fb => by kernel_rfl) rfl trivial ?_
 refine WL.done rfl (WX.next (WC.seq (WC.seq (WC.region ?_))))
 refine seg 3 [] [1, 6, 12, 13, 14] [(1, (iv 2)), (6, (.slice none 0 0)), (12, (sv Aa p0 ca)), (13, (iv (p0.length : Int))), (14, (iv 0))] [] (fun fb => by kernel_rfl) rfl trivial ?_
 refine WL.done rfl (WX.next ?_)
 have hS11 := hS8.nilrow 50 enc_Tile
 obtain ⟨x18, hx19, hf⟩ := bind_some hf
 refine WC.cutN (T := (List Tile) × (Option Addr) × Nat) (fun t => [(6, (sv t.2.1 t.1 t.2.2))]) (fun t w1 => St NoS w w1 [rowR enc_Tile Aa ca p0] [rowO 50 enc_Tile t.2.1 t.2.2 t.1] ∧ x18 = t.1) (fun Kx18 => ?_) ?_
 ·
  refine WC.block ?_
  refine WC.loop (T := ((List Tile) × Int) × (Option Addr) × Nat) (fun t => [(1, (iv 2)), (6, (sv t.2.1 t.1.1 t.2.2)), (12, (sv Aa p0 ca)), (13, (iv (p0.length : Int))), (14, (iv t.1.2))]) (fun n t w1 => St NoS w w1 [rowR enc_Tile Aa ca p0] [rowO 50 enc_Tile t.2.1 t.2.2 t.1.1] ∧ tile_changed_at2.l0 n t.1.1 t.1.2 p0 = some x18) k ((([] : List Tile), 0), none, 0) [1, 6, 12, 13, 14] rfl ⟨(hS11.subR [0]).sub [0] (by decide), hx19⟩ ?_
  rintro k20 ⟨⟨l14, x15⟩, A12, c13⟩ w21 ⟨hS22, hl23⟩
  cases k20 with
  | zero => rw [tile_changed_at2.l0] at hl23; cases hl23
  | succ k20 =>
   rw [tile_changed_at2.l0] at hl23
   refine WC.seq (WC.region ?_)
   refine seg 1 [] [1, 6, 12, 13, 14, 15] [(1, (iv 2)), (6, (sv A12 l14 c13)), (12, (sv Aa p0 ca)), (13, (iv (p0.length : Int))), (14, (iv x15)), (15, (bv (decide (x15 < (p0.length : Int)))))] [] (fun fb => by kernel_rfl) rfl trivial ?_
   refine WL.done rfl (WX.next (WC.seq ?_))
   rcases br_some hl23 with ⟨h24, hl23⟩ | ⟨h24, hl23⟩
   ·refine WC.condT2 (fun fb => by kernel_rfl) h24 ?_
    refine WC.skip (WX.next (WC.seq (WC.block (WC.seq (WC.region ?_)))))
    obtain ⟨h25, hl23⟩ := as_some hl23
    refine seg 2 [.v (iv ((rdD p0 x15 z_Tile).N)), .v (iv ((rdD p0 x15 z_Tile).E)), .v (iv ((rdD p0 x15 z_Tile).S)), .v (iv ((rdD p0 x15 z_Tile).W))] [1, 6, 12, 13, 14, 17] [(1, (iv 2)), (6, (sv A12 l14 c13)), (12, (sv Aa p0 ca)), (13, (iv (p0.length : Int))), (14, (iv x15)), (17, (.agg #[(iv ((rdD p0 x15 z_Tile).N)), (iv ((rdD p0 x15 z_Tile).E)), (iv ((rdD p0 x15 z_Tile).S)), (iv ((rdD p0 x15 z_Tile).W))]))] [.idx Aa x15 p0.length, .cell ((adr Aa).add ((x15).toNat * 4)) (iv ((rdD p0 x15 z_Tile).N)), .cell (((adr Aa).add ((x15).toNat * 4)).add 1) (iv ((rdD p0 x15 z_Tile).E)), .cell (((adr Aa).add ((x15).toNat * 4)).add 2) (iv ((rdD p0 x15 z_Tile).S)), .cell (((adr Aa).add ((x15).toNat * 4)).add 3) (iv ((rdD p0 x15 z_Tile).W))] (fun fb => by kernel_rfl) rfl ⟨rowR.adr (hS22.rd 0).1 h25.1 h25.2, rowR.cell (hS22.rd 0).1 z_Tile h25.1 h25.2 0 rfl, rowR.cell (hS22.rd 0).1 z_Tile h25.1 h25.2 1 rfl, rowR.cell (hS22.rd 0).1 z_Tile h25.1 h25.2 2 rfl, rowR.cell (hS22.rd 0).1 z_Tile h25.1 h25.2 3 rfl, trivial⟩ ?_
    refine WL.new hS22 8 [] (fun g => (pt g)) (.cells #[(iv 0), (iv 0), (iv 0), (iv 0)] 50 (0, 0)) [] (fun fb g => by kernel_rfl) trivial (fun g27 w28 hS29 => ?_)
    refine ⟨trivial, ?_⟩
    refine WL.store hS29 0 rfl [(0, (iv ((rdD p0 x15 z_Tile).N))), (1, (iv ((rdD p0 x15 z_Tile).E))), (2, (iv ((rdD p0 x15 z_Tile).S))), (3, (iv ((rdD p0 x15 z_Tile).W)))] #[(iv ((rdD p0 x15 z_Tile).N)), (iv ((rdD p0 x15 z_Tile).E)), (iv ((rdD p0 x15 z_Tile).S)), (iv ((rdD p0 x15 z_Tile).W))] (fun fb => by kernel_rfl) (by kernel_rfl) rfl [1] (by decide) (by decide) (fun w30 hS31 => ?_)
    refine ⟨trivial, ?_⟩
    refine WL.done rfl (WX.next ?_)
    refine WC.regionD ([(5, ⟨g27, 0, none⟩, (iv ((rdD p0 x15 z_Tile).N))), (5, ⟨g27, 1, none⟩, (iv ((rdD p0 x15 z_Tile).E))), (5, ⟨g27, 2, none⟩, (iv ((rdD p0 x15 z_Tile).S))), (5, ⟨g27, 3, none⟩, (iv ((rdD p0 x15 z_Tile).W)))], [0, 2, 3, 4, 5, 9], [[], [], [], [1, 2], [1, 2, 3], [], [1, 2, 3, 4, 5], [1, 2, 3, 4, 5, 6], [0, 1, 2, 3, 4, 5, 6, 7], [0, 1, 2, 3, 4, 5, 6, 7, 8]]) [[0, 2, 5, 1, 3, 4, 6, 7, 8, 9]] (by kernel_rfl) (by kernel_rfl) (NoPanic.block (NoPanic.seq (NoPanic.seq (NoPanic.block (NoPanic.seq (NoPanic.body)))))) ?_
    have hS33 := hS31.drew
    revert hS33
    generalize World.drew w30 = w32
    intro hS33
    refine ⟨⟨hS33.cell 0 rfl 0 rfl, hS33.cell 0 rfl 1 rfl, hS33.cell 0 rfl 2 rfl, hS33.cell 0 rfl 3 rfl, trivial⟩, forallC ?_ (forallN)⟩
    refine segF 3 [.v (iv ((rdD p0 x15 z_Tile).N)), .v (iv ((rdD p0 x15 z_Tile).E)), .v (iv ((rdD p0 x15 z_Tile).S)), .v (iv ((rdD p0 x15 z_Tile).W))] [1, 12, 13, 14, 18, 20, 23] [(1, (iv 2)), (12, (sv Aa p0 ca)), (13, (iv (p0.length : Int))), (14, (iv x15)), (18, (sv A12 l14 c13)), (20, (iv 2)), (23, (.agg #[(iv ((rdD p0 x15 z_Tile).N)), (iv ((rdD p0 x15 z_Tile).E)), (iv ((rdD p0 x15 z_Tile).S)), (iv ((rdD p0 x15 z_Tile).W))]))] [] [0, 1, 2, 3] [(5, ⟨g27, 0, none⟩, (iv ((rdD p0 x15 z_Tile).N))), (5, ⟨g27, 1, none⟩, (iv ((rdD p0 x15 z_Tile).E))), (5, ⟨g27, 2, none⟩, (iv ((rdD p0 x15 z_Tile).S))), (5, ⟨g27, 3, none⟩, (iv ((rdD p0 x15 z_Tile).W)))] (fun fb => by kernel_rfl) rfl trivial rfl ?_
    obtain ⟨t34, ht35, hl23⟩ := bind_some hl23
    refine WL.call (some 19) 38 #[] (fun fb => by kernel_rfl) (tile_changes_calls t34 _ ht35) (fun v w36 hR37 => ?_)
    obtain ⟨rfl, hk_⟩ := hR37
    have hS38 := hS33.keepN hk_
    refine ⟨⟨hS38.cell 0 rfl 0 rfl, hS38.cell 0 rfl 1 rfl, hS38.cell 0 rfl 2 rfl, hS38.cell 0 rfl 3 rfl, trivial⟩, ?_⟩
    refine seg 6 [] [1, 12, 13, 14, 18, 22, 23] [(1, (iv 2)), (12, (sv Aa p0 ca)), (13, (iv (p0.length : Int))), (14, (iv x15)), (18, (sv A12 l14 c13)), (22, (.func (.func 60) #[] #[])), (23, (.agg #[(iv ((rdD p0 x15 z_Tile).N)), (iv ((rdD p0 x15 z_Tile).E)), (iv ((rdD p0 x15 z_Tile).S)), (iv ((rdD p0 x15 z_Tile).W))]))] [] (fun fb => by kernel_rfl) rfl trivial ?_
    obtain ⟨t39, ht40, hl23⟩ := bind_some hl23
    refine WL.call (some 24) 60 #[(.agg #[(iv ((rdD p0 x15 z_Tile).N)), (iv ((rdD p0 x15 z_Tile).E)), (iv ((rdD p0 x15 z_Tile).S)), (iv ((rdD p0 x15 z_Tile).W))])] (fun fb => by kernel_rfl) (tile_changes_5_calls (rdD p0 x15 z_Tile) t39 _ ht40) (fun v w41 hR42 => ?_)
    obtain ⟨rfl, hk_⟩ := hR42
    have hS43 := hS38.keepN hk_
    refine ⟨trivial, ?_⟩
    refine WL.new hS43 25 [] (fun g => (.slice (some ⟨g, 0, none⟩) 1 1)) (.cells #[(iv t39.N), (iv t39.E), (iv t39.S), (iv t39.W)] 50 (0, 0)) [] (fun fb g => by kernel_rfl) trivial (fun g44 w45 hS46 => ?_)
    refine ⟨trivial, ?_⟩
    have hS47 := hS.go w45 [rowO 50 enc_Tile (some ⟨g44, 0, none⟩) 1 [t39], blk g27 (.cells #[(iv ((rdD p0 x15 z_Tile).N)), (iv ((rdD p0 x15 z_Tile).E)), (iv ((rdD p0 x15 z_Tile).S)), (iv ((rdD p0 x15 z_Tile).W))] 50 (0, 0)), rowO 50 enc_Tile A12 c13 l14] (hS46.map1 0 _ (fun h => rowO.ofBlk h rfl (Nat.le_of_ble_eq_true (by kernel_rfl))) (fun _ h => by obtain ⟨_, h1, h2⟩ := h; injection h1 with h1; subst h1; exact h2) [1, 2] (by decide) (by decide))
    obtain ⟨h48, hl23⟩ := as_some hl23
    refine WL.append hS47 2 (d := 26) (tS := 23) (z := (.agg #[(iv 0), (iv 0), (iv 0), (iv 0)])) (bytes := 32) (c2 := 1) rfl (fun fb => by kernel_rfl) (rowO.rd (hS47.own 0).1) (by kernel_rfl) (by kernel_rfl) rfl (by decide) h48 (by decide) [0, 1] (by decide) (by decide) (fun A49 c50 w51 hS52 => ?_)
    refine ⟨trivial, ?_⟩
    refine seg 10 [] [1, 6, 12, 13, 14] [(1, (iv 2)), (6, (sv A49 (l14 ++ [t39]) c50)), (12, (sv Aa p0 ca)), (13, (iv (p0.length : Int))), (14, (iv x15))] [] (fun fb => by kernel_rfl) rfl trivial ?_
    refine WL.done rfl ?_
    refine WX.blockN (WX.next ?_)
    refine WC.region ?_
    refine seg 2 [] [1, 6, 12, 13, 14] [(1, (iv 2)), (6, (sv A49 (l14 ++ [t39]) c50)), (12, (sv Aa p0 ca)), (13, (iv (p0.length : Int))), (14, (iv (w64 (x15 + 1))))] [] (fun fb => by kernel_rfl) rfl trivial ?_
    refine WL.done rfl ?_
    exact WX.again k20 (Nat.lt_succ_self _) ((l14 ++ [t39], w64 (x15 + 1)), A49, c50) [1, 6, 12, 13, 14] rfl ⟨(hS52.subR [0]).sub [0] (by decide), hl23⟩
   refine WC.condF2 (fun fb => by kernel_rfl) h24 ?_
   refine WC.exit ?_
   injection hl23 with hl23
   exact WX.thenX (WX.thenX (WX.blockHere (WX.to Kx18 (l14, A12, c13) [6] rfl ⟨(hS22.subR [0]).sub [0] (by decide), hl23.symm⟩)))
 rintro ⟨y56, A16, c17⟩ w53 ⟨hS54, hq55⟩
 subst hq55
 refine WX.next (WC.seq (WC.region ?_))
 refine seg 3 [] [4, 5] [(4, (sv A16 x18 c17)), (5, (iv 0))] [] (fun fb => by kernel_rfl) rfl trivial ?_
 refine WL.done rfl (WX.next ?_)
 refine WC.ret ?_
 injection hf with hf
 subst hf
 exact WX.ret_ [] (.tuple #[(sv A16 x18 c17), (iv 0)]) [] (fun fb => by kernel_rfl) trivial ⟨_, rfl, A16, c17, rfl, (hS54.sub [0] (by decide)).noR⟩
theorem tile_Turn_calls (k : Nat) (p0 : List Tile) (Aa : Option Addr) (ca : Nat) (r : (List Tile) × Int) (w : World) (hR0 : RO NoS w (rowR enc_Tile Aa ca p0)) (hf : tile_Turn k p0 = some r) :
  CallsR Tryd.prog 13 #[(sv Aa p0 ca)] w (fun v w' => ∃ (A1_ : Option Addr), ∃ (c1_ : Nat), v = (.tuple #[(sv A1_ r.1 c1_), (iv r.2)]) ∧ St NoS w w' [] [rowO 50 enc_Tile A1_ c1_ r.1]) := by
 have hS : St NoS w w [rowR enc_Tile Aa ca p0] [] := St.init (ro_cons hR0 (ro_nil _ _))
 refine enter 8 Tryd.func13 rfl Tryd.ntmps13 rfl ?_
 unfold tile_Turn at hf
 refine WC.seq (WC.region ?_)
 refine seg 2 [] [0] [(0, (sv Aa p0 ca))] [] (fun fb => by kernel_rfl) rfl trivial ?_
 refine WL.done rfl (WX.next (WC.seq (WC.region ?_)))
 refine seg 1 [] [4] [(4, (sv Aa p0 ca))] [] (fun fb => by kernel_rfl) rfl trivial ?_
 obtain ⟨t3, ht4, hf⟩ := bind_some hf
 refine WL.call (some 5) 26 #[(sv Aa p0 ca), (iv 2)] (fun fb => by kernel_rfl) (tile_changed_at2_calls _ p0 Aa ca t3 _ (hS.rd 0) ht4) (fun v w5 hR6 => ?_)
 obtain ⟨A8, c9, rfl, hk_⟩ := hR6
 have hS7 := hS.go w5 [rowO 50 enc_Tile A8 c9 t3.1] (hS.call hk_ [] [] (fun g hg => hg.elim) (by simp) (by decide))
 refine ⟨trivial, ?_⟩
 refine seg 6 [] [2, 3] [(2, (sv A8 t3.1 c9)), (3, (iv t3.2))] [] (fun fb => by kernel_rfl) rfl trivial ?_
 refine WL.done rfl (WX.next ?_)
 refine WC.ret ?_
 injection hf with hf
 subst hf
 exact WX.ret_ [] (.tuple #[(sv A8 t3.1 c9), (iv t3.2)]) [] (fun fb => by kernel_rfl) trivial ⟨_, rfl, A8, c9, rfl, (hS7.sub [0] (by decide)).noR⟩
theorem ref01_colour_calls (p0 : Int)  (r : Bool) (w : World)  (hf : ref01_colour p0 = some r) :
  CallsR Tryd.prog 28 #[(iv p0)] w (fun v w' => v = (bv r) ∧ Keeps NoS w w') := by
 have hS : St NoS w w [] [] := St.init (ro_nil _ _)
 refine enter 9 Tryd.func28 rfl Tryd.ntmps28 rfl ?_
 unfold ref01_colour at hf
 refine WC.seq (WC.region ?_)
 refine seg 1 [] [0] [(0, (iv p0))] [] (fun fb => by kernel_rfl) rfl trivial ?_
 refine WL.done rfl (WX.next (WC.seq (WC.region ?_)))
 refine seg 3 [] [0, 5] [(0, (iv p0)), (5, (bv (decide (p0 ≥ 0))))] [] (fun fb => by kernel_rfl) rfl trivial ?_
 refine WL.cutV (T := Bool) 6 (fun t => [(8, (bv t))]) (fun t => ((decide (p0 ≥ 0)) && (decide (p0 < 1000))) = t) (fun K => ?_) ?_
 ·
  rcases Bool.eq_false_or_eq_true (decide (p0 ≥ 0)) with h2 | h2
  ·
   refine WL.setB 5 h2 rfl ?_
   refine seg 6 [] [8] [(8, (bv (decide (p0 < 1000))))] [] (fun fb => by kernel_rfl) rfl trivial ?_
   exact WL.toV K (decide (p0 < 1000)) [8] rfl (by first | (rw [h2]; done) | (rw [h2]; rfl))
  refine WL.setB 5 h2 rfl ?_
  refine seg 6 [] [8] [(8, (bv false))] [] (fun fb => by kernel_rfl) rfl trivial ?_
  exact WL.toV K false [8] rfl (by first | (rw [h2]; done) | (rw [h2]; rfl))
 rintro b3 rfl
 refine seg 7 [] [2] [(2, (bv ((decide (p0 ≥ 0)) && (decide (p0 < 1000)))))] [] (fun fb => by kernel_rfl) rfl trivial ?_
 refine WL.done rfl (WX.next ?_)
 refine WC.ret ?_
 injection hf with hf
 subst hf
 exact WX.ret_ [] (bv ((decide (p0 ≥ 0)) && (decide (p0 < 1000)))) [] (fun fb => by kernel_rfl) trivial ⟨_, rfl, rfl, hS.keep⟩
end Gp
