/- Walks: each function of the program computes its plain function. -/
import Derived.Test.YtgdijgbjlioekaaDoorGp
set_option linter.unusedVariables false
set_option linter.unusedSimpArgs false
set_option maxHeartbeats 4000000
namespace Gp
open Go Gw Go.Proofs
theorem tile_colour_1_calls (p0 : Int)  (r : Bool) (w : World)  (hf : tile_colour_1 p0 = some r) :
  CallsR Tryd.prog 40 #[(iv p0)] w (fun v w' => v = (bv r) ∧ Keeps NoS w w') := by
 have hS : St NoS w w [] [] := St.init (ro_nil _ _)
 refine enter 9 Tryd.func40 rfl Tryd.ntmps40 rfl ?_
 unfold tile_colour_1 at hf
 refine WC.seq (WC.region ?_)
 refine seg 1 [] [0] [(0, (iv p0))] [] (fun fb => by kernel_rfl) rfl trivial ?_
 refine WL.done rfl (WX.next (WC.seq (WC.region ?_)))
 refine seg 3 [] [0, 5] [(0, (iv p0)), (5, (bv (decide (p0 < 0))))] [] (fun fb => by kernel_rfl) rfl trivial ?_
 refine WL.cutV (T := Bool) 6 (fun t => [(8, (bv t))]) (fun t => ((decide (p0 < 0)) || (decide (p0 ≥ 1000))) = t) (fun K => ?_) ?_
 ·
  rcases Bool.eq_false_or_eq_true (decide (p0 < 0)) with h2 | h2
  ·
   refine WL.setB 5 h2 rfl ?_
   refine seg 6 [] [8] [(8, (bv true))] [] (fun fb => by kernel_rfl) rfl trivial ?_
   exact WL.toV K true [8] rfl (by first | (rw [h2]; done) | (rw [h2]; rfl))
  refine WL.setB 5 h2 rfl ?_
  refine seg 6 [] [8] [(8, (bv (decide (p0 ≥ 1000))))] [] (fun fb => by kernel_rfl) rfl trivial ?_
  exact WL.toV K (decide (p0 ≥ 1000)) [8] rfl (by first | (rw [h2]; done) | (rw [h2]; rfl))
 rintro b3 rfl
 refine seg 7 [] [2] [(2, (bv ((decide (p0 < 0)) || (decide (p0 ≥ 1000)))))] [] (fun fb => by kernel_rfl) rfl trivial ?_
 refine WL.done rfl (WX.next ?_)
 refine WC.ret ?_
 injection hf with hf
 subst hf
 exact WX.ret_ [] (bv ((decide (p0 < 0)) || (decide (p0 ≥ 1000)))) [] (fun fb => by kernel_rfl) trivial ⟨_, rfl, rfl, hS.keep⟩
theorem slices_IndexFunc_int_int_with_tile_colour_1_calls (k : Nat) (p0 : List Int) (Aa : Option Addr) (ca : Nat) (r : Int) (w : World) (hR0 : RO NoS w (rowR encInt Aa ca p0)) (hf : slices_IndexFunc_int_int_with_tile_colour_1 k p0 = some r) :
  CallsR Tryd.prog 63 #[(sv Aa p0 ca), (.func (.func 40) #[] #[])] w (fun v w' => v = (iv r) ∧ Keeps NoS w w') := by
 have hS : St NoS w w [rowR encInt Aa ca p0] [] := St.init (ro_cons hR0 (ro_nil _ _))
 refine enter 19 Tryd.func63 rfl Tryd.ntmps63 rfl ?_
 unfold slices_IndexFunc_int_int_with_tile_colour_1 at hf
 refine WC.seq (WC.region ?_)
 refine seg 1 [] [0, 1] [(0, (sv Aa p0 ca)), (1, (.func (.func 40) #[] #[]))] [] (fun fb => by kernel_rfl) rfl trivial ?_
 refine WL.done rfl (WX.next (WC.seq (WC.seq (WC.region ?_))))
 refine seg 3 [] [0, 1, 7, 8] [(0, (sv Aa p0 ca)), (1, (.func (.func 40) #[] #[])), (7, (iv (p0.length : Int))), (8, (iv 0))] [] (fun fb => by kernel_rfl) rfl trivial ?_
 refine WL.done rfl (WX.next ?_)
 obtain ⟨x4, hx5, hf⟩ := bind_some hf
 refine WC.cutN (T := Unit) (fun t => []) (fun t w1 => St NoS w w1 [rowR encInt Aa ca p0] [] ∧ x4 = .inr t) (fun Kx4 => ?_) ?_
 ·
  refine WC.block ?_
  refine WC.loop (T := Int) (fun t => [(0, (sv Aa p0 ca)), (1, (.func (.func 40) #[] #[])), (7, (iv (p0.length : Int))), (8, (iv t))]) (fun n t w1 => St NoS w w1 [rowR encInt Aa ca p0] [] ∧ slices_IndexFunc_int_int_with_tile_colour_1.l0 n t p0 = some x4) k 0 [0, 1, 7, 8] rfl ⟨(hS.subR [0]).sub [] (by decide), hx5⟩ ?_
  rintro k6 x3 w7 ⟨hS8, hl9⟩
  cases k6 with
  | zero => rw [slices_IndexFunc_int_int_with_tile_colour_1.l0] at hl9; cases hl9
  | succ k6 =>
   rw [slices_IndexFunc_int_int_with_tile_colour_1.l0] at hl9
   refine WC.seq (WC.region ?_)
   refine seg 1 [] [0, 1, 7, 8, 9] [(0, (sv Aa p0 ca)), (1, (.func (.func 40) #[] #[])), (7, (iv (p0.length : Int))), (8, (iv x3)), (9, (bv (decide (x3 < (p0.length : Int)))))] [] (fun fb => by kernel_rfl) rfl trivial ?_
   refine WL.done rfl (WX.next (WC.seq ?_))
   rcases br_some hl9 with ⟨h10, hl9⟩ | ⟨h10, hl9⟩
   ·refine WC.condT2 (fun fb => by kernel_rfl) h10 ?_
    refine WC.skip (WX.next (WC.seq (WC.block (WC.seq (WC.region ?_)))))
    refine seg 2 [] [0, 1, 5, 7, 8] [(0, (sv Aa p0 ca)), (1, (.func (.func 40) #[] #[])), (5, (iv x3)), (7, (iv (p0.length : Int))), (8, (iv x3))] [] (fun fb => by kernel_rfl) rfl trivial ?_
    refine WL.done rfl (WX.next (WC.seq (WC.region ?_)))
    refine seg 3 [] [0, 1, 5, 7, 8, 11, 12, 13] [(0, (sv Aa p0 ca)), (1, (.func (.func 40) #[] #[])), (5, (iv x3)), (7, (iv (p0.length : Int))), (8, (iv x3)), (11, (.func (.func 40) #[] #[])), (12, (sv Aa p0 ca)), (13, (iv x3))] [] (fun fb => by kernel_rfl) rfl trivial ?_
    obtain ⟨h11, hl9⟩ := as_some hl9
    refine seg 5 [.v (iv (rdD p0 x3 0))] [0, 1, 5, 7, 8, 11, 15] [(0, (sv Aa p0 ca)), (1, (.func (.func 40) #[] #[])), (5, (iv x3)), (7, (iv (p0.length : Int))), (8, (iv x3)), (11, (.func (.func 40) #[] #[])), (15, (iv (rdD p0 x3 0)))] [.idx Aa x3 p0.length, .cell ((adr Aa).add ((x3).toNat * 1)) (iv (rdD p0 x3 0))] (fun fb => by kernel_rfl) rfl ⟨rowR.adr (hS8.rd 0).1 h11.1 h11.2, rowR.cell (hS8.rd 0).1 0 h11.1 h11.2 0 rfl, trivial⟩ ?_
    obtain ⟨t12, ht13, hl9⟩ := bind_some hl9
    refine WL.call (some 16) 40 #[(iv (rdD p0 x3 0))] (fun fb => by kernel_rfl) (tile_colour_1_calls (rdD p0 x3 0) t12 _ ht13) (fun v w14 hR15 => ?_)
    obtain ⟨rfl, hk_⟩ := hR15
    have hS16 := hS8.keepN hk_
    refine ⟨trivial, ?_⟩
    refine WL.done rfl (WX.next ?_)
    rcases br_some hl9 with ⟨h17, hl9⟩ | ⟨h17, hl9⟩
    ·refine WC.condT2 (fun fb => by kernel_rfl) h17 ?_
     refine WC.seq (WC.region ?_)
     refine seg 2 [] [4] [(4, (iv x3))] [] (fun fb => by kernel_rfl) rfl trivial ?_
     refine WL.done rfl (WX.next ?_)
     refine WC.ret ?_
     injection hl9 with hl9
     subst hl9
     injection hf with hf
     subst hf
     exact WX.blockR (WX.thenR (WX.thenR (WX.blockR (WX.thenR (WX.ret_ [] (iv x3) [] (fun fb => by kernel_rfl) trivial ⟨_, rfl, rfl, hS16.keep⟩)))))
    refine WC.condF2 (fun fb => by kernel_rfl) h17 ?_
    refine WC.skip ?_
    refine WX.blockN (WX.next ?_)
    refine WC.region ?_
    refine seg 2 [] [0, 1, 7, 8] [(0, (sv Aa p0 ca)), (1, (.func (.func 40) #[] #[])), (7, (iv (p0.length : Int))), (8, (iv (w64 (x3 + 1))))] [] (fun fb => by kernel_rfl) rfl trivial ?_
    refine WL.done rfl ?_
    exact WX.again k6 (Nat.lt_succ_self _) (w64 (x3 + 1)) [0, 1, 7, 8] rfl ⟨(hS16.subR [0]).sub [] (by decide), hl9⟩
   refine WC.condF2 (fun fb => by kernel_rfl) h10 ?_
   refine WC.exit ?_
   injection hl9 with hl9
   exact WX.thenX (WX.thenX (WX.blockHere (WX.to Kx4 () [] rfl ⟨(hS8.subR [0]).sub [] (by decide), hl9.symm⟩)))
 rintro y21 w18 ⟨hS19, hq20⟩
 subst hq20
 have hf := sum_inr hf
 refine WX.next (WC.seq (WC.region ?_))
 refine seg 1 [] [4] [(4, (iv (-1)))] [] (fun fb => by kernel_rfl) rfl trivial ?_
 refine WL.done rfl (WX.next ?_)
 refine WC.ret ?_
 injection hf with hf
 subst hf
 exact WX.ret_ [] (iv (-1)) [] (fun fb => by kernel_rfl) trivial ⟨_, rfl, rfl, hS19.keep⟩
theorem slices_ContainsFunc_int_int_with_tile_colour_1_calls (k : Nat) (p0 : List Int) (Aa : Option Addr) (ca : Nat) (r : Bool) (w : World) (hR0 : RO NoS w (rowR encInt Aa ca p0)) (hf : slices_ContainsFunc_int_int_with_tile_colour_1 k p0 = some r) :
  CallsR Tryd.prog 39 #[(sv Aa p0 ca), (.func (.func 40) #[] #[])] w (fun v w' => v = (bv r) ∧ Keeps NoS w w') := by
 have hS : St NoS w w [rowR encInt Aa ca p0] [] := St.init (ro_cons hR0 (ro_nil _ _))
 refine enter 9 Tryd.func39 rfl Tryd.ntmps39 rfl ?_
 unfold slices_ContainsFunc_int_int_with_tile_colour_1 at hf
 refine WC.seq (WC.region ?_)
 refine seg 1 [] [0, 1] [(0, (sv Aa p0 ca)), (1, (.func (.func 40) #[] #[]))] [] (fun fb => by kernel_rfl) rfl trivial ?_
 refine WL.done rfl (WX.next (WC.seq (WC.region ?_)))
 refine seg 2 [] [5, 6] [(5, (sv Aa p0 ca)), (6, (.func (.func 40) #[] #[]))] [] (fun fb => by kernel_rfl) rfl trivial ?_
 obtain ⟨t2, ht3, hf⟩ := bind_some hf
 refine WL.call (some 7) 63 #[(sv Aa p0 ca), (.func (.func 40) #[] #[])] (fun fb => by kernel_rfl) (slices_IndexFunc_int_int_with_tile_colour_1_calls _ p0 Aa ca t2 _ (hS.rd 0) ht3) (fun v w4 hR5 => ?_)
 obtain ⟨rfl, hk_⟩ := hR5
 have hS6 := hS.keepN hk_
 refine ⟨trivial, ?_⟩
 refine seg 5 [] [4] [(4, (bv (decide (t2 ≥ 0))))] [] (fun fb => by kernel_rfl) rfl trivial ?_
 refine WL.done rfl (WX.next ?_)
 refine WC.ret ?_
 injection hf with hf
 subst hf
 exact WX.ret_ [] (bv (decide (t2 ≥ 0))) [] (fun fb => by kernel_rfl) trivial ⟨_, rfl, rfl, hS6.keep⟩
theorem tile_colour_calls (k : Nat) (p0 : List Int) (Aa : Option Addr) (ca : Nat) (r : Bool) (w : World) (hR0 : RO NoS w (rowR encInt Aa ca p0)) (hf : tile_colour k p0 = some r) :
  CallsR Tryd.prog 27 #[(sv Aa p0 ca)] w (fun v w' => v = (bv r) ∧ Keeps NoS w w') := by
 have hS : St NoS w w [rowR encInt Aa ca p0] [] := St.init (ro_cons hR0 (ro_nil _ _))
 refine enter 6 Tryd.func27 rfl Tryd.ntmps27 rfl ?_
 unfold tile_colour at hf
 refine WC.seq (WC.region ?_)
 refine seg 1 [] [0] [(0, (sv Aa p0 ca))] [] (fun fb => by kernel_rfl) rfl trivial ?_
 refine WL.done rfl (WX.next (WC.seq (WC.region ?_)))
 refine seg 1 [] [3] [(3, (sv Aa p0 ca))] [] (fun fb => by kernel_rfl) rfl trivial ?_
 obtain ⟨t2, ht3, hf⟩ := bind_some hf
 refine WL.call (some 4) 39 #[(sv Aa p0 ca), (.func (.func 40) #[] #[])] (fun fb => by kernel_rfl) (slices_ContainsFunc_int_int_with_tile_colour_1_calls _ p0 Aa ca t2 _ (hS.rd 0) ht3) (fun v w4 hR5 => ?_)
 obtain ⟨rfl, hk_⟩ := hR5
 have hS6 := hS.keepN hk_
 refine ⟨trivial, ?_⟩
 refine seg 4 [] [2] [(2, (bv (!t2)))] [] (fun fb => by kernel_rfl) rfl trivial ?_
 refine WL.done rfl (WX.next ?_)
 refine WC.ret ?_
 injection hf with hf
 subst hf
 exact WX.ret_ [] (bv (!t2)) [] (fun fb => by kernel_rfl) trivial ⟨_, rfl, rfl, hS6.keep⟩
theorem tile_Valid_key50 : KeyK Tryd.prog 50 (aggI ints_Tile) := KeyK.struct (n := 4) (by kernel_rfl) ints_Tile (fun _ => rfl) (fun x y h => by cases x; cases y; simp only [ints_Tile, List.cons.injEq, and_true] at h; obtain ⟨rfl, rfl, rfl, rfl⟩ := h; rfl)
theorem tile_Valid_calls (k : Nat) (p0 : List Tile) (Aa : Option Addr) (ca : Nat) (r : Bool) (w : World) (hR0 : RO NoS w (rowR enc_Tile Aa ca p0)) (hf : tile_Valid k p0 = some r) :
  CallsR Tryd.prog 14 #[(sv Aa p0 ca)] w (fun v w' => v = (bv r) ∧ Keeps NoS w w') := by
 have hS : St NoS w w [rowR enc_Tile Aa ca p0] [] := St.init (ro_cons hR0 (ro_nil _ _))
 refine enter 35 Tryd.func14 rfl Tryd.ntmps14 rfl ?_
 unfold tile_Valid at hf
 refine WC.seq (WC.region ?_)
 refine seg 1 [] [0] [(0, (sv Aa p0 ca))] [] (fun fb => by kernel_rfl) rfl trivial ?_
 refine WL.done rfl (WX.next (WC.seq (WC.seq (WC.region ?_))))
 refine seg 3 [] [0, 8] [(0, (sv Aa p0 ca)), (8, (bv (decide ((p0.length : Int) > 1000))))] [] (fun fb => by kernel_rfl) rfl trivial ?_
 refine WL.done rfl (WX.next ?_)
 rcases br_some hf with ⟨h3, hf⟩ | ⟨h3, hf⟩
 ·refine WC.condT2 (fun fb => by kernel_rfl) h3 ?_
  refine WC.seq (WC.region ?_)
  refine seg 1 [] [2] [(2, (bv false))] [] (fun fb => by kernel_rfl) rfl trivial ?_
  refine WL.done rfl (WX.next ?_)
  refine WC.ret ?_
  injection hf with hf
  subst hf
  exact WX.thenR (WX.ret_ [] (bv false) [] (fun fb => by kernel_rfl) trivial ⟨_, rfl, rfl, hS.keep⟩)
 refine WC.condF2 (fun fb => by kernel_rfl) h3 ?_
 refine WC.skip (WX.next (WC.seq (WC.region ?_)))
 refine WL.new hS 9 [] (fun g => (.map (some g))) (mapObj (aggI ints_Tile) vB ([] : List (Tile × Bool))) [] (fun fb g => by kernel_rfl) trivial (fun g4 w5 hS6 => ?_)
 refine ⟨trivial, ?_⟩
 refine seg 2 [] [0, 3] [(0, (sv Aa p0 ca)), (3, (.map (some g4)))] [] (fun fb => by kernel_rfl) rfl trivial ?_
 refine WL.done rfl (WX.next (WC.seq (WC.seq (WC.region ?_))))
 refine seg 3 [] [3, 10, 11, 12] [(3, (.map (some g4))), (10, (sv Aa p0 ca)), (11, (iv (p0.length : Int))), (12, (iv 0))] [] (fun fb => by kernel_rfl) rfl trivial ?_
 refine WL.done rfl (WX.next ?_)
 obtain ⟨x9, hx10, hf⟩ := bind_some hf
 refine WC.cutN (T := Unit) (fun t => []) (fun t w1 => St NoS w w1 [rowR enc_Tile Aa ca p0] [] ∧ x9 = .inr t) (fun Kx9 => ?_) ?_
 ·
  refine WC.block ?_
  refine WC.loop (T := (List (Tile × Bool)) × Int) (fun t => [(3, (.map (some g4))), (10, (sv Aa p0 ca)), (11, (iv (p0.length : Int))), (12, (iv t.2))]) (fun n t w1 => St NoS w w1 [rowR enc_Tile Aa ca p0] [blk g4 (mapObj (aggI ints_Tile) vB t.1)] ∧ tile_Valid.l0 n t.1 t.2 p0 = some x9) k (([] : List (Tile × Bool)), 0) [3, 10, 11, 12] rfl ⟨(hS6.subR [0]).sub [0] (by decide), hx10⟩ ?_
  rintro k11 ⟨l7, x8⟩ w12 ⟨hS13, hl15⟩
  cases k11 with
  | zero => rw [tile_Valid.l0] at hl15; cases hl15
  | succ k11 =>
   rw [tile_Valid.l0] at hl15
   refine WC.seq (WC.region ?_)
   refine seg 1 [] [3, 10, 11, 12, 13] [(3, (.map (some g4))), (10, (sv Aa p0 ca)), (11, (iv (p0.length : Int))), (12, (iv x8)), (13, (bv (decide (x8 < (p0.length : Int)))))] [] (fun fb => by kernel_rfl) rfl trivial ?_
   refine WL.done rfl (WX.next (WC.seq ?_))
   rcases br_some hl15 with ⟨h16, hl15⟩ | ⟨h16, hl15⟩
   ·refine WC.condT2 (fun fb => by kernel_rfl) h16 ?_
    refine WC.skip (WX.next (WC.seq (WC.block (WC.seq (WC.region ?_)))))
    obtain ⟨h17, hl15⟩ := as_some hl15
    refine seg 2 [.v (iv ((rdD p0 x8 z_Tile).N)), .v (iv ((rdD p0 x8 z_Tile).E)), .v (iv ((rdD p0 x8 z_Tile).S)), .v (iv ((rdD p0 x8 z_Tile).W))] [3, 10, 11, 12, 15] [(3, (.map (some g4))), (10, (sv Aa p0 ca)), (11, (iv (p0.length : Int))), (12, (iv x8)), (15, (.agg #[(iv ((rdD p0 x8 z_Tile).N)), (iv ((rdD p0 x8 z_Tile).E)), (iv ((rdD p0 x8 z_Tile).S)), (iv ((rdD p0 x8 z_Tile).W))]))] [.idx Aa x8 p0.length, .cell ((adr Aa).add ((x8).toNat * 4)) (iv ((rdD p0 x8 z_Tile).N)), .cell (((adr Aa).add ((x8).toNat * 4)).add 1) (iv ((rdD p0 x8 z_Tile).E)), .cell (((adr Aa).add ((x8).toNat * 4)).add 2) (iv ((rdD p0 x8 z_Tile).S)), .cell (((adr Aa).add ((x8).toNat * 4)).add 3) (iv ((rdD p0 x8 z_Tile).W))] (fun fb => by kernel_rfl) rfl ⟨rowR.adr (hS13.rd 0).1 h17.1 h17.2, rowR.cell (hS13.rd 0).1 z_Tile h17.1 h17.2 0 rfl, rowR.cell (hS13.rd 0).1 z_Tile h17.1 h17.2 1 rfl, rowR.cell (hS13.rd 0).1 z_Tile h17.1 h17.2 2 rfl, rowR.cell (hS13.rd 0).1 z_Tile h17.1 h17.2 3 rfl, trivial⟩ ?_
    refine WL.new hS13 5 [] (fun g => (pt g)) (.cells #[(iv 0), (iv 0), (iv 0), (iv 0)] 50 (0, 0)) [] (fun fb g => by kernel_rfl) trivial (fun g18 w19 hS20 => ?_)
    refine ⟨trivial, ?_⟩
    refine WL.store hS20 0 rfl [(0, (iv ((rdD p0 x8 z_Tile).N))), (1, (iv ((rdD p0 x8 z_Tile).E))), (2, (iv ((rdD p0 x8 z_Tile).S))), (3, (iv ((rdD p0 x8 z_Tile).W)))] #[(iv ((rdD p0 x8 z_Tile).N)), (iv ((rdD p0 x8 z_Tile).E)), (iv ((rdD p0 x8 z_Tile).S)), (iv ((rdD p0 x8 z_Tile).W))] (fun fb => by kernel_rfl) (by kernel_rfl) rfl [1] (by decide) (by decide) (fun w21 hS22 => ?_)
    refine ⟨trivial, ?_⟩
    refine WL.done rfl (WX.next (WC.seq (WC.seq (WC.region ?_))))
    refine seg 2 [.v (iv ((rdD p0 x8 z_Tile).N)), .v (iv ((rdD p0 x8 z_Tile).E)), .v (iv ((rdD p0 x8 z_Tile).S)), .v (iv ((rdD p0 x8 z_Tile).W))] [3, 5, 10, 11, 12, 16, 17] [(3, (.map (some g4))), (5, (pt g18)), (10, (sv Aa p0 ca)), (11, (iv (p0.length : Int))), (12, (iv x8)), (16, (.map (some g4))), (17, (.agg #[(iv ((rdD p0 x8 z_Tile).N)), (iv ((rdD p0 x8 z_Tile).E)), (iv ((rdD p0 x8 z_Tile).S)), (iv ((rdD p0 x8 z_Tile).W))]))] [.cell ⟨g18, 0, none⟩ (iv ((rdD p0 x8 z_Tile).N)), .cell ⟨g18, 1, none⟩ (iv ((rdD p0 x8 z_Tile).E)), .cell ⟨g18, 2, none⟩ (iv ((rdD p0 x8 z_Tile).S)), .cell ⟨g18, 3, none⟩ (iv ((rdD p0 x8 z_Tile).W))] (fun fb => by kernel_rfl) rfl ⟨hS22.cell 0 rfl 0 rfl, hS22.cell 0 rfl 1 rfl, hS22.cell 0 rfl 2 rfl, hS22.cell 0 rfl 3 rfl, trivial⟩ ?_
    refine WL.lookup (hS22.own 1).1 (rdD p0 x8 z_Tile) (d := 18) (c := false) (t := 52) (kT := 50) (eT := 4) (z := false) (kE := (aggI ints_Tile)) (vE := vB) (l := l7) (bv (mget (rdD p0 x8 z_Tile) false l7)) (fun fb => by kernel_rfl) tile_Valid_key50 (by kernel_rfl) (fun _ => by kernel_rfl) rfl ?_
    refine ⟨trivial, ?_⟩
    refine seg 4 [] [3, 5, 10, 11, 12, 19] [(3, (.map (some g4))), (5, (pt g18)), (10, (sv Aa p0 ca)), (11, (iv (p0.length : Int))), (12, (iv x8)), (19, (bv (mget (rdD p0 x8 z_Tile) false l7)))] [] (fun fb => by kernel_rfl) rfl trivial ?_
    obtain ⟨x23, hx24, hl15⟩ := bind_some hl15
    refine WL.cutW (T := Bool) 16 (fun t => [(3, (.map (some g4))), (5, (pt g18)), (10, (sv Aa p0 ca)), (11, (iv (p0.length : Int))), (12, (iv x8)), (31, (bv t))]) (fun t w1 => (St NoS w w1 [rowR enc_Tile Aa ca p0] [blk g4 (mapObj (aggI ints_Tile) vB l7), blk g18 (.cells #[(iv ((rdD p0 x8 z_Tile).N)), (iv ((rdD p0 x8 z_Tile).E)), (iv ((rdD p0 x8 z_Tile).S)), (iv ((rdD p0 x8 z_Tile).W))] 50 (0, 0))] ∧ x23 = t) ∧ CellsOK [] w1) (fun K => ?_) ?_
    ·
     rcases br_some hx24 with ⟨h25, hx24⟩ | ⟨h25, hx24⟩
     ·
      refine WL.setB 19 h25 rfl ?_
      refine seg 16 [] [3, 5, 10, 11, 12, 31] [(3, (.map (some g4))), (5, (pt g18)), (10, (sv Aa p0 ca)), (11, (iv (p0.length : Int))), (12, (iv x8)), (31, (bv true))] [] (fun fb => by kernel_rfl) rfl trivial ?_
      injection hx24 with hx24
      exact WL.to K true [3, 5, 10, 11, 12, 31] rfl ⟨⟨(hS22.subR [0]).sub [1, 0] (by decide), hx24.symm⟩, trivial⟩
     refine WL.setB 19 h25 rfl ?_
     refine seg 12 [.v (iv ((rdD p0 x8 z_Tile).N)), .v (iv ((rdD p0 x8 z_Tile).E)), .v (iv ((rdD p0 x8 z_Tile).S)), .v (iv ((rdD p0 x8 z_Tile).W))] [3, 5, 10, 11, 12, 19, 21, 23, 25, 27] [(3, (.map (some g4))), (5, (pt g18)), (10, (sv Aa p0 ca)), (11, (iv (p0.length : Int))), (12, (iv x8)), (19, (bv false)), (21, (iv ((rdD p0 x8 z_Tile).N))), (23, (iv ((rdD p0 x8 z_Tile).E))), (25, (iv ((rdD p0 x8 z_Tile).S))), (27, (iv ((rdD p0 x8 z_Tile).W)))] [.cell ⟨g18, 0, none⟩ (iv ((rdD p0 x8 z_Tile).N)), .cell ⟨g18, 1, none⟩ (iv ((rdD p0 x8 z_Tile).E)), .cell ⟨g18, 2, none⟩ (iv ((rdD p0 x8 z_Tile).S)), .cell ⟨g18, 3, none⟩ (iv ((rdD p0 x8 z_Tile).W))] (fun fb => by kernel_rfl) rfl ⟨hS22.cell 0 rfl 0 rfl, hS22.cell 0 rfl 1 rfl, hS22.cell 0 rfl 2 rfl, hS22.cell 0 rfl 3 rfl, trivial⟩ ?_
     refine WL.new hS22 28 [] (fun g => (.slice (some ⟨g, 0, none⟩) 4 4)) (.cells #[(iv ((rdD p0 x8 z_Tile).N)), (iv ((rdD p0 x8 z_Tile).E)), (iv ((rdD p0 x8 z_Tile).S)), (iv ((rdD p0 x8 z_Tile).W))] 3 (0, 0)) [] (fun fb g => by kernel_rfl) trivial (fun g26 w27 hS28 => ?_)
     refine ⟨trivial, ?_⟩
     have hS29 := hS.go w27 [rowO 3 encInt (some ⟨g26, 0, none⟩) 4 [(rdD p0 x8 z_Tile).N, (rdD p0 x8 z_Tile).E, (rdD p0 x8 z_Tile).S, (rdD p0 x8 z_Tile).W], blk g18 (.cells #[(iv ((rdD p0 x8 z_Tile).N)), (iv ((rdD p0 x8 z_Tile).E)), (iv ((rdD p0 x8 z_Tile).S)), (iv ((rdD p0 x8 z_Tile).W))] 50 (0, 0)), blk g4 (mapObj (aggI ints_Tile) vB l7)] (hS28.map1 0 _ (fun h => rowO.ofBlk h rfl (Nat.le_of_ble_eq_true (by kernel_rfl))) (fun _ h => by obtain ⟨_, h1, h2⟩ := h; injection h1 with h1; subst h1; exact h2) [1, 2] (by decide) (by decide))
     obtain ⟨t30, ht31, hx24⟩ := bind_some hx24
     refine WL.call (some 29) 27 #[(sv (some ⟨g26, 0, none⟩) [(rdD p0 x8 z_Tile).N, (rdD p0 x8 z_Tile).E, (rdD p0 x8 z_Tile).S, (rdD p0 x8 z_Tile).W] 4)] (fun fb => by kernel_rfl) (tile_colour_calls _ [(rdD p0 x8 z_Tile).N, (rdD p0 x8 z_Tile).E, (rdD p0 x8 z_Tile).S, (rdD p0 x8 z_Tile).W] (some ⟨g26, 0, none⟩) 4 t30 _ (hS29.ow 0).ofO ht31) (fun v w32 hR33 => ?_)
     obtain ⟨rfl, hk_⟩ := hR33
     have hS34 := hS29.keepN hk_
     refine ⟨trivial, ?_⟩
     refine seg 16 [] [3, 5, 10, 11, 12, 31] [(3, (.map (some g4))), (5, (pt g18)), (10, (sv Aa p0 ca)), (11, (iv (p0.length : Int))), (12, (iv x8)), (31, (bv (!t30)))] [] (fun fb => by kernel_rfl) rfl trivial ?_
     injection hx24 with hx24
     exact WL.to K (!t30) [3, 5, 10, 11, 12, 31] rfl ⟨⟨(hS34.subR [0]).sub [2, 1] (by decide), hx24.symm⟩, trivial⟩
    rintro y35 w37 ⟨⟨hS38, hq36⟩, hF39⟩
    subst hq36
    refine WL.done rfl (WX.next ?_)
    rcases br_some hl15 with ⟨h40, hl15⟩ | ⟨h40, hl15⟩
    ·refine WC.condT2 (fun fb => by kernel_rfl) h40 ?_
     refine WC.seq (WC.region ?_)
     refine seg 1 [] [2] [(2, (bv false))] [] (fun fb => by kernel_rfl) rfl trivial ?_
     refine WL.done rfl (WX.next ?_)
     refine WC.ret ?_
     injection hl15 with hl15
     subst hl15
     injection hf with hf
     subst hf
     exact WX.thenR (WX.blockR (WX.thenR (WX.thenR (WX.blockR (WX.thenR (WX.ret_ [] (bv false) [] (fun fb => by kernel_rfl) trivial ⟨_, rfl, rfl, hS38.keep⟩))))))
    refine WC.condF2 (fun fb => by kernel_rfl) h40 ?_
    refine WC.skip (WX.next (WC.region ?_))
    refine seg 2 [.v (iv ((rdD p0 x8 z_Tile).N)), .v (iv ((rdD p0 x8 z_Tile).E)), .v (iv ((rdD p0 x8 z_Tile).S)), .v (iv ((rdD p0 x8 z_Tile).W))] [3, 10, 11, 12, 32, 33] [(3, (.map (some g4))), (10, (sv Aa p0 ca)), (11, (iv (p0.length : Int))), (12, (iv x8)), (32, (.map (some g4))), (33, (.agg #[(iv ((rdD p0 x8 z_Tile).N)), (iv ((rdD p0 x8 z_Tile).E)), (iv ((rdD p0 x8 z_Tile).S)), (iv ((rdD p0 x8 z_Tile).W))]))] [.cell ⟨g18, 0, none⟩ (iv ((rdD p0 x8 z_Tile).N)), .cell ⟨g18, 1, none⟩ (iv ((rdD p0 x8 z_Tile).E)), .cell ⟨g18, 2, none⟩ (iv ((rdD p0 x8 z_Tile).S)), .cell ⟨g18, 3, none⟩ (iv ((rdD p0 x8 z_Tile).W))] (fun fb => by kernel_rfl) rfl ⟨hS38.cell 1 rfl 0 rfl, hS38.cell 1 rfl 1 rfl, hS38.cell 1 rfl 2 rfl, hS38.cell 1 rfl 3 rfl, trivial⟩ ?_
    refine WL.mapput hS38 0 (t := 52) (kT := 50) (eT := 4) (kE := (aggI ints_Tile)) (vE := vB) (l := l7) rfl (rdD p0 x8 z_Tile) true (fun fb => by kernel_rfl) tile_Valid_key50 (by kernel_rfl) [1] (by decide) (by decide) (fun w41 hS42 => ?_)
    refine ⟨trivial, ?_⟩
    refine WL.done rfl ?_
    refine WX.blockN (WX.next ?_)
    refine WC.region ?_
    refine seg 2 [] [3, 10, 11, 12] [(3, (.map (some g4))), (10, (sv Aa p0 ca)), (11, (iv (p0.length : Int))), (12, (iv (w64 (x8 + 1))))] [] (fun fb => by kernel_rfl) rfl trivial ?_
    refine WL.done rfl ?_
    exact WX.again k11 (Nat.lt_succ_self _) (mput (rdD p0 x8 z_Tile) true l7, w64 (x8 + 1)) [3, 10, 11, 12] rfl ⟨(hS42.subR [0]).sub [0] (by decide), hl15⟩
   refine WC.condF2 (fun fb => by kernel_rfl) h16 ?_
   refine WC.exit ?_
   injection hl15 with hl15
   exact WX.thenX (WX.thenX (WX.blockHere (WX.to Kx9 () [] rfl ⟨(hS13.subR [0]).sub [] (by decide), hl15.symm⟩)))
 rintro y46 w43 ⟨hS44, hq45⟩
 subst hq45
 have hf := sum_inr hf
 refine WX.next (WC.seq (WC.region ?_))
 refine seg 1 [] [2] [(2, (bv true))] [] (fun fb => by kernel_rfl) rfl trivial ?_
 refine WL.done rfl (WX.next ?_)
 refine WC.ret ?_
 injection hf with hf
 subst hf
 exact WX.ret_ [] (bv true) [] (fun fb => by kernel_rfl) trivial ⟨_, rfl, rfl, hS44.keep⟩
theorem tile_write_calls (k : Nat) (p0 : List Tile) (Aa : Option Addr) (ca : Nat) (mG : Glo) (r : ByteArray) (w : World) (hR0 : RO NoS w (rowR enc_Tile Aa ca p0)) (hR1 : RO NoS w (gloO Tryd.prog 2 5 0 1 mG)) (hf : tile_write k p0 = some r) :
  CallsR Tryd.prog 25 #[(sv Aa p0 ca)] w (fun v w' => v = (.string r) ∧ Keeps NoS w w') := by
 have hS : St NoS w w [rowR enc_Tile Aa ca p0, gloO Tryd.prog 2 5 0 1 mG] [] := St.init (ro_cons hR0 (ro_cons hR1 (ro_nil _ _)))
 refine enter 41 Tryd.func25 rfl Tryd.ntmps25 rfl ?_
 unfold tile_write at hf
 refine WC.seq (WC.region ?_)
 refine seg 1 [] [0] [(0, (sv Aa p0 ca))] [] (fun fb => by kernel_rfl) rfl trivial ?_
 refine WL.done rfl (WX.next (WC.seq (WC.region ?_)))
 refine seg 1 [] [0, 3] [(0, (sv Aa p0 ca)), (3, (.slice none 0 0))] [] (fun fb => by kernel_rfl) rfl trivial ?_
 refine WL.done rfl (WX.next (WC.seq (WC.seq (WC.region ?_))))
 refine seg 3 [] [3, 9, 10, 11] [(3, (.slice none 0 0)), (9, (sv Aa p0 ca)), (10, (iv (p0.length : Int))), (11, (iv 0))] [] (fun fb => by kernel_rfl) rfl trivial ?_
 refine WL.done rfl (WX.next ?_)
 have hS3 := hS.nilrow 9 encStr
 obtain ⟨x10, hx11, hf⟩ := bind_some hf
 refine WC.cutN (T := (List ByteArray) × (Option Addr) × Nat) (fun t => [(3, (sv t.2.1 t.1 t.2.2))]) (fun t w1 => St NoS w w1 [rowR enc_Tile Aa ca p0, gloO Tryd.prog 2 5 0 1 mG] [rowO 9 encStr t.2.1 t.2.2 t.1] ∧ x10 = t.1) (fun Kx10 => ?_) ?_
 ·
  refine WC.block ?_
  refine WC.loop (T := ((List ByteArray) × Int) × (Option Addr) × Nat) (fun t => [(3, (sv t.2.1 t.1.1 t.2.2)), (9, (sv Aa p0 ca)), (10, (iv (p0.length : Int))), (11, (iv t.1.2))]) (fun n t w1 => St NoS w w1 [rowR enc_Tile Aa ca p0, gloO Tryd.prog 2 5 0 1 mG] [rowO 9 encStr t.2.1 t.2.2 t.1.1] ∧ tile_write.l0 n t.1.1 t.1.2 p0 = some x10) k ((([] : List ByteArray), 0), none, 0) [3, 9, 10, 11] rfl ⟨(hS3.subR [0, 1]).sub [0] (by decide), hx11⟩ ?_
  rintro k12 ⟨⟨l6, x7⟩, A4, c5⟩ w13 ⟨hS14, hl15⟩
  cases k12 with
  | zero => rw [tile_write.l0] at hl15; cases hl15
  | succ k12 =>
   rw [tile_write.l0] at hl15
   refine WC.seq (WC.region ?_)
   refine seg 1 [] [3, 9, 10, 11, 12] [(3, (sv A4 l6 c5)), (9, (sv Aa p0 ca)), (10, (iv (p0.length : Int))), (11, (iv x7)), (12, (bv (decide (x7 < (p0.length : Int)))))] [] (fun fb => by kernel_rfl) rfl trivial ?_
   refine WL.done rfl (WX.next (WC.seq ?_))
   rcases br_some hl15 with ⟨h16, hl15⟩ | ⟨h16, hl15⟩
   ·refine WC.condT2 (fun fb => by kernel_rfl) h16 ?_
    refine WC.skip (WX.next (WC.seq (WC.block (WC.seq (WC.region ?_)))))
    obtain ⟨h17, hl15⟩ := as_some hl15
    refine seg 2 [.v (iv ((rdD p0 x7 z_Tile).N)), .v (iv ((rdD p0 x7 z_Tile).E)), .v (iv ((rdD p0 x7 z_Tile).S)), .v (iv ((rdD p0 x7 z_Tile).W))] [3, 9, 10, 11, 14] [(3, (sv A4 l6 c5)), (9, (sv Aa p0 ca)), (10, (iv (p0.length : Int))), (11, (iv x7)), (14, (.agg #[(iv ((rdD p0 x7 z_Tile).N)), (iv ((rdD p0 x7 z_Tile).E)), (iv ((rdD p0 x7 z_Tile).S)), (iv ((rdD p0 x7 z_Tile).W))]))] [.idx Aa x7 p0.length, .cell ((adr Aa).add ((x7).toNat * 4)) (iv ((rdD p0 x7 z_Tile).N)), .cell (((adr Aa).add ((x7).toNat * 4)).add 1) (iv ((rdD p0 x7 z_Tile).E)), .cell (((adr Aa).add ((x7).toNat * 4)).add 2) (iv ((rdD p0 x7 z_Tile).S)), .cell (((adr Aa).add ((x7).toNat * 4)).add 3) (iv ((rdD p0 x7 z_Tile).W))] (fun fb => by kernel_rfl) rfl ⟨rowR.adr (hS14.rd 0).1 h17.1 h17.2, rowR.cell (hS14.rd 0).1 z_Tile h17.1 h17.2 0 rfl, rowR.cell (hS14.rd 0).1 z_Tile h17.1 h17.2 1 rfl, rowR.cell (hS14.rd 0).1 z_Tile h17.1 h17.2 2 rfl, rowR.cell (hS14.rd 0).1 z_Tile h17.1 h17.2 3 rfl, trivial⟩ ?_
    refine WL.new hS14 5 [] (fun g => (pt g)) (.cells #[(iv 0), (iv 0), (iv 0), (iv 0)] 50 (0, 0)) [] (fun fb g => by kernel_rfl) trivial (fun g18 w19 hS20 => ?_)
    refine ⟨trivial, ?_⟩
    refine WL.store hS20 0 rfl [(0, (iv ((rdD p0 x7 z_Tile).N))), (1, (iv ((rdD p0 x7 z_Tile).E))), (2, (iv ((rdD p0 x7 z_Tile).S))), (3, (iv ((rdD p0 x7 z_Tile).W)))] #[(iv ((rdD p0 x7 z_Tile).N)), (iv ((rdD p0 x7 z_Tile).E)), (iv ((rdD p0 x7 z_Tile).S)), (iv ((rdD p0 x7 z_Tile).W))] (fun fb => by kernel_rfl) (by kernel_rfl) rfl [1] (by decide) (by decide) (fun w21 hS22 => ?_)
    refine ⟨trivial, ?_⟩
    refine WL.done rfl (WX.next (WC.seq (WC.region ?_)))
    refine seg 1 [] [3, 5, 6, 9, 10, 11] [(3, (sv A4 l6 c5)), (5, (pt g18)), (6, (.slice none 0 0)), (9, (sv Aa p0 ca)), (10, (iv (p0.length : Int))), (11, (iv x7))] [] (fun fb => by kernel_rfl) rfl trivial ?_
    refine WL.done rfl (WX.next (WC.seq (WC.seq (WC.region ?_))))
    refine seg 10 [.v (iv ((rdD p0 x7 z_Tile).N)), .v (iv ((rdD p0 x7 z_Tile).E)), .v (iv ((rdD p0 x7 z_Tile).S)), .v (iv ((rdD p0 x7 z_Tile).W))] [3, 6, 9, 10, 11, 23, 24] [(3, (sv A4 l6 c5)), (6, (.slice none 0 0)), (9, (sv Aa p0 ca)), (10, (iv (p0.length : Int))), (11, (iv x7)), (23, (.agg #[(iv ((rdD p0 x7 z_Tile).N)), (iv ((rdD p0 x7 z_Tile).E)), (iv ((rdD p0 x7 z_Tile).S)), (iv ((rdD p0 x7 z_Tile).W))])), (24, (iv 0))] [.cell ⟨g18, 0, none⟩ (iv ((rdD p0 x7 z_Tile).N)), .cell ⟨g18, 1, none⟩ (iv ((rdD p0 x7 z_Tile).E)), .cell ⟨g18, 2, none⟩ (iv ((rdD p0 x7 z_Tile).S)), .cell ⟨g18, 3, none⟩ (iv ((rdD p0 x7 z_Tile).W))] (fun fb => by kernel_rfl) rfl ⟨hS22.cell 0 rfl 0 rfl, hS22.cell 0 rfl 1 rfl, hS22.cell 0 rfl 2 rfl, hS22.cell 0 rfl 3 rfl, trivial⟩ ?_
    refine WL.done rfl (WX.next ?_)
    have hS23 := hS22.nilrow 9 encStr
    obtain ⟨x31, hx32, hl15⟩ := bind_some hl15
    refine WC.cutN (T := (List ByteArray) × (Option Addr) × Nat) (fun t => [(3, (sv A4 l6 c5)), (6, (sv t.2.1 t.1 t.2.2)), (9, (sv Aa p0 ca)), (10, (iv (p0.length : Int))), (11, (iv x7))]) (fun t w1 => St NoS w w1 [rowR enc_Tile Aa ca p0, gloO Tryd.prog 2 5 0 1 mG] [rowO 9 encStr A4 c5 l6, rowO 9 encStr t.2.1 t.2.2 t.1] ∧ x31 = t.1) (fun Kx31 => ?_) ?_
    ·
     refine WC.block ?_
     refine WC.loop (T := ((List ByteArray) × Int) × (Option Addr) × Nat) (fun t => [(3, (sv A4 l6 c5)), (6, (sv t.2.1 t.1.1 t.2.2)), (9, (sv Aa p0 ca)), (10, (iv (p0.length : Int))), (11, (iv x7)), (23, (.agg #[(iv ((rdD p0 x7 z_Tile).N)), (iv ((rdD p0 x7 z_Tile).E)), (iv ((rdD p0 x7 z_Tile).S)), (iv ((rdD p0 x7 z_Tile).W))])), (24, (iv t.1.2))]) (fun n t w1 => St NoS w w1 [rowR enc_Tile Aa ca p0, gloO Tryd.prog 2 5 0 1 mG] [rowO 9 encStr A4 c5 l6, rowO 9 encStr t.2.1 t.2.2 t.1.1] ∧ tile_write.l1 n t.1.1 t.1.2 p0 x7 = some x31) k12 ((([] : List ByteArray), 0), none, 0) [3, 6, 9, 10, 11, 23, 24] rfl ⟨(hS23.subR [0, 1]).sub [2, 0] (by decide), hx32⟩ ?_
     rintro k33 ⟨⟨l27, x28⟩, A24, c26⟩ w34 ⟨hS35, hl36⟩
     cases k33 with
     | zero => rw [tile_write.l1] at hl36; cases hl36
     | succ k33 =>
      rw [tile_write.l1] at hl36
      refine WC.seq (WC.region ?_)
      refine seg 1 [] [3, 6, 9, 10, 11, 23, 24, 25] [(3, (sv A4 l6 c5)), (6, (sv A24 l27 c26)), (9, (sv Aa p0 ca)), (10, (iv (p0.length : Int))), (11, (iv x7)), (23, (.agg #[(iv ((rdD p0 x7 z_Tile).N)), (iv ((rdD p0 x7 z_Tile).E)), (iv ((rdD p0 x7 z_Tile).S)), (iv ((rdD p0 x7 z_Tile).W))])), (24, (iv x28)), (25, (bv (decide (x28 < 4))))] [] (fun fb => by kernel_rfl) rfl trivial ?_
      refine WL.done rfl (WX.next (WC.seq ?_))
      rcases br_some hl36 with ⟨h37, hl36⟩ | ⟨h37, hl36⟩
      ·refine WC.condT2 (fun fb => by kernel_rfl) h37 ?_
       refine WC.skip (WX.next (WC.seq (WC.block (WC.seq (WC.region ?_)))))
       rcases br_some hl36 with ⟨h38, hl36⟩ | ⟨h38, hl36⟩
       ·
        refine WL.setI 24 (eq_of_beq h38) rfl ?_
        refine seg 1 [] [3, 6, 9, 10, 11, 23, 24, 26] [(3, (sv A4 l6 c5)), (6, (sv A24 l27 c26)), (9, (sv Aa p0 ca)), (10, (iv (p0.length : Int))), (11, (iv x7)), (23, (.agg #[(iv ((rdD p0 x7 z_Tile).N)), (iv ((rdD p0 x7 z_Tile).E)), (iv ((rdD p0 x7 z_Tile).S)), (iv ((rdD p0 x7 z_Tile).W))])), (24, (iv 0)), (26, (iv ((rdD p0 x7 z_Tile).N)))] [] (fun fb => by kernel_rfl) rfl trivial ?_
        refine WL.setI 24 (eq_of_beq h38).symm rfl ?_
        refine seg 2 [] [3, 6, 8, 9, 10, 11, 23, 24] [(3, (sv A4 l6 c5)), (6, (sv A24 l27 c26)), (8, (iv ((rdD p0 x7 z_Tile).N))), (9, (sv Aa p0 ca)), (10, (iv (p0.length : Int))), (11, (iv x7)), (23, (.agg #[(iv ((rdD p0 x7 z_Tile).N)), (iv ((rdD p0 x7 z_Tile).E)), (iv ((rdD p0 x7 z_Tile).S)), (iv ((rdD p0 x7 z_Tile).W))])), (24, (iv x28))] [] (fun fb => by kernel_rfl) rfl trivial ?_
        refine WL.done rfl (WX.next (WC.region ?_))
        refine seg 2 [] [3, 9, 10, 11, 23, 24, 27, 28] [(3, (sv A4 l6 c5)), (9, (sv Aa p0 ca)), (10, (iv (p0.length : Int))), (11, (iv x7)), (23, (.agg #[(iv ((rdD p0 x7 z_Tile).N)), (iv ((rdD p0 x7 z_Tile).E)), (iv ((rdD p0 x7 z_Tile).S)), (iv ((rdD p0 x7 z_Tile).W))])), (24, (iv x28)), (27, (sv A24 l27 c26)), (28, (iv ((rdD p0 x7 z_Tile).N)))] [] (fun fb => by kernel_rfl) rfl trivial ?_
        obtain ⟨t42, ht43, hl36⟩ := bind_some hl36
        refine WL.call (some 29) 36 #[(iv ((rdD p0 x7 z_Tile).N))] (fun fb => by kernel_rfl) (itoaN_calls Tryd.strconv_Itoa ((rdD p0 x7 z_Tile).N) t42 _ (hS35.rd 1) ht43) (fun v w40 hR39 => ?_)
        obtain ⟨rfl, hk_⟩ := hR39
        have hS41 := hS35.keepN hk_
        refine ⟨trivial, ?_⟩
        refine WL.new hS41 30 [] (fun g => (.slice (some ⟨g, 0, none⟩) 1 1)) (.cells #[(.string t42)] 9 (0, 0)) [] (fun fb g => by kernel_rfl) trivial (fun g44 w45 hS46 => ?_)
        refine ⟨trivial, ?_⟩
        have hS47 := hS.go w45 [rowO 9 encStr (some ⟨g44, 0, none⟩) 1 [t42], rowO 9 encStr A4 c5 l6, rowO 9 encStr A24 c26 l27] (hS46.map1 0 _ (fun h => rowO.ofBlk h rfl (Nat.le_of_ble_eq_true (by kernel_rfl))) (fun _ h => by obtain ⟨_, h1, h2⟩ := h; injection h1 with h1; subst h1; exact h2) [1, 2] (by decide) (by decide))
        obtain ⟨h48, hl36⟩ := as_some hl36
        refine WL.append hS47 2 (d := 31) (tS := 42) (z := (.string ByteArray.empty)) (bytes := 16) (c2 := 1) rfl (fun fb => by kernel_rfl) (rowO.rd (hS47.own 0).1) (by kernel_rfl) (by kernel_rfl) rfl (by decide) h48 (by decide) [0, 1] (by decide) (by decide) (fun A49 c50 w51 hS52 => ?_)
        refine ⟨trivial, ?_⟩
        refine seg 6 [] [3, 6, 9, 10, 11, 23, 24] [(3, (sv A4 l6 c5)), (6, (sv A49 (l27 ++ [t42]) c50)), (9, (sv Aa p0 ca)), (10, (iv (p0.length : Int))), (11, (iv x7)), (23, (.agg #[(iv ((rdD p0 x7 z_Tile).N)), (iv ((rdD p0 x7 z_Tile).E)), (iv ((rdD p0 x7 z_Tile).S)), (iv ((rdD p0 x7 z_Tile).W))])), (24, (iv x28))] [] (fun fb => by kernel_rfl) rfl trivial ?_
        refine WL.done rfl ?_
        refine WX.blockN (WX.next ?_)
        refine WC.region ?_
        refine seg 2 [] [3, 6, 9, 10, 11, 23, 24] [(3, (sv A4 l6 c5)), (6, (sv A49 (l27 ++ [t42]) c50)), (9, (sv Aa p0 ca)), (10, (iv (p0.length : Int))), (11, (iv x7)), (23, (.agg #[(iv ((rdD p0 x7 z_Tile).N)), (iv ((rdD p0 x7 z_Tile).E)), (iv ((rdD p0 x7 z_Tile).S)), (iv ((rdD p0 x7 z_Tile).W))])), (24, (iv (w64 (x28 + 1))))] [] (fun fb => by kernel_rfl) rfl trivial ?_
        refine WL.done rfl ?_
        exact WX.again k33 (Nat.lt_succ_self _) ((l27 ++ [t42], w64 (x28 + 1)), A49, c50) [3, 6, 9, 10, 11, 23, 24] rfl ⟨(hS52.subR [0, 1]).sub [2, 0] (by decide), hl36⟩
       rcases br_some hl36 with ⟨h53, hl36⟩ | ⟨h53, hl36⟩
       ·
        refine WL.setI 24 (eq_of_beq h53) rfl ?_
        refine seg 1 [] [3, 6, 9, 10, 11, 23, 24, 26] [(3, (sv A4 l6 c5)), (6, (sv A24 l27 c26)), (9, (sv Aa p0 ca)), (10, (iv (p0.length : Int))), (11, (iv x7)), (23, (.agg #[(iv ((rdD p0 x7 z_Tile).N)), (iv ((rdD p0 x7 z_Tile).E)), (iv ((rdD p0 x7 z_Tile).S)), (iv ((rdD p0 x7 z_Tile).W))])), (24, (iv 1)), (26, (iv ((rdD p0 x7 z_Tile).E)))] [] (fun fb => by kernel_rfl) rfl trivial ?_
        refine WL.setI 24 (eq_of_beq h53).symm rfl ?_
        refine seg 2 [] [3, 6, 8, 9, 10, 11, 23, 24] [(3, (sv A4 l6 c5)), (6, (sv A24 l27 c26)), (8, (iv ((rdD p0 x7 z_Tile).E))), (9, (sv Aa p0 ca)), (10, (iv (p0.length : Int))), (11, (iv x7)), (23, (.agg #[(iv ((rdD p0 x7 z_Tile).N)), (iv ((rdD p0 x7 z_Tile).E)), (iv ((rdD p0 x7 z_Tile).S)), (iv ((rdD p0 x7 z_Tile).W))])), (24, (iv x28))] [] (fun fb => by kernel_rfl) rfl trivial ?_
        refine WL.done rfl (WX.next (WC.region ?_))
        refine seg 2 [] [3, 9, 10, 11, 23, 24, 27, 28] [(3, (sv A4 l6 c5)), (9, (sv Aa p0 ca)), (10, (iv (p0.length : Int))), (11, (iv x7)), (23, (.agg #[(iv ((rdD p0 x7 z_Tile).N)), (iv ((rdD p0 x7 z_Tile).E)), (iv ((rdD p0 x7 z_Tile).S)), (iv ((rdD p0 x7 z_Tile).W))])), (24, (iv x28)), (27, (sv A24 l27 c26)), (28, (iv ((rdD p0 x7 z_Tile).E)))] [] (fun fb => by kernel_rfl) rfl trivial ?_
        obtain ⟨t57, ht58, hl36⟩ := bind_some hl36
        refine WL.call (some 29) 36 #[(iv ((rdD p0 x7 z_Tile).E))] (fun fb => by kernel_rfl) (itoaN_calls Tryd.strconv_Itoa ((rdD p0 x7 z_Tile).E) t57 _ (hS35.rd 1) ht58) (fun v w55 hR54 => ?_)
        obtain ⟨rfl, hk_⟩ := hR54
        have hS56 := hS35.keepN hk_
        refine ⟨trivial, ?_⟩
        refine WL.new hS56 30 [] (fun g => (.slice (some ⟨g, 0, none⟩) 1 1)) (.cells #[(.string t57)] 9 (0, 0)) [] (fun fb g => by kernel_rfl) trivial (fun g59 w60 hS61 => ?_)
        refine ⟨trivial, ?_⟩
        have hS62 := hS.go w60 [rowO 9 encStr (some ⟨g59, 0, none⟩) 1 [t57], rowO 9 encStr A4 c5 l6, rowO 9 encStr A24 c26 l27] (hS61.map1 0 _ (fun h => rowO.ofBlk h rfl (Nat.le_of_ble_eq_true (by kernel_rfl))) (fun _ h => by obtain ⟨_, h1, h2⟩ := h; injection h1 with h1; subst h1; exact h2) [1, 2] (by decide) (by decide))
        obtain ⟨h63, hl36⟩ := as_some hl36
        refine WL.append hS62 2 (d := 31) (tS := 42) (z := (.string ByteArray.empty)) (bytes := 16) (c2 := 1) rfl (fun fb => by kernel_rfl) (rowO.rd (hS62.own 0).1) (by kernel_rfl) (by kernel_rfl) rfl (by decide) h63 (by decide) [0, 1] (by decide) (by decide) (fun A65 c66 w67 hS68 => ?_)
        refine ⟨trivial, ?_⟩
        refine seg 6 [] [3, 6, 9, 10, 11, 23, 24] [(3, (sv A4 l6 c5)), (6, (sv A65 (l27 ++ [t57]) c66)), (9, (sv Aa p0 ca)), (10, (iv (p0.length : Int))), (11, (iv x7)), (23, (.agg #[(iv ((rdD p0 x7 z_Tile).N)), (iv ((rdD p0 x7 z_Tile).E)), (iv ((rdD p0 x7 z_Tile).S)), (iv ((rdD p0 x7 z_Tile).W))])), (24, (iv x28))] [] (fun fb => by kernel_rfl) rfl trivial ?_
        refine WL.done rfl ?_
        refine WX.blockN (WX.next ?_)
        refine WC.region ?_
        refine seg 2 [] [3, 6, 9, 10, 11, 23, 24] [(3, (sv A4 l6 c5)), (6, (sv A65 (l27 ++ [t57]) c66)), (9, (sv Aa p0 ca)), (10, (iv (p0.length : Int))), (11, (iv x7)), (23, (.agg #[(iv ((rdD p0 x7 z_Tile).N)), (iv ((rdD p0 x7 z_Tile).E)), (iv ((rdD p0 x7 z_Tile).S)), (iv ((rdD p0 x7 z_Tile).W))])), (24, (iv (w64 (x28 + 1))))] [] (fun fb => by kernel_rfl) rfl trivial ?_
        refine WL.done rfl ?_
        exact WX.again k33 (Nat.lt_succ_self _) ((l27 ++ [t57], w64 (x28 + 1)), A65, c66) [3, 6, 9, 10, 11, 23, 24] rfl ⟨(hS68.subR [0, 1]).sub [2, 0] (by decide), hl36⟩
       rcases br_some hl36 with ⟨h69, hl36⟩ | ⟨h69, hl36⟩
       ·
        refine WL.setI 24 (eq_of_beq h69) rfl ?_
        refine seg 1 [] [3, 6, 9, 10, 11, 23, 24, 26] [(3, (sv A4 l6 c5)), (6, (sv A24 l27 c26)), (9, (sv Aa p0 ca)), (10, (iv (p0.length : Int))), (11, (iv x7)), (23, (.agg #[(iv ((rdD p0 x7 z_Tile).N)), (iv ((rdD p0 x7 z_Tile).E)), (iv ((rdD p0 x7 z_Tile).S)), (iv ((rdD p0 x7 z_Tile).W))])), (24, (iv 2)), (26, (iv ((rdD p0 x7 z_Tile).S)))] [] (fun fb => by kernel_rfl) rfl trivial ?_
        refine WL.setI 24 (eq_of_beq h69).symm rfl ?_
        refine seg 2 [] [3, 6, 8, 9, 10, 11, 23, 24] [(3, (sv A4 l6 c5)), (6, (sv A24 l27 c26)), (8, (iv ((rdD p0 x7 z_Tile).S))), (9, (sv Aa p0 ca)), (10, (iv (p0.length : Int))), (11, (iv x7)), (23, (.agg #[(iv ((rdD p0 x7 z_Tile).N)), (iv ((rdD p0 x7 z_Tile).E)), (iv ((rdD p0 x7 z_Tile).S)), (iv ((rdD p0 x7 z_Tile).W))])), (24, (iv x28))] [] (fun fb => by kernel_rfl) rfl trivial ?_
        refine WL.done rfl (WX.next (WC.region ?_))
        refine seg 2 [] [3, 9, 10, 11, 23, 24, 27, 28] [(3, (sv A4 l6 c5)), (9, (sv Aa p0 ca)), (10, (iv (p0.length : Int))), (11, (iv x7)), (23, (.agg #[(iv ((rdD p0 x7 z_Tile).N)), (iv ((rdD p0 x7 z_Tile).E)), (iv ((rdD p0 x7 z_Tile).S)), (iv ((rdD p0 x7 z_Tile).W))])), (24, (iv x28)), (27, (sv A24 l27 c26)), (28, (iv ((rdD p0 x7 z_Tile).S)))] [] (fun fb => by kernel_rfl) rfl trivial ?_
        obtain ⟨t73, ht74, hl36⟩ := bind_some hl36
        refine WL.call (some 29) 36 #[(iv ((rdD p0 x7 z_Tile).S))] (fun fb => by kernel_rfl) (itoaN_calls Tryd.strconv_Itoa ((rdD p0 x7 z_Tile).S) t73 _ (hS35.rd 1) ht74) (fun v w71 hR70 => ?_)
        obtain ⟨rfl, hk_⟩ := hR70
        have hS72 := hS35.keepN hk_
        refine ⟨trivial, ?_⟩
        refine WL.new hS72 30 [] (fun g => (.slice (some ⟨g, 0, none⟩) 1 1)) (.cells #[(.string t73)] 9 (0, 0)) [] (fun fb g => by kernel_rfl) trivial (fun g75 w76 hS77 => ?_)
        refine ⟨trivial, ?_⟩
        have hS78 := hS.go w76 [rowO 9 encStr (some ⟨g75, 0, none⟩) 1 [t73], rowO 9 encStr A4 c5 l6, rowO 9 encStr A24 c26 l27] (hS77.map1 0 _ (fun h => rowO.ofBlk h rfl (Nat.le_of_ble_eq_true (by kernel_rfl))) (fun _ h => by obtain ⟨_, h1, h2⟩ := h; injection h1 with h1; subst h1; exact h2) [1, 2] (by decide) (by decide))
        obtain ⟨h79, hl36⟩ := as_some hl36
        refine WL.append hS78 2 (d := 31) (tS := 42) (z := (.string ByteArray.empty)) (bytes := 16) (c2 := 1) rfl (fun fb => by kernel_rfl) (rowO.rd (hS78.own 0).1) (by kernel_rfl) (by kernel_rfl) rfl (by decide) h79 (by decide) [0, 1] (by decide) (by decide) (fun A80 c81 w82 hS83 => ?_)
        refine ⟨trivial, ?_⟩
        refine seg 6 [] [3, 6, 9, 10, 11, 23, 24] [(3, (sv A4 l6 c5)), (6, (sv A80 (l27 ++ [t73]) c81)), (9, (sv Aa p0 ca)), (10, (iv (p0.length : Int))), (11, (iv x7)), (23, (.agg #[(iv ((rdD p0 x7 z_Tile).N)), (iv ((rdD p0 x7 z_Tile).E)), (iv ((rdD p0 x7 z_Tile).S)), (iv ((rdD p0 x7 z_Tile).W))])), (24, (iv x28))] [] (fun fb => by kernel_rfl) rfl trivial ?_
        refine WL.done rfl ?_
        refine WX.blockN (WX.next ?_)
        refine WC.region ?_
        refine seg 2 [] [3, 6, 9, 10, 11, 23, 24] [(3, (sv A4 l6 c5)), (6, (sv A80 (l27 ++ [t73]) c81)), (9, (sv Aa p0 ca)), (10, (iv (p0.length : Int))), (11, (iv x7)), (23, (.agg #[(iv ((rdD p0 x7 z_Tile).N)), (iv ((rdD p0 x7 z_Tile).E)), (iv ((rdD p0 x7 z_Tile).S)), (iv ((rdD p0 x7 z_Tile).W))])), (24, (iv (w64 (x28 + 1))))] [] (fun fb => by kernel_rfl) rfl trivial ?_
        refine WL.done rfl ?_
        exact WX.again k33 (Nat.lt_succ_self _) ((l27 ++ [t73], w64 (x28 + 1)), A80, c81) [3, 6, 9, 10, 11, 23, 24] rfl ⟨(hS83.subR [0, 1]).sub [2, 0] (by decide), hl36⟩
       rcases br_some hl36 with ⟨h84, hl36⟩ | ⟨h84, hl36⟩
       ·
        refine WL.setI 24 (eq_of_beq h84) rfl ?_
        refine seg 1 [] [3, 6, 9, 10, 11, 23, 24, 26] [(3, (sv A4 l6 c5)), (6, (sv A24 l27 c26)), (9, (sv Aa p0 ca)), (10, (iv (p0.length : Int))), (11, (iv x7)), (23, (.agg #[(iv ((rdD p0 x7 z_Tile).N)), (iv ((rdD p0 x7 z_Tile).E)), (iv ((rdD p0 x7 z_Tile).S)), (iv ((rdD p0 x7 z_Tile).W))])), (24, (iv 3)), (26, (iv ((rdD p0 x7 z_Tile).W)))] [] (fun fb => by kernel_rfl) rfl trivial ?_
        refine WL.setI 24 (eq_of_beq h84).symm rfl ?_
        refine seg 2 [] [3, 6, 8, 9, 10, 11, 23, 24] [(3, (sv A4 l6 c5)), (6, (sv A24 l27 c26)), (8, (iv ((rdD p0 x7 z_Tile).W))), (9, (sv Aa p0 ca)), (10, (iv (p0.length : Int))), (11, (iv x7)), (23, (.agg #[(iv ((rdD p0 x7 z_Tile).N)), (iv ((rdD p0 x7 z_Tile).E)), (iv ((rdD p0 x7 z_Tile).S)), (iv ((rdD p0 x7 z_Tile).W))])), (24, (iv x28))] [] (fun fb => by kernel_rfl) rfl trivial ?_
        refine WL.done rfl (WX.next (WC.region ?_))
        refine seg 2 [] [3, 9, 10, 11, 23, 24, 27, 28] [(3, (sv A4 l6 c5)), (9, (sv Aa p0 ca)), (10, (iv (p0.length : Int))), (11, (iv x7)), (23, (.agg #[(iv ((rdD p0 x7 z_Tile).N)), (iv ((rdD p0 x7 z_Tile).E)), (iv ((rdD p0 x7 z_Tile).S)), (iv ((rdD p0 x7 z_Tile).W))])), (24, (iv x28)), (27, (sv A24 l27 c26)), (28, (iv ((rdD p0 x7 z_Tile).W)))] [] (fun fb => by kernel_rfl) rfl trivial ?_
        obtain ⟨t88, ht89, hl36⟩ := bind_some hl36
        refine WL.call (some 29) 36 #[(iv ((rdD p0 x7 z_Tile).W))] (fun fb => by kernel_rfl) (itoaN_calls Tryd.strconv_Itoa ((rdD p0 x7 z_Tile).W) t88 _ (hS35.rd 1) ht89) (fun v w86 hR85 => ?_)
        obtain ⟨rfl, hk_⟩ := hR85
        have hS87 := hS35.keepN hk_
        refine ⟨trivial, ?_⟩
        refine WL.new hS87 30 [] (fun g => (.slice (some ⟨g, 0, none⟩) 1 1)) (.cells #[(.string t88)] 9 (0, 0)) [] (fun fb g => by kernel_rfl) trivial (fun g90 w91 hS92 => ?_)
        refine ⟨trivial, ?_⟩
        have hS93 := hS.go w91 [rowO 9 encStr (some ⟨g90, 0, none⟩) 1 [t88], rowO 9 encStr A4 c5 l6, rowO 9 encStr A24 c26 l27] (hS92.map1 0 _ (fun h => rowO.ofBlk h rfl (Nat.le_of_ble_eq_true (by kernel_rfl))) (fun _ h => by obtain ⟨_, h1, h2⟩ := h; injection h1 with h1; subst h1; exact h2) [1, 2] (by decide) (by decide))
        obtain ⟨h94, hl36⟩ := as_some hl36
        refine WL.append hS93 2 (d := 31) (tS := 42) (z := (.string ByteArray.empty)) (bytes := 16) (c2 := 1) rfl (fun fb => by kernel_rfl) (rowO.rd (hS93.own 0).1) (by kernel_rfl) (by kernel_rfl) rfl (by decide) h94 (by decide) [0, 1] (by decide) (by decide) (fun A95 c96 w97 hS98 => ?_)
        refine ⟨trivial, ?_⟩
        refine seg 6 [] [3, 6, 9, 10, 11, 23, 24] [(3, (sv A4 l6 c5)), (6, (sv A95 (l27 ++ [t88]) c96)), (9, (sv Aa p0 ca)), (10, (iv (p0.length : Int))), (11, (iv x7)), (23, (.agg #[(iv ((rdD p0 x7 z_Tile).N)), (iv ((rdD p0 x7 z_Tile).E)), (iv ((rdD p0 x7 z_Tile).S)), (iv ((rdD p0 x7 z_Tile).W))])), (24, (iv x28))] [] (fun fb => by kernel_rfl) rfl trivial ?_
        refine WL.done rfl ?_
        refine WX.blockN (WX.next ?_)
        refine WC.region ?_
        refine seg 2 [] [3, 6, 9, 10, 11, 23, 24] [(3, (sv A4 l6 c5)), (6, (sv A95 (l27 ++ [t88]) c96)), (9, (sv Aa p0 ca)), (10, (iv (p0.length : Int))), (11, (iv x7)), (23, (.agg #[(iv ((rdD p0 x7 z_Tile).N)), (iv ((rdD p0 x7 z_Tile).E)), (iv ((rdD p0 x7 z_Tile).S)), (iv ((rdD p0 x7 z_Tile).W))])), (24, (iv (w64 (x28 + 1))))] [] (fun fb => by kernel_rfl) rfl trivial ?_
        refine WL.done rfl ?_
        exact WX.again k33 (Nat.lt_succ_self _) ((l27 ++ [t88], w64 (x28 + 1)), A95, c96) [3, 6, 9, 10, 11, 23, 24] rfl ⟨(hS98.subR [0, 1]).sub [2, 0] (by decide), hl36⟩
       cases hl36
      refine WC.condF2 (fun fb => by kernel_rfl) h37 ?_
      refine WC.exit ?_
      injection hl36 with hl36
      exact WX.thenX (WX.thenX (WX.blockHere (WX.to Kx31 (l27, A24, c26) [3, 6, 9, 10, 11] rfl ⟨(hS35.subR [0, 1]).sub [0, 1] (by decide), hl36.symm⟩)))
    rintro ⟨y102, A29, c30⟩ w99 ⟨hS100, hq101⟩
    subst hq101
    refine WX.next (WC.region ?_)
    refine seg 2 [] [9, 10, 11, 33, 34] [(9, (sv Aa p0 ca)), (10, (iv (p0.length : Int))), (11, (iv x7)), (33, (sv A4 l6 c5)), (34, (sv A29 x31 c30))] [] (fun fb => by kernel_rfl) rfl trivial ?_
    obtain ⟨t106, ht107, hl15⟩ := bind_some hl15
    refine WL.call (some 35) 37 #[(sv A29 x31 c30), (.string (⟨#[46]⟩ : ByteArray))] (fun fb => by kernel_rfl) (join_calls Tryd.strings_Join Tryd.strings_Join_none x31 (⟨#[46]⟩ : ByteArray) A29 c30 t106 _ (hS100.ow 1) ht107) (fun v w104 hR103 => ?_)
    obtain ⟨rfl, hk_⟩ := hR103
    have hS105 := hS100.keepN hk_
    refine ⟨trivial, ?_⟩
    refine WL.new hS105 36 [] (fun g => (.slice (some ⟨g, 0, none⟩) 1 1)) (.cells #[(.string t106)] 9 (0, 0)) [] (fun fb g => by kernel_rfl) trivial (fun g108 w109 hS110 => ?_)
    refine ⟨trivial, ?_⟩
    have hS111 := hS.go w109 [rowO 9 encStr (some ⟨g108, 0, none⟩) 1 [t106], rowO 9 encStr A4 c5 l6, rowO 9 encStr A29 c30 x31] (hS110.map1 0 _ (fun h => rowO.ofBlk h rfl (Nat.le_of_ble_eq_true (by kernel_rfl))) (fun _ h => by obtain ⟨_, h1, h2⟩ := h; injection h1 with h1; subst h1; exact h2) [1, 2] (by decide) (by decide))
    obtain ⟨h112, hl15⟩ := as_some hl15
    refine WL.append hS111 1 (d := 37) (tS := 42) (z := (.string ByteArray.empty)) (bytes := 16) (c2 := 1) rfl (fun fb => by kernel_rfl) (rowO.rd (hS111.own 0).1) (by kernel_rfl) (by kernel_rfl) rfl (by decide) h112 (by decide) [0, 2] (by decide) (by decide) (fun A113 c114 w115 hS116 => ?_)
    refine ⟨trivial, ?_⟩
    refine seg 6 [] [3, 9, 10, 11] [(3, (sv A113 (l6 ++ [t106]) c114)), (9, (sv Aa p0 ca)), (10, (iv (p0.length : Int))), (11, (iv x7))] [] (fun fb => by kernel_rfl) rfl trivial ?_
    refine WL.done rfl ?_
    refine WX.blockN (WX.next ?_)
    refine WC.region ?_
    refine seg 2 [] [3, 9, 10, 11] [(3, (sv A113 (l6 ++ [t106]) c114)), (9, (sv Aa p0 ca)), (10, (iv (p0.length : Int))), (11, (iv (w64 (x7 + 1))))] [] (fun fb => by kernel_rfl) rfl trivial ?_
    refine WL.done rfl ?_
    exact WX.again k12 (Nat.lt_succ_self _) ((l6 ++ [t106], w64 (x7 + 1)), A113, c114) [3, 9, 10, 11] rfl ⟨(hS116.subR [0, 1]).sub [0] (by decide), hl15⟩
   refine WC.condF2 (fun fb => by kernel_rfl) h16 ?_
   refine WC.exit ?_
   injection hl15 with hl15
   exact WX.thenX (WX.thenX (WX.blockHere (WX.to Kx10 (l6, A4, c5) [3] rfl ⟨(hS14.subR [0, 1]).sub [0] (by decide), hl15.symm⟩)))
 rintro ⟨y120, A8, c9⟩ w117 ⟨hS118, hq119⟩
 subst hq119
 refine WX.next (WC.seq (WC.region ?_))
 refine seg 1 [] [39] [(39, (sv A8 x10 c9))] [] (fun fb => by kernel_rfl) rfl trivial ?_
 obtain ⟨t124, ht125, hf⟩ := bind_some hf
 refine WL.call (some 40) 37 #[(sv A8 x10 c9), (.string (⟨#[32]⟩ : ByteArray))] (fun fb => by kernel_rfl) (join_calls Tryd.strings_Join Tryd.strings_Join_none x10 (⟨#[32]⟩ : ByteArray) A8 c9 t124 _ (hS118.ow 0) ht125) (fun v w122 hR121 => ?_)
 obtain ⟨rfl, hk_⟩ := hR121
 have hS123 := hS118.keepN hk_
 refine ⟨trivial, ?_⟩
 refine seg 3 [] [2] [(2, (.string t124))] [] (fun fb => by kernel_rfl) rfl trivial ?_
 refine WL.done rfl (WX.next ?_)
 refine WC.ret ?_
 injection hf with hf
 subst hf
 exact WX.ret_ [] (.string t124) [] (fun fb => by kernel_rfl) trivial ⟨_, rfl, rfl, hS123.keep⟩
theorem tile_Parse_calls (k : Nat) (p0 : ByteArray) (mG : Glo) (r : (List Tile) × Int) (w : World) (hR0 : RO NoS w (gloO Tryd.prog 2 5 0 1 mG)) (hf : tile_Parse k p0 = some r) :
  CallsR Tryd.prog 6 #[(.string p0)] w (fun v w' => ∃ (A1_ : Option Addr), ∃ (c1_ : Nat), v = (.tuple #[(sv A1_ r.1 c1_), (iv r.2)]) ∧ St NoS w w' [] [rowO 50 enc_Tile A1_ c1_ r.1]) := by
 have hS : St NoS w w [gloO Tryd.prog 2 5 0 1 mG] [] := St.init (ro_cons hR0 (ro_nil _ _))
 refine enter 76 Tryd.func6 rfl Tryd.ntmps6 rfl ?_
 unfold tile_Parse at hf
 refine WC.seq (WC.region ?_)
 refine seg 2 [] [0] [(0, (.string p0))] [] (fun fb => by kernel_rfl) rfl trivial ?_
 refine WL.done rfl (WX.next (WC.seq (WC.region ?_)))
 refine seg 1 [] [0, 4] [(0, (.string p0)), (4, (.slice none 0 0))] [] (fun fb => by kernel_rfl) rfl trivial ?_
 refine WL.done rfl (WX.next (WC.seq (WC.seq (WC.region ?_))))
 refine seg 1 [] [0, 4, 13] [(0, (.string p0)), (4, (.slice none 0 0)), (13, (.string p0))] [] (fun fb => by kernel_rfl) rfl trivial ?_
 refine seg 2 [] [0, 4, 14] [(0, (.string p0)), (4, (.slice none 0 0)), (14, (bv (p0.toList == (⟨#[]⟩ : ByteArray).toList)))] [] (fun fb => by kernel_rfl) rfl trivial ?_
 refine WL.setB 14 (strEq_raw p0 (⟨#[]⟩ : ByteArray)) rfl ?_
 refine WL.done rfl (WX.next ?_)
 rcases br_some hf with ⟨h2, hf⟩ | ⟨h2, hf⟩
 ·refine WC.condT2 (fun fb => by kernel_rfl) h2 ?_
  refine WC.seq (WC.region ?_)
  refine seg 2 [] [2, 3] [(2, (.slice none 0 0)), (3, (iv 0))] [] (fun fb => by kernel_rfl) rfl trivial ?_
  refine WL.done rfl (WX.next ?_)
  refine WC.ret ?_
  have hS3 := hS.nilrow 50 enc_Tile
  injection hf with hf
  subst hf
  exact WX.thenR (WX.ret_ [] (.tuple #[(sv none ([] : List Tile) 0), (iv 0)]) [] (fun fb => by kernel_rfl) trivial ⟨_, rfl, none, 0, rfl, (hS3.sub [0] (by decide)).noR⟩)
 refine WC.condF2 (fun fb => by kernel_rfl) h2 ?_
 refine WC.skip (WX.next (WC.seq (WC.seq (WC.region ?_))))
 refine seg 3 [] [0, 4, 17] [(0, (.string p0)), (4, (.slice none 0 0)), (17, (bv (decide ((p0.size : Int) > 16000))))] [] (fun fb => by kernel_rfl) rfl trivial ?_
 refine WL.done rfl (WX.next ?_)
 rcases br_some hf with ⟨h4, hf⟩ | ⟨h4, hf⟩
 ·refine WC.condT2 (fun fb => by kernel_rfl) h4 ?_
  refine WC.seq (WC.region ?_)
  refine seg 2 [] [2, 3] [(2, (.slice none 0 0)), (3, (iv 3))] [] (fun fb => by kernel_rfl) rfl trivial ?_
  refine WL.done rfl (WX.next ?_)
  refine WC.ret ?_
  have hS5 := hS.nilrow 50 enc_Tile
  injection hf with hf
  subst hf
  exact WX.thenR (WX.ret_ [] (.tuple #[(sv none ([] : List Tile) 0), (iv 3)]) [] (fun fb => by kernel_rfl) trivial ⟨_, rfl, none, 0, rfl, (hS5.sub [0] (by decide)).noR⟩)
 refine WC.condF2 (fun fb => by kernel_rfl) h4 ?_
 refine WC.skip (WX.next (WC.seq (WC.seq (WC.region ?_))))
 refine seg 1 [] [0, 4, 18] [(0, (.string p0)), (4, (.slice none 0 0)), (18, (.string p0))] [] (fun fb => by kernel_rfl) rfl trivial ?_
 obtain ⟨h9, hf⟩ := as_some hf
 refine WL.call (some 19) 23 #[(.string p0), (.string (⟨#[32]⟩ : ByteArray))] (fun fb => by kernel_rfl) (split_calls Tryd.strings_Split p0 (⟨#[32]⟩ : ByteArray) mG.m _ (gloO.cel (hS.rd 0)) h9) (fun v w7 hR6 => ?_)
 obtain ⟨A10, c11, rfl, hk_⟩ := hR6
 have hS8 := hS.go w7 [rowO 9 encStr A10 c11 (splitP p0 (⟨#[32]⟩ : ByteArray))] (hS.call hk_ [] [] (fun g hg => hg.elim) (by simp) (by decide))
 refine ⟨trivial, ?_⟩
 refine seg 4 [] [0, 4, 19, 20, 21] [(0, (.string p0)), (4, (.slice none 0 0)), (19, (sv A10 (splitP p0 (⟨#[32]⟩ : ByteArray)) c11)), (20, (iv ((splitP p0 (⟨#[32]⟩ : ByteArray)).length : Int))), (21, (iv 0))] [] (fun fb => by kernel_rfl) rfl trivial ?_
 refine WL.done rfl (WX.next ?_)
 have hS12 := hS8.nilrow 50 enc_Tile
 obtain ⟨x19, hx20, hf⟩ := bind_some hf
 refine WC.cutN (T := (List Tile) × (Option Addr) × Nat) (fun t => [(0, (.string p0)), (4, (sv t.2.1 t.1 t.2.2))]) (fun t w1 => St NoS w w1 [gloO Tryd.prog 2 5 0 1 mG] [rowO 50 enc_Tile t.2.1 t.2.2 t.1] ∧ x19 = .inr t.1) (fun Kx19 => ?_) ?_
 ·
  refine WC.block ?_
  refine WC.loop (T := ((List Tile) × Int) × (Option Addr) × Nat) (fun t => [(0, (.string p0)), (4, (sv t.2.1 t.1.1 t.2.2)), (19, (sv A10 (splitP p0 (⟨#[32]⟩ : ByteArray)) c11)), (20, (iv ((splitP p0 (⟨#[32]⟩ : ByteArray)).length : Int))), (21, (iv t.1.2))]) (fun n t w1 => St NoS w w1 [gloO Tryd.prog 2 5 0 1 mG] [rowO 50 enc_Tile t.2.1 t.2.2 t.1.1, rowO 9 encStr A10 c11 (splitP p0 (⟨#[32]⟩ : ByteArray))] ∧ tile_Parse.l0 n t.1.1 t.1.2 p0 = some x19) k ((([] : List Tile), 0), none, 0) [0, 4, 19, 20, 21] rfl ⟨(hS12.subR [0]).sub [0, 1] (by decide), hx20⟩ ?_
  rintro k21 ⟨⟨l15, x16⟩, A13, c14⟩ w22 ⟨hS23, hl24⟩
  cases k21 with
  | zero => rw [tile_Parse.l0] at hl24; cases hl24
  | succ k21 =>
   rw [tile_Parse.l0] at hl24
   refine WC.seq (WC.region ?_)
   refine seg 1 [] [0, 4, 19, 20, 21, 22] [(0, (.string p0)), (4, (sv A13 l15 c14)), (19, (sv A10 (splitP p0 (⟨#[32]⟩ : ByteArray)) c11)), (20, (iv ((splitP p0 (⟨#[32]⟩ : ByteArray)).length : Int))), (21, (iv x16)), (22, (bv (decide (x16 < ((splitP p0 (⟨#[32]⟩ : ByteArray)).length : Int)))))] [] (fun fb => by kernel_rfl) rfl trivial ?_
   refine WL.done rfl (WX.next (WC.seq ?_))
   rcases br_some hl24 with ⟨h25, hl24⟩ | ⟨h25, hl24⟩
   ·refine WC.condT2 (fun fb => by kernel_rfl) h25 ?_
    refine WC.skip (WX.next (WC.seq (WC.block (WC.seq (WC.region ?_)))))
    obtain ⟨h26, hl24⟩ := as_some hl24
    refine seg 3 [.v (.string (rdD (splitP p0 (⟨#[32]⟩ : ByteArray)) x16 ByteArray.empty))] [0, 4, 6, 19, 20, 21] [(0, (.string p0)), (4, (sv A13 l15 c14)), (6, (.string (rdD (splitP p0 (⟨#[32]⟩ : ByteArray)) x16 ByteArray.empty))), (19, (sv A10 (splitP p0 (⟨#[32]⟩ : ByteArray)) c11)), (20, (iv ((splitP p0 (⟨#[32]⟩ : ByteArray)).length : Int))), (21, (iv x16))] [.idx A10 x16 (splitP p0 (⟨#[32]⟩ : ByteArray)).length, .cell ((adr A10).add ((x16).toNat * 1)) (.string (rdD (splitP p0 (⟨#[32]⟩ : ByteArray)) x16 ByteArray.empty))] (fun fb => by kernel_rfl) rfl ⟨rowR.adr (rowO.rd (hS23.own 1).1) h26.1 h26.2, rowR.cell (rowO.rd (hS23.own 1).1) ByteArray.empty h26.1 h26.2 0 rfl, trivial⟩ ?_
    refine WL.done rfl (WX.next (WC.seq (WC.region ?_)))
    refine seg 1 [] [0, 4, 19, 20, 21, 25] [(0, (.string p0)), (4, (sv A13 l15 c14)), (19, (sv A10 (splitP p0 (⟨#[32]⟩ : ByteArray)) c11)), (20, (iv ((splitP p0 (⟨#[32]⟩ : ByteArray)).length : Int))), (21, (iv x16)), (25, (.string (rdD (splitP p0 (⟨#[32]⟩ : ByteArray)) x16 ByteArray.empty)))] [] (fun fb => by kernel_rfl) rfl trivial ?_
    obtain ⟨h30, hl24⟩ := as_some hl24
    refine WL.call (some 26) 23 #[(.string (rdD (splitP p0 (⟨#[32]⟩ : ByteArray)) x16 ByteArray.empty)), (.string (⟨#[46]⟩ : ByteArray))] (fun fb => by kernel_rfl) (split_calls Tryd.strings_Split (rdD (splitP p0 (⟨#[32]⟩ : ByteArray)) x16 ByteArray.empty) (⟨#[46]⟩ : ByteArray) mG.m _ (gloO.cel (hS23.rd 0)) h30) (fun v w28 hR27 => ?_)
    obtain ⟨A31, c32, rfl, hk_⟩ := hR27
    have hS29 := hS8.go w28 [rowO 9 encStr A31 c32 (splitP (rdD (splitP p0 (⟨#[32]⟩ : ByteArray)) x16 ByteArray.empty) (⟨#[46]⟩ : ByteArray)), rowO 50 enc_Tile A13 c14 l15, rowO 9 encStr A10 c11 (splitP p0 (⟨#[32]⟩ : ByteArray))] (hS23.call hk_ [] [0, 1] (fun g hg => hg.elim) (by simp) (by decide))
    refine ⟨trivial, ?_⟩
    refine seg 3 [] [0, 4, 7, 19, 20, 21] [(0, (.string p0)), (4, (sv A13 l15 c14)), (7, (sv A31 (splitP (rdD (splitP p0 (⟨#[32]⟩ : ByteArray)) x16 ByteArray.empty) (⟨#[46]⟩ : ByteArray)) c32)), (19, (sv A10 (splitP p0 (⟨#[32]⟩ : ByteArray)) c11)), (20, (iv ((splitP p0 (⟨#[32]⟩ : ByteArray)).length : Int))), (21, (iv x16))] [] (fun fb => by kernel_rfl) rfl trivial ?_
    refine WL.done rfl (WX.next (WC.seq (WC.seq (WC.region ?_))))
    refine seg 4 [] [0, 4, 7, 19, 20, 21, 30] [(0, (.string p0)), (4, (sv A13 l15 c14)), (7, (sv A31 (splitP (rdD (splitP p0 (⟨#[32]⟩ : ByteArray)) x16 ByteArray.empty) (⟨#[46]⟩ : ByteArray)) c32)), (19, (sv A10 (splitP p0 (⟨#[32]⟩ : ByteArray)) c11)), (20, (iv ((splitP p0 (⟨#[32]⟩ : ByteArray)).length : Int))), (21, (iv x16)), (30, (bv (((splitP (rdD (splitP p0 (⟨#[32]⟩ : ByteArray)) x16 ByteArray.empty) (⟨#[46]⟩ : ByteArray)).length : Int) != 4)))] [] (fun fb => by kernel_rfl) rfl trivial ?_
    refine WL.cutV (T := Bool) 8 (fun t => [(34, (bv t)), (0, (.string p0)), (4, (sv A13 l15 c14)), (7, (sv A31 (splitP (rdD (splitP p0 (⟨#[32]⟩ : ByteArray)) x16 ByteArray.empty) (⟨#[46]⟩ : ByteArray)) c32)), (19, (sv A10 (splitP p0 (⟨#[32]⟩ : ByteArray)) c11)), (20, (iv ((splitP p0 (⟨#[32]⟩ : ByteArray)).length : Int))), (21, (iv x16))]) (fun t => ((((splitP (rdD (splitP p0 (⟨#[32]⟩ : ByteArray)) x16 ByteArray.empty) (⟨#[46]⟩ : ByteArray)).length : Int) != 4) || (decide ((l15.length : Int) > 1000))) = t) (fun K => ?_) ?_
    ·
     rcases Bool.eq_false_or_eq_true (((splitP (rdD (splitP p0 (⟨#[32]⟩ : ByteArray)) x16 ByteArray.empty) (⟨#[46]⟩ : ByteArray)).length : Int) != 4) with h33 | h33
     ·
      refine WL.setB 30 h33 rfl ?_
      refine seg 8 [] [0, 4, 7, 19, 20, 21, 34] [(0, (.string p0)), (4, (sv A13 l15 c14)), (7, (sv A31 (splitP (rdD (splitP p0 (⟨#[32]⟩ : ByteArray)) x16 ByteArray.empty) (⟨#[46]⟩ : ByteArray)) c32)), (19, (sv A10 (splitP p0 (⟨#[32]⟩ : ByteArray)) c11)), (20, (iv ((splitP p0 (⟨#[32]⟩ : ByteArray)).length : Int))), (21, (iv x16)), (34, (bv true))] [] (fun fb => by kernel_rfl) rfl trivial ?_
      exact WL.toV K true [34, 0, 4, 7, 19, 20, 21] rfl (by first | (rw [h33]; done) | (rw [h33]; rfl))
     refine WL.setB 30 h33 rfl ?_
     refine seg 8 [] [0, 4, 7, 19, 20, 21, 34] [(0, (.string p0)), (4, (sv A13 l15 c14)), (7, (sv A31 (splitP (rdD (splitP p0 (⟨#[32]⟩ : ByteArray)) x16 ByteArray.empty) (⟨#[46]⟩ : ByteArray)) c32)), (19, (sv A10 (splitP p0 (⟨#[32]⟩ : ByteArray)) c11)), (20, (iv ((splitP p0 (⟨#[32]⟩ : ByteArray)).length : Int))), (21, (iv x16)), (34, (bv (decide ((l15.length : Int) > 1000))))] [] (fun fb => by kernel_rfl) rfl trivial ?_
     exact WL.toV K (decide ((l15.length : Int) > 1000)) [34, 0, 4, 7, 19, 20, 21] rfl (by first | (rw [h33]; done) | (rw [h33]; rfl))
    rintro b34 rfl
    refine WL.done rfl (WX.next ?_)
    rcases br_some hl24 with ⟨h35, hl24⟩ | ⟨h35, hl24⟩
    ·refine WC.condT2 (fun fb => by kernel_rfl) h35 ?_
     refine WC.seq (WC.region ?_)
     refine seg 2 [] [2, 3] [(2, (.slice none 0 0)), (3, (iv 3))] [] (fun fb => by kernel_rfl) rfl trivial ?_
     refine WL.done rfl (WX.next ?_)
     refine WC.ret ?_
     have hS36 := hS29.nilrow 50 enc_Tile
     injection hl24 with hl24
     subst hl24
     injection hf with hf
     subst hf
     exact WX.thenR (WX.blockR (WX.thenR (WX.thenR (WX.blockR (WX.thenR (WX.ret_ [] (.tuple #[(sv none ([] : List Tile) 0), (iv 3)]) [] (fun fb => by kernel_rfl) trivial ⟨_, rfl, none, 0, rfl, (hS36.sub [0] (by decide)).noR⟩))))))
    refine WC.condF2 (fun fb => by kernel_rfl) h35 ?_
    refine WC.skip (WX.next (WC.seq (WC.region ?_)))
    refine WL.new hS29 8 [] (fun g => (pt g)) (.cells #[(iv 0), (iv 0), (iv 0), (iv 0)] 44 (0, 0)) [] (fun fb g => by kernel_rfl) trivial (fun g37 w38 hS39 => ?_)
    refine ⟨trivial, ?_⟩
    refine WL.done rfl (WX.next (WC.seq (WC.seq (WC.region ?_))))
    refine seg 3 [] [0, 4, 8, 19, 20, 21, 35, 36, 37] [(0, (.string p0)), (4, (sv A13 l15 c14)), (8, (pt g37)), (19, (sv A10 (splitP p0 (⟨#[32]⟩ : ByteArray)) c11)), (20, (iv ((splitP p0 (⟨#[32]⟩ : ByteArray)).length : Int))), (21, (iv x16)), (35, (sv A31 (splitP (rdD (splitP p0 (⟨#[32]⟩ : ByteArray)) x16 ByteArray.empty) (⟨#[46]⟩ : ByteArray)) c32)), (36, (iv ((splitP (rdD (splitP p0 (⟨#[32]⟩ : ByteArray)) x16 ByteArray.empty) (⟨#[46]⟩ : ByteArray)).length : Int))), (37, (iv 0))] [] (fun fb => by kernel_rfl) rfl trivial ?_
    refine WL.done rfl (WX.next ?_)
    obtain ⟨x45, hx46, hl24⟩ := bind_some hl24
    refine WC.cutN (T := Int × Int × Int × Int) (fun t => [(0, (.string p0)), (4, (sv A13 l15 c14)), (8, (pt g37)), (19, (sv A10 (splitP p0 (⟨#[32]⟩ : ByteArray)) c11)), (20, (iv ((splitP p0 (⟨#[32]⟩ : ByteArray)).length : Int))), (21, (iv x16))]) (fun t w1 => St NoS w w1 [gloO Tryd.prog 2 5 0 1 mG] [rowO 50 enc_Tile A13 c14 l15, blk g37 (.cells #[(iv t.1), (iv t.2.1), (iv t.2.2.1), (iv t.2.2.2)] 44 (0, 0)), rowO 9 encStr A10 c11 (splitP p0 (⟨#[32]⟩ : ByteArray))] ∧ x45 = .inr t) (fun Kx45 => ?_) ?_
    ·
     refine WC.block ?_
     refine WC.loop (T := Int × Int × Int × Int × Int) (fun t => [(0, (.string p0)), (4, (sv A13 l15 c14)), (8, (pt g37)), (19, (sv A10 (splitP p0 (⟨#[32]⟩ : ByteArray)) c11)), (20, (iv ((splitP p0 (⟨#[32]⟩ : ByteArray)).length : Int))), (21, (iv x16)), (35, (sv A31 (splitP (rdD (splitP p0 (⟨#[32]⟩ : ByteArray)) x16 ByteArray.empty) (⟨#[46]⟩ : ByteArray)) c32)), (36, (iv ((splitP (rdD (splitP p0 (⟨#[32]⟩ : ByteArray)) x16 ByteArray.empty) (⟨#[46]⟩ : ByteArray)).length : Int))), (37, (iv t.2.2.2.2))]) (fun n t w1 => St NoS w w1 [gloO Tryd.prog 2 5 0 1 mG] [rowO 50 enc_Tile A13 c14 l15, blk g37 (.cells #[(iv t.1), (iv t.2.1), (iv t.2.2.1), (iv t.2.2.2.1)] 44 (0, 0)), rowO 9 encStr A10 c11 (splitP p0 (⟨#[32]⟩ : ByteArray)), rowO 9 encStr A31 c32 (splitP (rdD (splitP p0 (⟨#[32]⟩ : ByteArray)) x16 ByteArray.empty) (⟨#[46]⟩ : ByteArray))] ∧ tile_Parse.l1 n t.1 t.2.1 t.2.2.1 t.2.2.2.1 t.2.2.2.2 p0 x16 = some x45) k21 (0, 0, 0, 0, 0) [0, 4, 8, 19, 20, 21, 35, 36, 37] rfl ⟨(hS39.subR [0]).sub [2, 0, 3, 1] (by decide), hx46⟩ ?_
     rintro k47 ⟨x40, x41, x42, x43, x44⟩ w48 ⟨hS49, hl50⟩
     cases k47 with
     | zero => rw [tile_Parse.l1] at hl50; cases hl50
     | succ k47 =>
      rw [tile_Parse.l1] at hl50
      refine WC.seq (WC.region ?_)
      refine seg 1 [] [0, 4, 8, 19, 20, 21, 35, 36, 37, 38] [(0, (.string p0)), (4, (sv A13 l15 c14)), (8, (pt g37)), (19, (sv A10 (splitP p0 (⟨#[32]⟩ : ByteArray)) c11)), (20, (iv ((splitP p0 (⟨#[32]⟩ : ByteArray)).length : Int))), (21, (iv x16)), (35, (sv A31 (splitP (rdD (splitP p0 (⟨#[32]⟩ : ByteArray)) x16 ByteArray.empty) (⟨#[46]⟩ : ByteArray)) c32)), (36, (iv ((splitP (rdD (splitP p0 (⟨#[32]⟩ : ByteArray)) x16 ByteArray.empty) (⟨#[46]⟩ : ByteArray)).length : Int))), (37, (iv x44)), (38, (bv (decide (x44 < ((splitP (rdD (splitP p0 (⟨#[32]⟩ : ByteArray)) x16 ByteArray.empty) (⟨#[46]⟩ : ByteArray)).length : Int)))))] [] (fun fb => by kernel_rfl) rfl trivial ?_
      refine WL.done rfl (WX.next (WC.seq ?_))
      rcases br_some hl50 with ⟨h51, hl50⟩ | ⟨h51, hl50⟩
      ·refine WC.condT2 (fun fb => by kernel_rfl) h51 ?_
       refine WC.skip (WX.next (WC.seq (WC.block (WC.seq (WC.region ?_)))))
       refine seg 1 [] [0, 4, 8, 19, 20, 21, 35, 36, 37, 39] [(0, (.string p0)), (4, (sv A13 l15 c14)), (8, (pt g37)), (19, (sv A10 (splitP p0 (⟨#[32]⟩ : ByteArray)) c11)), (20, (iv ((splitP p0 (⟨#[32]⟩ : ByteArray)).length : Int))), (21, (iv x16)), (35, (sv A31 (splitP (rdD (splitP p0 (⟨#[32]⟩ : ByteArray)) x16 ByteArray.empty) (⟨#[46]⟩ : ByteArray)) c32)), (36, (iv ((splitP (rdD (splitP p0 (⟨#[32]⟩ : ByteArray)) x16 ByteArray.empty) (⟨#[46]⟩ : ByteArray)).length : Int))), (37, (iv x44)), (39, (iv x44))] [] (fun fb => by kernel_rfl) rfl trivial ?_
       obtain ⟨h52, hl50⟩ := as_some hl50
       refine seg 5 [.v (.string (rdD (splitP (rdD (splitP p0 (⟨#[32]⟩ : ByteArray)) x16 ByteArray.empty) (⟨#[46]⟩ : ByteArray)) x44 ByteArray.empty))] [0, 4, 8, 9, 10, 19, 20, 21, 35, 36, 37] [(0, (.string p0)), (4, (sv A13 l15 c14)), (8, (pt g37)), (9, (iv x44)), (10, (.string (rdD (splitP (rdD (splitP p0 (⟨#[32]⟩ : ByteArray)) x16 ByteArray.empty) (⟨#[46]⟩ : ByteArray)) x44 ByteArray.empty))), (19, (sv A10 (splitP p0 (⟨#[32]⟩ : ByteArray)) c11)), (20, (iv ((splitP p0 (⟨#[32]⟩ : ByteArray)).length : Int))), (21, (iv x16)), (35, (sv A31 (splitP (rdD (splitP p0 (⟨#[32]⟩ : ByteArray)) x16 ByteArray.empty) (⟨#[46]⟩ : ByteArray)) c32)), (36, (iv ((splitP (rdD (splitP p0 (⟨#[32]⟩ : ByteArray)) x16 ByteArray.empty) (⟨#[46]⟩ : ByteArray)).length : Int))), (37, (iv x44))] [.idx A31 x44 (splitP (rdD (splitP p0 (⟨#[32]⟩ : ByteArray)) x16 ByteArray.empty) (⟨#[46]⟩ : ByteArray)).length, .cell ((adr A31).add ((x44).toNat * 1)) (.string (rdD (splitP (rdD (splitP p0 (⟨#[32]⟩ : ByteArray)) x16 ByteArray.empty) (⟨#[46]⟩ : ByteArray)) x44 ByteArray.empty))] (fun fb => by kernel_rfl) rfl ⟨rowR.adr (rowO.rd (hS49.own 3).1) h52.1 h52.2, rowR.cell (rowO.rd (hS49.own 3).1) ByteArray.empty h52.1 h52.2 0 rfl, trivial⟩ ?_
       refine WL.done rfl (WX.next (WC.seq (WC.region ?_)))
       refine seg 1 [] [0, 4, 8, 9, 19, 20, 21, 35, 36, 37, 43] [(0, (.string p0)), (4, (sv A13 l15 c14)), (8, (pt g37)), (9, (iv x44)), (19, (sv A10 (splitP p0 (⟨#[32]⟩ : ByteArray)) c11)), (20, (iv ((splitP p0 (⟨#[32]⟩ : ByteArray)).length : Int))), (21, (iv x16)), (35, (sv A31 (splitP (rdD (splitP p0 (⟨#[32]⟩ : ByteArray)) x16 ByteArray.empty) (⟨#[46]⟩ : ByteArray)) c32)), (36, (iv ((splitP (rdD (splitP p0 (⟨#[32]⟩ : ByteArray)) x16 ByteArray.empty) (⟨#[46]⟩ : ByteArray)).length : Int))), (37, (iv x44)), (43, (.string (rdD (splitP (rdD (splitP p0 (⟨#[32]⟩ : ByteArray)) x16 ByteArray.empty) (⟨#[46]⟩ : ByteArray)) x44 ByteArray.empty)))] [] (fun fb => by kernel_rfl) rfl trivial ?_
       obtain ⟨t56, ht57, hl50⟩ := bind_some hl50
       refine WL.call (some 44) 24 #[(.string (rdD (splitP (rdD (splitP p0 (⟨#[32]⟩ : ByteArray)) x16 ByteArray.empty) (⟨#[46]⟩ : ByteArray)) x44 ByteArray.empty))] (fun fb => by kernel_rfl) (atoiN_calls Tryd.strconv_Atoi_ok Tryd.strconv_Atoi_syntax Tryd.strconv_Atoi_range (rdD (splitP (rdD (splitP p0 (⟨#[32]⟩ : ByteArray)) x16 ByteArray.empty) (⟨#[46]⟩ : ByteArray)) x44 ByteArray.empty) t56 _ (hS49.rd 0) ht57) (fun v w54 hR53 => ?_)
       obtain ⟨x58, rfl, hx59, hk_⟩ := hR53
       have hS55 := hS49.keepN hk_
       refine ⟨trivial, ?_⟩
       rcases br_some hl50 with ⟨h60, hl50⟩ | ⟨h60, hl50⟩
       ·
        obtain ⟨te61, pe62, rfl⟩ := errV_true h60 hx59
        refine seg 7 [] [0, 4, 8, 9, 11, 12, 19, 20, 21, 35, 36, 37] [(0, (.string p0)), (4, (sv A13 l15 c14)), (8, (pt g37)), (9, (iv x44)), (11, (iv t56.1)), (12, (.iface te61 pe62)), (19, (sv A10 (splitP p0 (⟨#[32]⟩ : ByteArray)) c11)), (20, (iv ((splitP p0 (⟨#[32]⟩ : ByteArray)).length : Int))), (21, (iv x16)), (35, (sv A31 (splitP (rdD (splitP p0 (⟨#[32]⟩ : ByteArray)) x16 ByteArray.empty) (⟨#[46]⟩ : ByteArray)) c32)), (36, (iv ((splitP (rdD (splitP p0 (⟨#[32]⟩ : ByteArray)) x16 ByteArray.empty) (⟨#[46]⟩ : ByteArray)).length : Int))), (37, (iv x44))] [] (fun fb => by kernel_rfl) rfl trivial ?_
        refine WL.done rfl (WX.next (WC.seq (WC.seq (WC.region ?_))))
        refine seg 2 [] [0, 4, 8, 9, 11, 19, 20, 21, 35, 36, 37, 48] [(0, (.string p0)), (4, (sv A13 l15 c14)), (8, (pt g37)), (9, (iv x44)), (11, (iv t56.1)), (19, (sv A10 (splitP p0 (⟨#[32]⟩ : ByteArray)) c11)), (20, (iv ((splitP p0 (⟨#[32]⟩ : ByteArray)).length : Int))), (21, (iv x16)), (35, (sv A31 (splitP (rdD (splitP p0 (⟨#[32]⟩ : ByteArray)) x16 ByteArray.empty) (⟨#[46]⟩ : ByteArray)) c32)), (36, (iv ((splitP (rdD (splitP p0 (⟨#[32]⟩ : ByteArray)) x16 ByteArray.empty) (⟨#[46]⟩ : ByteArray)).length : Int))), (37, (iv x44)), (48, (bv true))] [] (fun fb => by kernel_rfl) rfl trivial ?_
        refine WL.done rfl (WX.next ?_)
        refine WC.condT (fun fb => by kernel_rfl) ?_
        refine WC.seq (WC.region ?_)
        refine seg 2 [] [2, 3] [(2, (.slice none 0 0)), (3, (iv 3))] [] (fun fb => by kernel_rfl) rfl trivial ?_
        refine WL.done rfl (WX.next ?_)
        refine WC.ret ?_
        have hS63 := hS55.nilrow 50 enc_Tile
        injection hl50 with hl50
        subst hl50
        injection hl24 with hl24
        subst hl24
        injection hf with hf
        subst hf
        exact WX.thenR (WX.blockR (WX.thenR (WX.thenR (WX.blockR (WX.thenR (WX.blockR (WX.thenR (WX.thenR (WX.blockR (WX.thenR (WX.ret_ [] (.tuple #[(sv none ([] : List Tile) 0), (iv 3)]) [] (fun fb => by kernel_rfl) trivial ⟨_, rfl, none, 0, rfl, (hS63.sub [0] (by decide)).noR⟩)))))))))))
       obtain rfl := errV_false h60 hx59
       refine seg 7 [] [0, 4, 8, 9, 11, 12, 19, 20, 21, 35, 36, 37] [(0, (.string p0)), (4, (sv A13 l15 c14)), (8, (pt g37)), (9, (iv x44)), (11, (iv t56.1)), (12, .nilIface), (19, (sv A10 (splitP p0 (⟨#[32]⟩ : ByteArray)) c11)), (20, (iv ((splitP p0 (⟨#[32]⟩ : ByteArray)).length : Int))), (21, (iv x16)), (35, (sv A31 (splitP (rdD (splitP p0 (⟨#[32]⟩ : ByteArray)) x16 ByteArray.empty) (⟨#[46]⟩ : ByteArray)) c32)), (36, (iv ((splitP (rdD (splitP p0 (⟨#[32]⟩ : ByteArray)) x16 ByteArray.empty) (⟨#[46]⟩ : ByteArray)).length : Int))), (37, (iv x44))] [] (fun fb => by kernel_rfl) rfl trivial ?_
       refine WL.done rfl (WX.next (WC.seq (WC.seq (WC.region ?_))))
       refine seg 2 [] [0, 4, 8, 9, 11, 19, 20, 21, 35, 36, 37, 48] [(0, (.string p0)), (4, (sv A13 l15 c14)), (8, (pt g37)), (9, (iv x44)), (11, (iv t56.1)), (19, (sv A10 (splitP p0 (⟨#[32]⟩ : ByteArray)) c11)), (20, (iv ((splitP p0 (⟨#[32]⟩ : ByteArray)).length : Int))), (21, (iv x16)), (35, (sv A31 (splitP (rdD (splitP p0 (⟨#[32]⟩ : ByteArray)) x16 ByteArray.empty) (⟨#[46]⟩ : ByteArray)) c32)), (36, (iv ((splitP (rdD (splitP p0 (⟨#[32]⟩ : ByteArray)) x16 ByteArray.empty) (⟨#[46]⟩ : ByteArray)).length : Int))), (37, (iv x44)), (48, (bv false))] [] (fun fb => by kernel_rfl) rfl trivial ?_
       refine WL.done rfl (WX.next ?_)
       refine WC.condF (fun fb => by kernel_rfl) ?_
       refine WC.skip (WX.next (WC.region ?_))
       refine seg 2 [] [0, 4, 8, 19, 20, 21, 35, 36, 37, 49, 50] [(0, (.string p0)), (4, (sv A13 l15 c14)), (8, (pt g37)), (19, (sv A10 (splitP p0 (⟨#[32]⟩ : ByteArray)) c11)), (20, (iv ((splitP p0 (⟨#[32]⟩ : ByteArray)).length : Int))), (21, (iv x16)), (35, (sv A31 (splitP (rdD (splitP p0 (⟨#[32]⟩ : ByteArray)) x16 ByteArray.empty) (⟨#[46]⟩ : ByteArray)) c32)), (36, (iv ((splitP (rdD (splitP p0 (⟨#[32]⟩ : ByteArray)) x16 ByteArray.empty) (⟨#[46]⟩ : ByteArray)).length : Int))), (37, (iv x44)), (49, (iv x44)), (50, (iv t56.1))] [] (fun fb => by kernel_rfl) rfl trivial ?_
       rcases br_some hl50 with ⟨h65, hl50⟩ | ⟨h65, hl50⟩
       ·
        refine WL.setI 49 (eq_of_beq h65) rfl ?_
        refine seg 3 [] [0, 4, 8, 19, 20, 21, 35, 36, 37, 50, 51] [(0, (.string p0)), (4, (sv A13 l15 c14)), (8, (pt g37)), (19, (sv A10 (splitP p0 (⟨#[32]⟩ : ByteArray)) c11)), (20, (iv ((splitP p0 (⟨#[32]⟩ : ByteArray)).length : Int))), (21, (iv x16)), (35, (sv A31 (splitP (rdD (splitP p0 (⟨#[32]⟩ : ByteArray)) x16 ByteArray.empty) (⟨#[46]⟩ : ByteArray)) c32)), (36, (iv ((splitP (rdD (splitP p0 (⟨#[32]⟩ : ByteArray)) x16 ByteArray.empty) (⟨#[46]⟩ : ByteArray)).length : Int))), (37, (iv x44)), (50, (iv t56.1)), (51, (pt g37))] [] (fun fb => by kernel_rfl) rfl trivial ?_
        refine WL.store hS55 1 rfl [(0, (iv t56.1))] #[(iv t56.1), (iv x41), (iv x42), (iv x43)] (fun fb => by kernel_rfl) (by kernel_rfl) rfl [0, 2, 3] (by decide) (by decide) (fun w66 hS67 => ?_)
        refine ⟨trivial, ?_⟩
        refine WL.done rfl ?_
        refine WX.blockN (WX.next ?_)
        refine WC.region ?_
        refine seg 2 [] [0, 4, 8, 19, 20, 21, 35, 36, 37] [(0, (.string p0)), (4, (sv A13 l15 c14)), (8, (pt g37)), (19, (sv A10 (splitP p0 (⟨#[32]⟩ : ByteArray)) c11)), (20, (iv ((splitP p0 (⟨#[32]⟩ : ByteArray)).length : Int))), (21, (iv x16)), (35, (sv A31 (splitP (rdD (splitP p0 (⟨#[32]⟩ : ByteArray)) x16 ByteArray.empty) (⟨#[46]⟩ : ByteArray)) c32)), (36, (iv ((splitP (rdD (splitP p0 (⟨#[32]⟩ : ByteArray)) x16 ByteArray.empty) (⟨#[46]⟩ : ByteArray)).length : Int))), (37, (iv (w64 (x44 + 1))))] [] (fun fb => by kernel_rfl) rfl trivial ?_
        refine WL.done rfl ?_
        exact WX.again k47 (Nat.lt_succ_self _) (t56.1, x41, x42, x43, w64 (x44 + 1)) [0, 4, 8, 19, 20, 21, 35, 36, 37] rfl ⟨(hS67.subR [0]).sub [1, 0, 2, 3] (by decide), hl50⟩
       rcases br_some hl50 with ⟨h68, hl50⟩ | ⟨h68, hl50⟩
       ·
        refine WL.setI 49 (eq_of_beq h68) rfl ?_
        refine seg 3 [] [0, 4, 8, 19, 20, 21, 35, 36, 37, 50, 51] [(0, (.string p0)), (4, (sv A13 l15 c14)), (8, (pt g37)), (19, (sv A10 (splitP p0 (⟨#[32]⟩ : ByteArray)) c11)), (20, (iv ((splitP p0 (⟨#[32]⟩ : ByteArray)).length : Int))), (21, (iv x16)), (35, (sv A31 (splitP (rdD (splitP p0 (⟨#[32]⟩ : ByteArray)) x16 ByteArray.empty) (⟨#[46]⟩ : ByteArray)) c32)), (36, (iv ((splitP (rdD (splitP p0 (⟨#[32]⟩ : ByteArray)) x16 ByteArray.empty) (⟨#[46]⟩ : ByteArray)).length : Int))), (37, (iv x44)), (50, (iv t56.1)), (51, (.pointer (some ⟨g37, 1, none⟩)))] [] (fun fb => by kernel_rfl) rfl trivial ?_
        refine WL.store hS55 1 rfl [(1, (iv t56.1))] #[(iv x40), (iv t56.1), (iv x42), (iv x43)] (fun fb => by kernel_rfl) (by kernel_rfl) rfl [0, 2, 3] (by decide) (by decide) (fun w69 hS70 => ?_)
        refine ⟨trivial, ?_⟩
        refine WL.done rfl ?_
        refine WX.blockN (WX.next ?_)
        refine WC.region ?_
        refine seg 2 [] [0, 4, 8, 19, 20, 21, 35, 36, 37] [(0, (.string p0)), (4, (sv A13 l15 c14)), (8, (pt g37)), (19, (sv A10 (splitP p0 (⟨#[32]⟩ : ByteArray)) c11)), (20, (iv ((splitP p0 (⟨#[32]⟩ : ByteArray)).length : Int))), (21, (iv x16)), (35, (sv A31 (splitP (rdD (splitP p0 (⟨#[32]⟩ : ByteArray)) x16 ByteArray.empty) (⟨#[46]⟩ : ByteArray)) c32)), (36, (iv ((splitP (rdD (splitP p0 (⟨#[32]⟩ : ByteArray)) x16 ByteArray.empty) (⟨#[46]⟩ : ByteArray)).length : Int))), (37, (iv (w64 (x44 + 1))))] [] (fun fb => by kernel_rfl) rfl trivial ?_
        refine WL.done rfl ?_
        exact WX.again k47 (Nat.lt_succ_self _) (x40, t56.1, x42, x43, w64 (x44 + 1)) [0, 4, 8, 19, 20, 21, 35, 36, 37] rfl ⟨(hS70.subR [0]).sub [1, 0, 2, 3] (by decide), hl50⟩
       rcases br_some hl50 with ⟨h71, hl50⟩ | ⟨h71, hl50⟩
       ·
        refine WL.setI 49 (eq_of_beq h71) rfl ?_
        refine seg 3 [] [0, 4, 8, 19, 20, 21, 35, 36, 37, 50, 51] [(0, (.string p0)), (4, (sv A13 l15 c14)), (8, (pt g37)), (19, (sv A10 (splitP p0 (⟨#[32]⟩ : ByteArray)) c11)), (20, (iv ((splitP p0 (⟨#[32]⟩ : ByteArray)).length : Int))), (21, (iv x16)), (35, (sv A31 (splitP (rdD (splitP p0 (⟨#[32]⟩ : ByteArray)) x16 ByteArray.empty) (⟨#[46]⟩ : ByteArray)) c32)), (36, (iv ((splitP (rdD (splitP p0 (⟨#[32]⟩ : ByteArray)) x16 ByteArray.empty) (⟨#[46]⟩ : ByteArray)).length : Int))), (37, (iv x44)), (50, (iv t56.1)), (51, (.pointer (some ⟨g37, 2, none⟩)))] [] (fun fb => by kernel_rfl) rfl trivial ?_
        refine WL.store hS55 1 rfl [(2, (iv t56.1))] #[(iv x40), (iv x41), (iv t56.1), (iv x43)] (fun fb => by kernel_rfl) (by kernel_rfl) rfl [0, 2, 3] (by decide) (by decide) (fun w72 hS73 => ?_)
        refine ⟨trivial, ?_⟩
        refine WL.done rfl ?_
        refine WX.blockN (WX.next ?_)
        refine WC.region ?_
        refine seg 2 [] [0, 4, 8, 19, 20, 21, 35, 36, 37] [(0, (.string p0)), (4, (sv A13 l15 c14)), (8, (pt g37)), (19, (sv A10 (splitP p0 (⟨#[32]⟩ : ByteArray)) c11)), (20, (iv ((splitP p0 (⟨#[32]⟩ : ByteArray)).length : Int))), (21, (iv x16)), (35, (sv A31 (splitP (rdD (splitP p0 (⟨#[32]⟩ : ByteArray)) x16 ByteArray.empty) (⟨#[46]⟩ : ByteArray)) c32)), (36, (iv ((splitP (rdD (splitP p0 (⟨#[32]⟩ : ByteArray)) x16 ByteArray.empty) (⟨#[46]⟩ : ByteArray)).length : Int))), (37, (iv (w64 (x44 + 1))))] [] (fun fb => by kernel_rfl) rfl trivial ?_
        refine WL.done rfl ?_
        exact WX.again k47 (Nat.lt_succ_self _) (x40, x41, t56.1, x43, w64 (x44 + 1)) [0, 4, 8, 19, 20, 21, 35, 36, 37] rfl ⟨(hS73.subR [0]).sub [1, 0, 2, 3] (by decide), hl50⟩
       rcases br_some hl50 with ⟨h74, hl50⟩ | ⟨h74, hl50⟩
       ·
        refine WL.setI 49 (eq_of_beq h74) rfl ?_
        refine seg 3 [] [0, 4, 8, 19, 20, 21, 35, 36, 37, 50, 51] [(0, (.string p0)), (4, (sv A13 l15 c14)), (8, (pt g37)), (19, (sv A10 (splitP p0 (⟨#[32]⟩ : ByteArray)) c11)), (20, (iv ((splitP p0 (⟨#[32]⟩ : ByteArray)).length : Int))), (21, (iv x16)), (35, (sv A31 (splitP (rdD (splitP p0 (⟨#[32]⟩ : ByteArray)) x16 ByteArray.empty) (⟨#[46]⟩ : ByteArray)) c32)), (36, (iv ((splitP (rdD (splitP p0 (⟨#[32]⟩ : ByteArray)) x16 ByteArray.empty) (⟨#[46]⟩ : ByteArray)).length : Int))), (37, (iv x44)), (50, (iv t56.1)), (51, (.pointer (some ⟨g37, 3, none⟩)))] [] (fun fb => by kernel_rfl) rfl trivial ?_
        refine WL.store hS55 1 rfl [(3, (iv t56.1))] #[(iv x40), (iv x41), (iv x42), (iv t56.1)] (fun fb => by kernel_rfl) (by kernel_rfl) rfl [0, 2, 3] (by decide) (by decide) (fun w75 hS76 => ?_)
        refine ⟨trivial, ?_⟩
        refine WL.done rfl ?_
        refine WX.blockN (WX.next ?_)
        refine WC.region ?_
        refine seg 2 [] [0, 4, 8, 19, 20, 21, 35, 36, 37] [(0, (.string p0)), (4, (sv A13 l15 c14)), (8, (pt g37)), (19, (sv A10 (splitP p0 (⟨#[32]⟩ : ByteArray)) c11)), (20, (iv ((splitP p0 (⟨#[32]⟩ : ByteArray)).length : Int))), (21, (iv x16)), (35, (sv A31 (splitP (rdD (splitP p0 (⟨#[32]⟩ : ByteArray)) x16 ByteArray.empty) (⟨#[46]⟩ : ByteArray)) c32)), (36, (iv ((splitP (rdD (splitP p0 (⟨#[32]⟩ : ByteArray)) x16 ByteArray.empty) (⟨#[46]⟩ : ByteArray)).length : Int))), (37, (iv (w64 (x44 + 1))))] [] (fun fb => by kernel_rfl) rfl trivial ?_
        refine WL.done rfl ?_
        exact WX.again k47 (Nat.lt_succ_self _) (x40, x41, x42, t56.1, w64 (x44 + 1)) [0, 4, 8, 19, 20, 21, 35, 36, 37] rfl ⟨(hS76.subR [0]).sub [1, 0, 2, 3] (by decide), hl50⟩
       cases hl50
      refine WC.condF2 (fun fb => by kernel_rfl) h51 ?_
      refine WC.exit ?_
      injection hl50 with hl50
      exact WX.thenX (WX.thenX (WX.blockHere (WX.to Kx45 (x40, x41, x42, x43) [0, 4, 8, 19, 20, 21] rfl ⟨(hS49.subR [0]).sub [0, 1, 2] (by decide), hl50.symm⟩)))
    rintro y80 w77 ⟨hS78, hq79⟩
    subst hq79
    have hl24 := sum_inr hl24
    refine WX.next (WC.region ?_)
    refine seg 10 [.v (iv y80.1), .v (iv y80.2.1), .v (iv y80.2.2.1), .v (iv y80.2.2.2)] [0, 19, 20, 21, 53, 62] [(0, (.string p0)), (19, (sv A10 (splitP p0 (⟨#[32]⟩ : ByteArray)) c11)), (20, (iv ((splitP p0 (⟨#[32]⟩ : ByteArray)).length : Int))), (21, (iv x16)), (53, (sv A13 l15 c14)), (62, (.agg #[(iv y80.1), (iv y80.2.1), (iv y80.2.2.1), (iv y80.2.2.2)]))] [.cell ⟨g37, 0, none⟩ (iv y80.1), .cell ⟨g37, 1, none⟩ (iv y80.2.1), .cell ⟨g37, 2, none⟩ (iv y80.2.2.1), .cell ⟨g37, 3, none⟩ (iv y80.2.2.2)] (fun fb => by kernel_rfl) rfl ⟨hS78.cell 1 rfl 0 rfl, hS78.cell 1 rfl 1 rfl, hS78.cell 1 rfl 2 rfl, hS78.cell 1 rfl 3 rfl, trivial⟩ ?_
    refine WL.new hS78 63 [] (fun g => (.slice (some ⟨g, 0, none⟩) 1 1)) (.cells #[(iv y80.1), (iv y80.2.1), (iv y80.2.2.1), (iv y80.2.2.2)] 50 (0, 0)) [] (fun fb g => by kernel_rfl) trivial (fun g81 w82 hS83 => ?_)
    refine ⟨trivial, ?_⟩
    have hS84 := hS29.go w82 [rowO 50 enc_Tile (some ⟨g81, 0, none⟩) 1 [(Tile.mk y80.1 y80.2.1 y80.2.2.1 y80.2.2.2)], rowO 50 enc_Tile A13 c14 l15, blk g37 (.cells #[(iv y80.1), (iv y80.2.1), (iv y80.2.2.1), (iv y80.2.2.2)] 44 (0, 0)), rowO 9 encStr A10 c11 (splitP p0 (⟨#[32]⟩ : ByteArray))] (hS83.map1 0 _ (fun h => rowO.ofBlk h rfl (Nat.le_of_ble_eq_true (by kernel_rfl))) (fun _ h => by obtain ⟨_, h1, h2⟩ := h; injection h1 with h1; subst h1; exact h2) [1, 2, 3] (by decide) (by decide))
    obtain ⟨h85, hl24⟩ := as_some hl24
    refine WL.append hS84 1 (d := 64) (tS := 23) (z := (.agg #[(iv 0), (iv 0), (iv 0), (iv 0)])) (bytes := 32) (c2 := 1) rfl (fun fb => by kernel_rfl) (rowO.rd (hS84.own 0).1) (by kernel_rfl) (by kernel_rfl) rfl (by decide) h85 (by decide) [0, 2, 3] (by decide) (by decide) (fun A86 c87 w88 hS89 => ?_)
    refine ⟨trivial, ?_⟩
    refine seg 13 [] [0, 4, 19, 20, 21] [(0, (.string p0)), (4, (sv A86 (l15 ++ [(Tile.mk y80.1 y80.2.1 y80.2.2.1 y80.2.2.2)]) c87)), (19, (sv A10 (splitP p0 (⟨#[32]⟩ : ByteArray)) c11)), (20, (iv ((splitP p0 (⟨#[32]⟩ : ByteArray)).length : Int))), (21, (iv x16))] [] (fun fb => by kernel_rfl) rfl trivial ?_
    refine WL.done rfl ?_
    refine WX.blockN (WX.next ?_)
    refine WC.region ?_
    refine seg 2 [] [0, 4, 19, 20, 21] [(0, (.string p0)), (4, (sv A86 (l15 ++ [(Tile.mk y80.1 y80.2.1 y80.2.2.1 y80.2.2.2)]) c87)), (19, (sv A10 (splitP p0 (⟨#[32]⟩ : ByteArray)) c11)), (20, (iv ((splitP p0 (⟨#[32]⟩ : ByteArray)).length : Int))), (21, (iv (w64 (x16 + 1))))] [] (fun fb => by kernel_rfl) rfl trivial ?_
    refine WL.done rfl ?_
    exact WX.again k21 (Nat.lt_succ_self _) ((l15 ++ [(Tile.mk y80.1 y80.2.1 y80.2.2.1 y80.2.2.2)], w64 (x16 + 1)), A86, c87) [0, 4, 19, 20, 21] rfl ⟨(hS89.subR [0]).sub [0, 3] (by decide), hl24⟩
   refine WC.condF2 (fun fb => by kernel_rfl) h25 ?_
   refine WC.exit ?_
   injection hl24 with hl24
   exact WX.thenX (WX.thenX (WX.blockHere (WX.to Kx19 (l15, A13, c14) [0, 4] rfl ⟨(hS23.subR [0]).sub [0] (by decide), hl24.symm⟩)))
 rintro ⟨y93, A17, c18⟩ w90 ⟨hS91, hq92⟩
 subst hq92
 have hf := sum_inr hf
 refine WX.next (WC.seq (WC.seq (WC.region ?_)))
 refine seg 1 [] [0, 4, 66] [(0, (.string p0)), (4, (sv A17 y93 c18)), (66, (sv A17 y93 c18))] [] (fun fb => by kernel_rfl) rfl trivial ?_
 obtain ⟨t94, ht95, hf⟩ := bind_some hf
 refine WL.call (some 67) 14 #[(sv A17 y93 c18)] (fun fb => by kernel_rfl) (tile_Valid_calls _ y93 A17 c18 t94 _ (hS91.ow 0).ofO ht95) (fun v w96 hR97 => ?_)
 obtain ⟨rfl, hk_⟩ := hR97
 have hS98 := hS91.keepN hk_
 refine ⟨trivial, ?_⟩
 refine seg 4 [] [0, 4, 69] [(0, (.string p0)), (4, (sv A17 y93 c18)), (69, (bv (!t94)))] [] (fun fb => by kernel_rfl) rfl trivial ?_
 obtain ⟨x99, hx100, hf⟩ := bind_some hf
 refine WL.cutW (T := Bool) 9 (fun t => [(4, (sv A17 y93 c18)), (74, (bv t))]) (fun t w1 => (St NoS w w1 [gloO Tryd.prog 2 5 0 1 mG] [rowO 50 enc_Tile A17 c18 y93] ∧ x99 = t) ∧ CellsOK [] w1) (fun K => ?_) ?_
 ·
  rcases br_some hx100 with ⟨h101, hx100⟩ | ⟨h101, hx100⟩
  ·
   refine WL.setB 69 h101 rfl ?_
   refine seg 9 [] [4, 74] [(4, (sv A17 y93 c18)), (74, (bv true))] [] (fun fb => by kernel_rfl) rfl trivial ?_
   injection hx100 with hx100
   exact WL.to K true [4, 74] rfl ⟨⟨(hS98.subR [0]).sub [0] (by decide), hx100.symm⟩, trivial⟩
  refine WL.setB 69 h101 rfl ?_
  refine seg 5 [] [0, 4, 69, 70] [(0, (.string p0)), (4, (sv A17 y93 c18)), (69, (bv false)), (70, (sv A17 y93 c18))] [] (fun fb => by kernel_rfl) rfl trivial ?_
  obtain ⟨t102, ht103, hx100⟩ := bind_some hx100
  refine WL.call (some 71) 25 #[(sv A17 y93 c18)] (fun fb => by kernel_rfl) (tile_write_calls _ y93 A17 c18 mG t102 _ (hS98.ow 0).ofO (hS98.rd 0) ht103) (fun v w104 hR105 => ?_)
  obtain ⟨rfl, hk_⟩ := hR105
  have hS106 := hS98.keepN hk_
  refine ⟨trivial, ?_⟩
  refine seg 7 [] [4, 69, 71, 72] [(4, (sv A17 y93 c18)), (69, (bv false)), (71, (.string t102)), (72, (.string p0))] [] (fun fb => by kernel_rfl) rfl trivial ?_
  refine seg 8 [] [4, 69, 73] [(4, (sv A17 y93 c18)), (69, (bv false)), (73, (bv (!(t102.toList == p0.toList))))] [] (fun fb => by kernel_rfl) rfl trivial ?_
  refine WL.setB 73 (congrArg not (strEq_raw t102 p0)) rfl ?_
  refine seg 9 [] [4, 74] [(4, (sv A17 y93 c18)), (74, (bv (!(strEq t102 p0))))] [] (fun fb => by kernel_rfl) rfl trivial ?_
  injection hx100 with hx100
  exact WL.to K (!(strEq t102 p0)) [4, 74] rfl ⟨⟨(hS106.subR [0]).sub [0] (by decide), hx100.symm⟩, trivial⟩
 rintro y107 w109 ⟨⟨hS110, hq108⟩, hF111⟩
 subst hq108
 refine WL.done rfl (WX.next ?_)
 rcases br_some hf with ⟨h112, hf⟩ | ⟨h112, hf⟩
 ·refine WC.condT2 (fun fb => by kernel_rfl) h112 ?_
  refine WC.seq (WC.region ?_)
  refine seg 2 [] [2, 3] [(2, (.slice none 0 0)), (3, (iv 3))] [] (fun fb => by kernel_rfl) rfl trivial ?_
  refine WL.done rfl (WX.next ?_)
  refine WC.ret ?_
  have hS113 := hS110.nilrow 50 enc_Tile
  injection hf with hf
  subst hf
  exact WX.thenR (WX.ret_ [] (.tuple #[(sv none ([] : List Tile) 0), (iv 3)]) [] (fun fb => by kernel_rfl) trivial ⟨_, rfl, none, 0, rfl, (hS113.sub [0] (by decide)).noR⟩)
 refine WC.condF2 (fun fb => by kernel_rfl) h112 ?_
 refine WC.skip (WX.next (WC.seq (WC.region ?_)))
 refine seg 3 [] [2, 3] [(2, (sv A17 y93 c18)), (3, (iv 0))] [] (fun fb => by kernel_rfl) rfl trivial ?_
 refine WL.done rfl (WX.next ?_)
 refine WC.ret ?_
 injection hf with hf
 subst hf
 exact WX.ret_ [] (.tuple #[(sv A17 y93 c18), (iv 0)]) [] (fun fb => by kernel_rfl) trivial ⟨_, rfl, A17, c18, rfl, (hS110.sub [0] (by decide)).noR⟩
theorem tile_Text_calls (k : Nat) (p0 : List Tile) (Aa : Option Addr) (ca : Nat) (mG : Glo) (r : ByteArray × Int) (w : World) (hR0 : RO NoS w (rowR enc_Tile Aa ca p0)) (hR1 : RO NoS w (gloO Tryd.prog 2 5 0 1 mG)) (hf : tile_Text k p0 = some r) :
  CallsR Tryd.prog 8 #[(sv Aa p0 ca)] w (fun v w' => v = (.tuple #[(.string r.1), (iv r.2)]) ∧ Keeps NoS w w') := by
 have hS : St NoS w w [rowR enc_Tile Aa ca p0, gloO Tryd.prog 2 5 0 1 mG] [] := St.init (ro_cons hR0 (ro_cons hR1 (ro_nil _ _)))
 refine enter 9 Tryd.func8 rfl Tryd.ntmps8 rfl ?_
 unfold tile_Text at hf
 refine WC.seq (WC.region ?_)
 refine seg 2 [] [0] [(0, (sv Aa p0 ca))] [] (fun fb => by kernel_rfl) rfl trivial ?_
 refine WL.done rfl (WX.next (WC.seq (WC.seq (WC.region ?_))))
 refine seg 1 [] [0, 4] [(0, (sv Aa p0 ca)), (4, (sv Aa p0 ca))] [] (fun fb => by kernel_rfl) rfl trivial ?_
 obtain ⟨t3, ht4, hf⟩ := bind_some hf
 refine WL.call (some 5) 14 #[(sv Aa p0 ca)] (fun fb => by kernel_rfl) (tile_Valid_calls _ p0 Aa ca t3 _ (hS.rd 0) ht4) (fun v w5 hR6 => ?_)
 obtain ⟨rfl, hk_⟩ := hR6
 have hS7 := hS.keepN hk_
 refine ⟨trivial, ?_⟩
 refine seg 3 [] [0, 6] [(0, (sv Aa p0 ca)), (6, (bv (!t3)))] [] (fun fb => by kernel_rfl) rfl trivial ?_
 refine WL.done rfl (WX.next ?_)
 rcases br_some hf with ⟨h9, hf⟩ | ⟨h9, hf⟩
 ·refine WC.condT2 (fun fb => by kernel_rfl) h9 ?_
  refine WC.seq (WC.region ?_)
  refine seg 2 [] [2, 3] [(2, (.string (⟨#[]⟩ : ByteArray))), (3, (iv 1))] [] (fun fb => by kernel_rfl) rfl trivial ?_
  refine WL.done rfl (WX.next ?_)
  refine WC.ret ?_
  injection hf with hf
  subst hf
  exact WX.thenR (WX.ret_ [] (.tuple #[(.string (⟨#[]⟩ : ByteArray)), (iv 1)]) [] (fun fb => by kernel_rfl) trivial ⟨_, rfl, rfl, hS7.keep⟩)
 refine WC.condF2 (fun fb => by kernel_rfl) h9 ?_
 refine WC.skip (WX.next (WC.seq (WC.region ?_)))
 refine seg 1 [] [7] [(7, (sv Aa p0 ca))] [] (fun fb => by kernel_rfl) rfl trivial ?_
 obtain ⟨t10, ht11, hf⟩ := bind_some hf
 refine WL.call (some 8) 25 #[(sv Aa p0 ca)] (fun fb => by kernel_rfl) (tile_write_calls _ p0 Aa ca mG t10 _ (hS7.rd 0) (hS7.rd 1) ht11) (fun v w12 hR13 => ?_)
 obtain ⟨rfl, hk_⟩ := hR13
 have hS14 := hS7.keepN hk_
 refine ⟨trivial, ?_⟩
 refine seg 4 [] [2, 3] [(2, (.string t10)), (3, (iv 0))] [] (fun fb => by kernel_rfl) rfl trivial ?_
 refine WL.done rfl (WX.next ?_)
 refine WC.ret ?_
 injection hf with hf
 subst hf
 exact WX.ret_ [] (.tuple #[(.string t10), (iv 0)]) [] (fun fb => by kernel_rfl) trivial ⟨_, rfl, rfl, hS14.keep⟩
theorem tile_Form_calls (p0 : Pattern) (Aa : Option Addr) (ca : Nat) (r : Bool) (w : World) (hR0 : RO NoS w (rowR encInt Aa ca p0.Cells)) (hf : tile_Form p0 = some r) :
  CallsR Tryd.prog 41 #[(.agg #[(iv p0.Width), (iv p0.Height), (sv Aa p0.Cells ca)])] w (fun v w' => v = (bv r) ∧ Keeps NoS w w') := by
 have hS : St NoS w w [rowR encInt Aa ca p0.Cells] [] := St.init (ro_cons hR0 (ro_nil _ _))
 refine enter 40 Tryd.func41 rfl Tryd.ntmps41 rfl ?_
 unfold tile_Form at hf
 refine WC.seq (WC.region ?_)
 refine WL.new hS 1 [] (fun g => (pt g)) (.cells #[(iv p0.Width), (iv p0.Height), (sv Aa p0.Cells ca)] 40 (0, 0)) [] (fun fb g => by kernel_rfl) trivial (fun g1 w2 hS3 => ?_)
 refine ⟨trivial, ?_⟩
 refine seg 2 [] [1] [(1, (pt g1))] [] (fun fb => by kernel_rfl) rfl trivial ?_
 refine WL.done rfl (WX.next (WC.seq (WC.region ?_)))
 refine seg 4 [.v (iv p0.Width)] [1, 6] [(1, (pt g1)), (6, (bv (decide (p0.Width ≥ 1))))] [.cell ⟨g1, 0, none⟩ (iv p0.Width)] (fun fb => by kernel_rfl) rfl ⟨hS3.cell 0 rfl 0 rfl, trivial⟩ ?_
 refine WL.cutV (T := Bool) 8 (fun t => [(10, (bv t)), (1, (pt g1))]) (fun t => ((decide (p0.Width ≥ 1)) && (decide (p0.Height ≥ 1))) = t) (fun K => ?_) ?_
 ·
  rcases Bool.eq_false_or_eq_true (decide (p0.Width ≥ 1)) with h4 | h4
  ·
   refine WL.setB 6 h4 rfl ?_
   refine seg 8 [.v (iv p0.Height)] [1, 10] [(1, (pt g1)), (10, (bv (decide (p0.Height ≥ 1))))] [.cell ⟨g1, 1, none⟩ (iv p0.Height)] (fun fb => by kernel_rfl) rfl ⟨hS3.cell 0 rfl 1 rfl, trivial⟩ ?_
   exact WL.toV K (decide (p0.Height ≥ 1)) [10, 1] rfl (by first | (rw [h4]; done) | (rw [h4]; rfl))
  refine WL.setB 6 h4 rfl ?_
  refine seg 8 [] [1, 10] [(1, (pt g1)), (10, (bv false))] [] (fun fb => by kernel_rfl) rfl trivial ?_
  exact WL.toV K false [10, 1] rfl (by first | (rw [h4]; done) | (rw [h4]; rfl))
 rintro b5 rfl
 refine seg 9 [] [1, 11] [(1, (pt g1)), (11, (bv ((decide (p0.Width ≥ 1)) && (decide (p0.Height ≥ 1)))))] [] (fun fb => by kernel_rfl) rfl trivial ?_
 refine WL.cutV (T := Bool) 13 (fun t => [(15, (bv t)), (1, (pt g1))]) (fun t => (((decide (p0.Width ≥ 1)) && (decide (p0.Height ≥ 1))) && (decide (p0.Width ≤ 40000))) = t) (fun K => ?_) ?_
 ·
  rcases Bool.eq_false_or_eq_true ((decide (p0.Width ≥ 1)) && (decide (p0.Height ≥ 1))) with h6 | h6
  ·
   refine WL.setB 11 h6 rfl ?_
   refine seg 13 [.v (iv p0.Width)] [1, 15] [(1, (pt g1)), (15, (bv (decide (p0.Width ≤ 40000))))] [.cell ⟨g1, 0, none⟩ (iv p0.Width)] (fun fb => by kernel_rfl) rfl ⟨hS3.cell 0 rfl 0 rfl, trivial⟩ ?_
   exact WL.toV K (decide (p0.Width ≤ 40000)) [15, 1] rfl (by first | (rw [h6]; done) | (rw [h6]; rfl))
  refine WL.setB 11 h6 rfl ?_
  refine seg 13 [] [1, 15] [(1, (pt g1)), (15, (bv false))] [] (fun fb => by kernel_rfl) rfl trivial ?_
  exact WL.toV K false [15, 1] rfl (by first | (rw [h6]; done) | (rw [h6]; rfl))
 rintro b7 rfl
 refine seg 14 [] [1, 16] [(1, (pt g1)), (16, (bv (((decide (p0.Width ≥ 1)) && (decide (p0.Height ≥ 1))) && (decide (p0.Width ≤ 40000)))))] [] (fun fb => by kernel_rfl) rfl trivial ?_
 refine WL.cutV (T := Bool) 18 (fun t => [(20, (bv t)), (1, (pt g1))]) (fun t => ((((decide (p0.Width ≥ 1)) && (decide (p0.Height ≥ 1))) && (decide (p0.Width ≤ 40000))) && (decide (p0.Height ≤ 40000))) = t) (fun K => ?_) ?_
 ·
  rcases Bool.eq_false_or_eq_true (((decide (p0.Width ≥ 1)) && (decide (p0.Height ≥ 1))) && (decide (p0.Width ≤ 40000))) with h8 | h8
  ·
   refine WL.setB 16 h8 rfl ?_
   refine seg 18 [.v (iv p0.Height)] [1, 20] [(1, (pt g1)), (20, (bv (decide (p0.Height ≤ 40000))))] [.cell ⟨g1, 1, none⟩ (iv p0.Height)] (fun fb => by kernel_rfl) rfl ⟨hS3.cell 0 rfl 1 rfl, trivial⟩ ?_
   exact WL.toV K (decide (p0.Height ≤ 40000)) [20, 1] rfl (by first | (rw [h8]; done) | (rw [h8]; rfl))
  refine WL.setB 16 h8 rfl ?_
  refine seg 18 [] [1, 20] [(1, (pt g1)), (20, (bv false))] [] (fun fb => by kernel_rfl) rfl trivial ?_
  exact WL.toV K false [20, 1] rfl (by first | (rw [h8]; done) | (rw [h8]; rfl))
 rintro b9 rfl
 refine seg 19 [] [1, 21] [(1, (pt g1)), (21, (bv ((((decide (p0.Width ≥ 1)) && (decide (p0.Height ≥ 1))) && (decide (p0.Width ≤ 40000))) && (decide (p0.Height ≤ 40000)))))] [] (fun fb => by kernel_rfl) rfl trivial ?_
 refine WL.cutV (T := Bool) 26 (fun t => [(28, (bv t)), (1, (pt g1))]) (fun t => (((((decide (p0.Width ≥ 1)) && (decide (p0.Height ≥ 1))) && (decide (p0.Width ≤ 40000))) && (decide (p0.Height ≤ 40000))) && (decide (w64 (p0.Width * p0.Height) ≤ 40000))) = t) (fun K => ?_) ?_
 ·
  rcases Bool.eq_false_or_eq_true ((((decide (p0.Width ≥ 1)) && (decide (p0.Height ≥ 1))) && (decide (p0.Width ≤ 40000))) && (decide (p0.Height ≤ 40000))) with h10 | h10
  ·
   refine WL.setB 21 h10 rfl ?_
   refine seg 26 [.v (iv p0.Width), .v (iv p0.Height)] [1, 28] [(1, (pt g1)), (28, (bv (decide (w64 (p0.Width * p0.Height) ≤ 40000))))] [.cell ⟨g1, 0, none⟩ (iv p0.Width), .cell ⟨g1, 1, none⟩ (iv p0.Height)] (fun fb => by kernel_rfl) rfl ⟨hS3.cell 0 rfl 0 rfl, hS3.cell 0 rfl 1 rfl, trivial⟩ ?_
   exact WL.toV K (decide (w64 (p0.Width * p0.Height) ≤ 40000)) [28, 1] rfl (by first | (rw [h10]; done) | (rw [h10]; rfl))
  refine WL.setB 21 h10 rfl ?_
  refine seg 26 [] [1, 28] [(1, (pt g1)), (28, (bv false))] [] (fun fb => by kernel_rfl) rfl trivial ?_
  exact WL.toV K false [28, 1] rfl (by first | (rw [h10]; done) | (rw [h10]; rfl))
 rintro b11 rfl
 refine seg 27 [] [1, 29] [(1, (pt g1)), (29, (bv (((((decide (p0.Width ≥ 1)) && (decide (p0.Height ≥ 1))) && (decide (p0.Width ≤ 40000))) && (decide (p0.Height ≤ 40000))) && (decide (w64 (p0.Width * p0.Height) ≤ 40000)))))] [] (fun fb => by kernel_rfl) rfl trivial ?_
 refine WL.cutV (T := Bool) 37 (fun t => [(39, (bv t))]) (fun t => ((((((decide (p0.Width ≥ 1)) && (decide (p0.Height ≥ 1))) && (decide (p0.Width ≤ 40000))) && (decide (p0.Height ≤ 40000))) && (decide (w64 (p0.Width * p0.Height) ≤ 40000))) && ((p0.Cells.length : Int) == (w64 (p0.Width * p0.Height)))) = t) (fun K => ?_) ?_
 ·
  rcases Bool.eq_false_or_eq_true (((((decide (p0.Width ≥ 1)) && (decide (p0.Height ≥ 1))) && (decide (p0.Width ≤ 40000))) && (decide (p0.Height ≤ 40000))) && (decide (w64 (p0.Width * p0.Height) ≤ 40000))) with h12 | h12
  ·
   refine WL.setB 29 h12 rfl ?_
   refine seg 37 [.v (sv Aa p0.Cells ca), .v (iv p0.Width), .v (iv p0.Height)] [39] [(39, (bv ((p0.Cells.length : Int) == (w64 (p0.Width * p0.Height)))))] [.cell ⟨g1, 2, none⟩ (sv Aa p0.Cells ca), .cell ⟨g1, 0, none⟩ (iv p0.Width), .cell ⟨g1, 1, none⟩ (iv p0.Height)] (fun fb => by kernel_rfl) rfl ⟨hS3.cell 0 rfl 2 rfl, hS3.cell 0 rfl 0 rfl, hS3.cell 0 rfl 1 rfl, trivial⟩ ?_
   exact WL.toV K ((p0.Cells.length : Int) == (w64 (p0.Width * p0.Height))) [39] rfl (by first | (rw [h12]; done) | (rw [h12]; rfl))
  refine WL.setB 29 h12 rfl ?_
  refine seg 37 [] [39] [(39, (bv false))] [] (fun fb => by kernel_rfl) rfl trivial ?_
  exact WL.toV K false [39] rfl (by first | (rw [h12]; done) | (rw [h12]; rfl))
 rintro b13 rfl
 refine seg 38 [] [2] [(2, (bv ((((((decide (p0.Width ≥ 1)) && (decide (p0.Height ≥ 1))) && (decide (p0.Width ≤ 40000))) && (decide (p0.Height ≤ 40000))) && (decide (w64 (p0.Width * p0.Height) ≤ 40000))) && ((p0.Cells.length : Int) == (w64 (p0.Width * p0.Height))))))] [] (fun fb => by kernel_rfl) rfl trivial ?_
 refine WL.done rfl (WX.next ?_)
 refine WC.ret ?_
 injection hf with hf
 subst hf
 exact WX.ret_ [] (bv ((((((decide (p0.Width ≥ 1)) && (decide (p0.Height ≥ 1))) && (decide (p0.Width ≤ 40000))) && (decide (p0.Height ≤ 40000))) && (decide (w64 (p0.Width * p0.Height) ≤ 40000))) && ((p0.Cells.length : Int) == (w64 (p0.Width * p0.Height))))) [] (fun fb => by kernel_rfl) trivial ⟨_, rfl, rfl, hS3.keep⟩
theorem tile_of_1_calls (p0 : Int) (f0 : List Tile) (ga : Nat) (Aa : Option Addr) (ca : Nat) (r : Bool) (w : World) (hR0 : RO NoS w (blk ga (.cells #[(sv Aa f0 ca)] 23 (0, 0)))) (hR1 : RO NoS w (rowR enc_Tile Aa ca f0)) (hf : tile_of_1 p0 f0 = some r) :
  CallsR Tryd.prog 42 #[(iv p0), (pt ga)] w (fun v w' => v = (bv r) ∧ Keeps NoS w w') := by
 have hS : St NoS w w [blk ga (.cells #[(sv Aa f0 ca)] 23 (0, 0)), rowR enc_Tile Aa ca f0] [] := St.init (ro_cons hR0 (ro_cons hR1 (ro_nil _ _)))
 refine enter 12 Tryd.func42 rfl Tryd.ntmps42 rfl ?_
 unfold tile_of_1 at hf
 refine WC.seq (WC.region ?_)
 refine seg 1 [] [0, 1] [(0, (iv p0)), (1, (pt ga))] [] (fun fb => by kernel_rfl) rfl trivial ?_
 refine WL.done rfl (WX.next (WC.seq (WC.region ?_)))
 refine seg 3 [] [0, 1, 6] [(0, (iv p0)), (1, (pt ga)), (6, (bv (decide (p0 < 0))))] [] (fun fb => by kernel_rfl) rfl trivial ?_
 refine WL.cutV (T := Bool) 8 (fun t => [(11, (bv t))]) (fun t => ((decide (p0 < 0)) || (decide (p0 ≥ (f0.length : Int)))) = t) (fun K => ?_) ?_
 ·
  rcases Bool.eq_false_or_eq_true (decide (p0 < 0)) with h2 | h2
  ·
   refine WL.setB 6 h2 rfl ?_
   refine seg 8 [] [11] [(11, (bv true))] [] (fun fb => by kernel_rfl) rfl trivial ?_
   exact WL.toV K true [11] rfl (by first | (rw [h2]; done) | (rw [h2]; rfl))
  refine WL.setB 6 h2 rfl ?_
  refine seg 8 [.v (sv Aa f0 ca)] [11] [(11, (bv (decide (p0 ≥ (f0.length : Int)))))] [.cell ⟨ga, 0, none⟩ (sv Aa f0 ca)] (fun fb => by kernel_rfl) rfl ⟨blk_cell (hS.rd 0).1 0 rfl, trivial⟩ ?_
  exact WL.toV K (decide (p0 ≥ (f0.length : Int))) [11] rfl (by first | (rw [h2]; done) | (rw [h2]; rfl))
 rintro b3 rfl
 refine seg 9 [] [3] [(3, (bv ((decide (p0 < 0)) || (decide (p0 ≥ (f0.length : Int))))))] [] (fun fb => by kernel_rfl) rfl trivial ?_
 refine WL.done rfl (WX.next ?_)
 refine WC.ret ?_
 injection hf with hf
 subst hf
 exact WX.ret_ [] (bv ((decide (p0 < 0)) || (decide (p0 ≥ (f0.length : Int))))) [] (fun fb => by kernel_rfl) trivial ⟨_, rfl, rfl, hS.keep⟩
theorem slices_IndexFunc_int_int_with_tile_of_1_calls (k : Nat) (p0 : List Int) (p1_0 : List Tile) (Aa : Option Addr) (ca : Nat) (ga : Nat) (Ab : Option Addr) (cb : Nat) (r : Int) (w : World) (hR0 : RO NoS w (rowR encInt Aa ca p0)) (hR1 : RO NoS w (blk ga (.cells #[(sv Ab p1_0 cb)] 23 (0, 0)))) (hR2 : RO NoS w (rowR enc_Tile Ab cb p1_0)) (hf : slices_IndexFunc_int_int_with_tile_of_1 k p0 p1_0 = some r) :
  CallsR Tryd.prog 63 #[(sv Aa p0 ca), (.func (.func 42) #[] #[(pt ga)])] w (fun v w' => v = (iv r) ∧ Keeps NoS w w') := by
 have hS : St NoS w w [rowR encInt Aa ca p0, blk ga (.cells #[(sv Ab p1_0 cb)] 23 (0, 0)), rowR enc_Tile Ab cb p1_0] [] := St.init (ro_cons hR0 (ro_cons hR1 (ro_cons hR2 (ro_nil _ _))))
 refine enter 19 Tryd.func63 rfl Tryd.ntmps63 rfl ?_
 unfold slices_IndexFunc_int_int_with_tile_of_1 at hf
 refine WC.seq (WC.region ?_)
 refine seg 1 [] [0, 1] [(0, (sv Aa p0 ca)), (1, (.func (.func 42) #[] #[(pt ga)]))] [] (fun fb => by kernel_rfl) rfl trivial ?_
 refine WL.done rfl (WX.next (WC.seq (WC.seq (WC.region ?_))))
 refine seg 3 [] [0, 1, 7, 8] [(0, (sv Aa p0 ca)), (1, (.func (.func 42) #[] #[(pt ga)])), (7, (iv (p0.length : Int))), (8, (iv 0))] [] (fun fb => by kernel_rfl) rfl trivial ?_
 refine WL.done rfl (WX.next ?_)
 obtain ⟨x4, hx5, hf⟩ := bind_some hf
 refine WC.cutN (T := Unit) (fun t => []) (fun t w1 => St NoS w w1 [rowR encInt Aa ca p0, blk ga (.cells #[(sv Ab p1_0 cb)] 23 (0, 0)), rowR enc_Tile Ab cb p1_0] [] ∧ x4 = .inr t) (fun Kx4 => ?_) ?_
 ·
  refine WC.block ?_
  refine WC.loop (T := Int) (fun t => [(0, (sv Aa p0 ca)), (1, (.func (.func 42) #[] #[(pt ga)])), (7, (iv (p0.length : Int))), (8, (iv t))]) (fun n t w1 => St NoS w w1 [rowR encInt Aa ca p0, blk ga (.cells #[(sv Ab p1_0 cb)] 23 (0, 0)), rowR enc_Tile Ab cb p1_0] [] ∧ slices_IndexFunc_int_int_with_tile_of_1.l0 n t p0 p1_0 = some x4) k 0 [0, 1, 7, 8] rfl ⟨(hS.subR [0, 1, 2]).sub [] (by decide), hx5⟩ ?_
  rintro k6 x3 w7 ⟨hS8, hl9⟩
  cases k6 with
  | zero => rw [slices_IndexFunc_int_int_with_tile_of_1.l0] at hl9; cases hl9
  | succ k6 =>
   rw [slices_IndexFunc_int_int_with_tile_of_1.l0] at hl9
   refine WC.seq (WC.region ?_)
   refine seg 1 [] [0, 1, 7, 8, 9] [(0, (sv Aa p0 ca)), (1, (.func (.func 42) #[] #[(pt ga)])), (7, (iv (p0.length : Int))), (8, (iv x3)), (9, (bv (decide (x3 < (p0.length : Int)))))] [] (fun fb => by kernel_rfl) rfl trivial ?_
   refine WL.done rfl (WX.next (WC.seq ?_))
   rcases br_some hl9 with ⟨h10, hl9⟩ | ⟨h10, hl9⟩
   ·refine WC.condT2 (fun fb => by kernel_rfl) h10 ?_
    refine WC.skip (WX.next (WC.seq (WC.block (WC.seq (WC.region ?_)))))
    refine seg 2 [] [0, 1, 5, 7, 8] [(0, (sv Aa p0 ca)), (1, (.func (.func 42) #[] #[(pt ga)])), (5, (iv x3)), (7, (iv (p0.length : Int))), (8, (iv x3))] [] (fun fb => by kernel_rfl) rfl trivial ?_
    refine WL.done rfl (WX.next (WC.seq (WC.region ?_)))
    refine seg 3 [] [0, 1, 5, 7, 8, 11, 12, 13] [(0, (sv Aa p0 ca)), (1, (.func (.func 42) #[] #[(pt ga)])), (5, (iv x3)), (7, (iv (p0.length : Int))), (8, (iv x3)), (11, (.func (.func 42) #[] #[(pt ga)])), (12, (sv Aa p0 ca)), (13, (iv x3))] [] (fun fb => by kernel_rfl) rfl trivial ?_
    obtain ⟨h11, hl9⟩ := as_some hl9
    refine seg 5 [.v (iv (rdD p0 x3 0))] [0, 1, 5, 7, 8, 11, 15] [(0, (sv Aa p0 ca)), (1, (.func (.func 42) #[] #[(pt ga)])), (5, (iv x3)), (7, (iv (p0.length : Int))), (8, (iv x3)), (11, (.func (.func 42) #[] #[(pt ga)])), (15, (iv (rdD p0 x3 0)))] [.idx Aa x3 p0.length, .cell ((adr Aa).add ((x3).toNat * 1)) (iv (rdD p0 x3 0))] (fun fb => by kernel_rfl) rfl ⟨rowR.adr (hS8.rd 0).1 h11.1 h11.2, rowR.cell (hS8.rd 0).1 0 h11.1 h11.2 0 rfl, trivial⟩ ?_
    obtain ⟨t12, ht13, hl9⟩ := bind_some hl9
    refine WL.call (some 16) 42 #[(iv (rdD p0 x3 0)), (pt ga)] (fun fb => by kernel_rfl) (tile_of_1_calls (rdD p0 x3 0) p1_0 ga Ab cb t12 _ (hS8.rd 1) (hS8.rd 2) ht13) (fun v w14 hR15 => ?_)
    obtain ⟨rfl, hk_⟩ := hR15
    have hS16 := hS8.keepN hk_
    refine ⟨trivial, ?_⟩
    refine WL.done rfl (WX.next ?_)
    rcases br_some hl9 with ⟨h17, hl9⟩ | ⟨h17, hl9⟩
    ·refine WC.condT2 (fun fb => by kernel_rfl) h17 ?_
     refine WC.seq (WC.region ?_)
     refine seg 2 [] [4] [(4, (iv x3))] [] (fun fb => by kernel_rfl) rfl trivial ?_
     refine WL.done rfl (WX.next ?_)
     refine WC.ret ?_
     injection hl9 with hl9
     subst hl9
     injection hf with hf
     subst hf
     exact WX.blockR (WX.thenR (WX.thenR (WX.blockR (WX.thenR (WX.ret_ [] (iv x3) [] (fun fb => by kernel_rfl) trivial ⟨_, rfl, rfl, hS16.keep⟩)))))
    refine WC.condF2 (fun fb => by kernel_rfl) h17 ?_
    refine WC.skip ?_
    refine WX.blockN (WX.next ?_)
    refine WC.region ?_
    refine seg 2 [] [0, 1, 7, 8] [(0, (sv Aa p0 ca)), (1, (.func (.func 42) #[] #[(pt ga)])), (7, (iv (p0.length : Int))), (8, (iv (w64 (x3 + 1))))] [] (fun fb => by kernel_rfl) rfl trivial ?_
    refine WL.done rfl ?_
    exact WX.again k6 (Nat.lt_succ_self _) (w64 (x3 + 1)) [0, 1, 7, 8] rfl ⟨(hS16.subR [0, 1, 2]).sub [] (by decide), hl9⟩
   refine WC.condF2 (fun fb => by kernel_rfl) h10 ?_
   refine WC.exit ?_
   injection hl9 with hl9
   exact WX.thenX (WX.thenX (WX.blockHere (WX.to Kx4 () [] rfl ⟨(hS8.subR [0, 1, 2]).sub [] (by decide), hl9.symm⟩)))
 rintro y21 w18 ⟨hS19, hq20⟩
 subst hq20
 have hf := sum_inr hf
 refine WX.next (WC.seq (WC.region ?_))
 refine seg 1 [] [4] [(4, (iv (-1)))] [] (fun fb => by kernel_rfl) rfl trivial ?_
 refine WL.done rfl (WX.next ?_)
 refine WC.ret ?_
 injection hf with hf
 subst hf
 exact WX.ret_ [] (iv (-1)) [] (fun fb => by kernel_rfl) trivial ⟨_, rfl, rfl, hS19.keep⟩
theorem slices_ContainsFunc_int_int_with_tile_of_1_calls (k : Nat) (p0 : List Int) (p1_0 : List Tile) (Aa : Option Addr) (ca : Nat) (ga : Nat) (Ab : Option Addr) (cb : Nat) (r : Bool) (w : World) (hR0 : RO NoS w (rowR encInt Aa ca p0)) (hR1 : RO NoS w (blk ga (.cells #[(sv Ab p1_0 cb)] 23 (0, 0)))) (hR2 : RO NoS w (rowR enc_Tile Ab cb p1_0)) (hf : slices_ContainsFunc_int_int_with_tile_of_1 k p0 p1_0 = some r) :
  CallsR Tryd.prog 39 #[(sv Aa p0 ca), (.func (.func 42) #[] #[(pt ga)])] w (fun v w' => v = (bv r) ∧ Keeps NoS w w') := by
 have hS : St NoS w w [rowR encInt Aa ca p0, blk ga (.cells #[(sv Ab p1_0 cb)] 23 (0, 0)), rowR enc_Tile Ab cb p1_0] [] := St.init (ro_cons hR0 (ro_cons hR1 (ro_cons hR2 (ro_nil _ _))))
 refine enter 9 Tryd.func39 rfl Tryd.ntmps39 rfl ?_
 unfold slices_ContainsFunc_int_int_with_tile_of_1 at hf
 refine WC.seq (WC.region ?_)
 refine seg 1 [] [0, 1] [(0, (sv Aa p0 ca)), (1, (.func (.func 42) #[] #[(pt ga)]))] [] (fun fb => by kernel_rfl) rfl trivial ?_
 refine WL.done rfl (WX.next (WC.seq (WC.region ?_)))
 refine seg 2 [] [5, 6] [(5, (sv Aa p0 ca)), (6, (.func (.func 42) #[] #[(pt ga)]))] [] (fun fb => by kernel_rfl) rfl trivial ?_
 obtain ⟨t3, ht4, hf⟩ := bind_some hf
 refine WL.call (some 7) 63 #[(sv Aa p0 ca), (.func (.func 42) #[] #[(pt ga)])] (fun fb => by kernel_rfl) (slices_IndexFunc_int_int_with_tile_of_1_calls _ p0 p1_0 Aa ca ga Ab cb t3 _ (hS.rd 0) (hS.rd 1) (hS.rd 2) ht4) (fun v w5 hR6 => ?_)
 obtain ⟨rfl, hk_⟩ := hR6
 have hS7 := hS.keepN hk_
 refine ⟨trivial, ?_⟩
 refine seg 5 [] [4] [(4, (bv (decide (t3 ≥ 0))))] [] (fun fb => by kernel_rfl) rfl trivial ?_
 refine WL.done rfl (WX.next ?_)
 refine WC.ret ?_
 injection hf with hf
 subst hf
 exact WX.ret_ [] (bv (decide (t3 ≥ 0))) [] (fun fb => by kernel_rfl) trivial ⟨_, rfl, rfl, hS7.keep⟩
theorem tile_of_calls (k : Nat) (p0 : List Tile) (p1 : Pattern) (Aa : Option Addr) (ca : Nat) (Ab : Option Addr) (cb : Nat) (r : Bool) (w : World) (hR0 : RO NoS w (rowR enc_Tile Aa ca p0)) (hR1 : RO NoS w (rowR encInt Ab cb p1.Cells)) (hf : tile_of k p0 p1 = some r) :
  CallsR Tryd.prog 31 #[(sv Aa p0 ca), (.agg #[(iv p1.Width), (iv p1.Height), (sv Ab p1.Cells cb)])] w (fun v w' => v = (bv r) ∧ Keeps NoS w w') := by
 have hS : St NoS w w [rowR enc_Tile Aa ca p0, rowR encInt Ab cb p1.Cells] [] := St.init (ro_cons hR0 (ro_cons hR1 (ro_nil _ _)))
 refine enter 18 Tryd.func31 rfl Tryd.ntmps31 rfl ?_
 unfold tile_of at hf
 refine WC.seq (WC.region ?_)
 refine WL.new hS 2 [] (fun g => (pt g)) (.cells #[(sv Aa p0 ca)] 23 (0, 0)) [] (fun fb g => by kernel_rfl) trivial (fun g2 w3 hS4 => ?_)
 refine ⟨trivial, ?_⟩
 refine WL.new hS4 3 [] (fun g => (pt g)) (.cells #[(iv p1.Width), (iv p1.Height), (sv Ab p1.Cells cb)] 40 (0, 0)) [] (fun fb g => by kernel_rfl) trivial (fun g5 w6 hS7 => ?_)
 refine ⟨trivial, ?_⟩
 refine seg 3 [] [2, 3] [(2, (pt g2)), (3, (pt g5))] [] (fun fb => by kernel_rfl) rfl trivial ?_
 refine WL.done rfl (WX.next (WC.seq (WC.region ?_)))
 refine seg 1 [.v (sv Aa p0 ca)] [2, 3, 5] [(2, (pt g2)), (3, (pt g5)), (5, (sv Aa p0 ca))] [.cell ⟨g2, 0, none⟩ (sv Aa p0 ca)] (fun fb => by kernel_rfl) rfl ⟨hS7.cell 1 rfl 0 rfl, trivial⟩ ?_
 obtain ⟨t8, ht9, hf⟩ := bind_some hf
 refine WL.call (some 6) 14 #[(sv Aa p0 ca)] (fun fb => by kernel_rfl) (tile_Valid_calls _ p0 Aa ca t8 _ (hS7.rd 0) ht9) (fun v w10 hR11 => ?_)
 obtain ⟨rfl, hk_⟩ := hR11
 have hS12 := hS7.keepN hk_
 refine ⟨trivial, ?_⟩
 refine seg 3 [] [2, 3, 7] [(2, (pt g2)), (3, (pt g5)), (7, (bv t8))] [] (fun fb => by kernel_rfl) rfl trivial ?_
 obtain ⟨x13, hx14, hf⟩ := bind_some hf
 refine WL.cutW (T := Bool) 6 (fun t => [(2, (pt g2)), (3, (pt g5)), (10, (bv t))]) (fun t w1 => (St NoS w w1 [rowR enc_Tile Aa ca p0, rowR encInt Ab cb p1.Cells] [blk g2 (.cells #[(sv Aa p0 ca)] 23 (0, 0)), blk g5 (.cells #[(iv p1.Width), (iv p1.Height), (sv Ab p1.Cells cb)] 40 (0, 0))] ∧ x13 = t) ∧ CellsOK [] w1) (fun K => ?_) ?_
 ·
  rcases br_some hx14 with ⟨h15, hx14⟩ | ⟨h15, hx14⟩
  ·
   refine WL.setB 7 h15 rfl ?_
   refine seg 4 [.v (iv p1.Width), .v (iv p1.Height), .v (sv Ab p1.Cells cb)] [2, 3, 7, 8] [(2, (pt g2)), (3, (pt g5)), (7, (bv true)), (8, (.agg #[(iv p1.Width), (iv p1.Height), (sv Ab p1.Cells cb)]))] [.cell ⟨g5, 0, none⟩ (iv p1.Width), .cell ⟨g5, 1, none⟩ (iv p1.Height), .cell ⟨g5, 2, none⟩ (sv Ab p1.Cells cb)] (fun fb => by kernel_rfl) rfl ⟨hS12.cell 0 rfl 0 rfl, hS12.cell 0 rfl 1 rfl, hS12.cell 0 rfl 2 rfl, trivial⟩ ?_
   obtain ⟨t16, ht17, hx14⟩ := bind_some hx14
   refine WL.call (some 9) 41 #[(.agg #[(iv p1.Width), (iv p1.Height), (sv Ab p1.Cells cb)])] (fun fb => by kernel_rfl) (tile_Form_calls p1 Ab cb t16 _ (hS12.rd 1) ht17) (fun v w18 hR19 => ?_)
   obtain ⟨rfl, hk_⟩ := hR19
   have hS20 := hS12.keepN hk_
   refine ⟨trivial, ?_⟩
   refine seg 6 [] [2, 3, 10] [(2, (pt g2)), (3, (pt g5)), (10, (bv t16))] [] (fun fb => by kernel_rfl) rfl trivial ?_
   injection hx14 with hx14
   exact WL.to K t16 [2, 3, 10] rfl ⟨⟨(hS20.subR [0, 1]).sub [1, 0] (by decide), hx14.symm⟩, trivial⟩
  refine WL.setB 7 h15 rfl ?_
  refine seg 6 [] [2, 3, 10] [(2, (pt g2)), (3, (pt g5)), (10, (bv false))] [] (fun fb => by kernel_rfl) rfl trivial ?_
  injection hx14 with hx14
  exact WL.to K false [2, 3, 10] rfl ⟨⟨(hS12.subR [0, 1]).sub [1, 0] (by decide), hx14.symm⟩, trivial⟩
 rintro y21 w23 ⟨⟨hS24, hq22⟩, hF25⟩
 subst hq22
 refine seg 7 [] [2, 3, 11] [(2, (pt g2)), (3, (pt g5)), (11, (bv x13))] [] (fun fb => by kernel_rfl) rfl trivial ?_
 obtain ⟨x26, hx27, hf⟩ := bind_some hf
 refine WL.cutW (T := Bool) 13 (fun t => [(17, (bv t))]) (fun t w1 => (St NoS w w1 [rowR enc_Tile Aa ca p0, rowR encInt Ab cb p1.Cells] [] ∧ x26 = t) ∧ CellsOK [] w1) (fun K => ?_) ?_
 ·
  rcases br_some hx27 with ⟨h28, hx27⟩ | ⟨h28, hx27⟩
  ·
   refine WL.setB 11 h28 rfl ?_
   refine seg 10 [.v (sv Ab p1.Cells cb)] [11, 13, 14] [(11, (bv true)), (13, (sv Ab p1.Cells cb)), (14, (.func (.func 42) #[] #[(pt g2)]))] [.cell ⟨g5, 2, none⟩ (sv Ab p1.Cells cb)] (fun fb => by kernel_rfl) rfl ⟨hS24.cell 1 rfl 2 rfl, trivial⟩ ?_
   obtain ⟨t29, ht30, hx27⟩ := bind_some hx27
   refine WL.call (some 15) 39 #[(sv Ab p1.Cells cb), (.func (.func 42) #[] #[(pt g2)])] (fun fb => by kernel_rfl) (slices_ContainsFunc_int_int_with_tile_of_1_calls _ p1.Cells p0 Ab cb g2 Aa ca t29 _ (hS24.rd 1) (hS24.ow 0) (hS24.rd 0) ht30) (fun v w32 hR33 => ?_)
   obtain ⟨rfl, hk_⟩ := hR33
   have hS34 := hS24.keepN hk_
   refine ⟨trivial, ?_⟩
   refine seg 13 [] [17] [(17, (bv (!t29)))] [] (fun fb => by kernel_rfl) rfl trivial ?_
   injection hx27 with hx27
   exact WL.to K (!t29) [17] rfl ⟨⟨(hS34.subR [0, 1]).sub [] (by decide), hx27.symm⟩, trivial⟩
  refine WL.setB 11 h28 rfl ?_
  refine seg 13 [] [17] [(17, (bv false))] [] (fun fb => by kernel_rfl) rfl trivial ?_
  injection hx27 with hx27
  exact WL.to K false [17] rfl ⟨⟨(hS24.subR [0, 1]).sub [] (by decide), hx27.symm⟩, trivial⟩
 rintro y35 w37 ⟨⟨hS38, hq36⟩, hF39⟩
 subst hq36
 refine seg 14 [] [4] [(4, (bv x26))] [] (fun fb => by kernel_rfl) rfl trivial ?_
 refine WL.done rfl (WX.next ?_)
 refine WC.ret ?_
 injection hf with hf
 subst hf
 exact WX.ret_ [] (bv x26) [] (fun fb => by kernel_rfl) trivial ⟨_, rfl, rfl, hS38.keep⟩
theorem tile_joins_calls (k : Nat) (p0 : List Tile) (p1 : Pattern) (p2 : Bool) (Aa : Option Addr) (ca : Nat) (Ab : Option Addr) (cb : Nat) (r : Bool) (w : World) (hR0 : RO NoS w (rowR enc_Tile Aa ca p0)) (hR1 : RO NoS w (rowR encInt Ab cb p1.Cells)) (hf : tile_joins k p0 p1 p2 = some r) :
  CallsR Tryd.prog 32 #[(sv Aa p0 ca), (.agg #[(iv p1.Width), (iv p1.Height), (sv Ab p1.Cells cb)]), (bv p2)] w (fun v w' => v = (bv r) ∧ Keeps NoS w w') := by
 have hS : St NoS w w [rowR enc_Tile Aa ca p0, rowR encInt Ab cb p1.Cells] [] := St.init (ro_cons hR0 (ro_cons hR1 (ro_nil _ _)))
 refine enter 92 Tryd.func32 rfl Tryd.ntmps32 rfl ?_
 unfold tile_joins at hf
 refine WC.seq (WC.region ?_)
 refine WL.new hS 4 [] (fun g => (pt g)) (.cells #[(iv p1.Width), (iv p1.Height), (sv Ab p1.Cells cb)] 40 (0, 0)) [] (fun fb g => by kernel_rfl) trivial (fun g3 w4 hS5 => ?_)
 refine ⟨trivial, ?_⟩
 refine seg 2 [] [0, 2, 4] [(0, (sv Aa p0 ca)), (2, (bv p2)), (4, (pt g3))] [] (fun fb => by kernel_rfl) rfl trivial ?_
 refine WL.done rfl (WX.next (WC.seq (WC.seq (WC.region ?_))))
 refine seg 4 [.v (sv Ab p1.Cells cb)] [0, 2, 4, 12, 13, 14] [(0, (sv Aa p0 ca)), (2, (bv p2)), (4, (pt g3)), (12, (sv Ab p1.Cells cb)), (13, (iv (p1.Cells.length : Int))), (14, (iv 0))] [.cell ⟨g3, 2, none⟩ (sv Ab p1.Cells cb)] (fun fb => by kernel_rfl) rfl ⟨hS5.cell 0 rfl 2 rfl, trivial⟩ ?_
 refine WL.done rfl (WX.next ?_)
 obtain ⟨x7, hx8, hf⟩ := bind_some hf
 refine WC.cutN (T := Unit) (fun t => []) (fun t w1 => St NoS w w1 [rowR enc_Tile Aa ca p0, rowR encInt Ab cb p1.Cells] [] ∧ x7 = .inr t) (fun Kx7 => ?_) ?_
 ·
  refine WC.block ?_
  refine WC.loop (T := Int) (fun t => [(0, (sv Aa p0 ca)), (2, (bv p2)), (4, (pt g3)), (12, (sv Ab p1.Cells cb)), (13, (iv (p1.Cells.length : Int))), (14, (iv t))]) (fun n t w1 => St NoS w w1 [rowR enc_Tile Aa ca p0, rowR encInt Ab cb p1.Cells] [blk g3 (.cells #[(iv p1.Width), (iv p1.Height), (sv Ab p1.Cells cb)] 40 (0, 0))] ∧ tile_joins.l0 n t p0 p1 p2 = some x7) k 0 [0, 2, 4, 12, 13, 14] rfl ⟨(hS5.subR [0, 1]).sub [0] (by decide), hx8⟩ ?_
  rintro k9 x6 w10 ⟨hS11, hl12⟩
  cases k9 with
  | zero => rw [tile_joins.l0] at hl12; cases hl12
  | succ k9 =>
   rw [tile_joins.l0] at hl12
   refine WC.seq (WC.region ?_)
   refine seg 1 [] [0, 2, 4, 12, 13, 14, 15] [(0, (sv Aa p0 ca)), (2, (bv p2)), (4, (pt g3)), (12, (sv Ab p1.Cells cb)), (13, (iv (p1.Cells.length : Int))), (14, (iv x6)), (15, (bv (decide (x6 < (p1.Cells.length : Int)))))] [] (fun fb => by kernel_rfl) rfl trivial ?_
   refine WL.done rfl (WX.next (WC.seq ?_))
   rcases br_some hl12 with ⟨h13, hl12⟩ | ⟨h13, hl12⟩
   ·refine WC.condT2 (fun fb => by kernel_rfl) h13 ?_
    refine WC.skip (WX.next (WC.seq (WC.block (WC.seq (WC.region ?_)))))
    refine seg 1 [] [0, 2, 4, 12, 13, 14, 16] [(0, (sv Aa p0 ca)), (2, (bv p2)), (4, (pt g3)), (12, (sv Ab p1.Cells cb)), (13, (iv (p1.Cells.length : Int))), (14, (iv x6)), (16, (iv x6))] [] (fun fb => by kernel_rfl) rfl trivial ?_
    obtain ⟨h14, hl12⟩ := as_some hl12
    refine seg 5 [.v (iv (rdD p1.Cells x6 0))] [0, 2, 4, 7, 8, 12, 13, 14] [(0, (sv Aa p0 ca)), (2, (bv p2)), (4, (pt g3)), (7, (iv x6)), (8, (iv (rdD p1.Cells x6 0))), (12, (sv Ab p1.Cells cb)), (13, (iv (p1.Cells.length : Int))), (14, (iv x6))] [.idx Ab x6 p1.Cells.length, .cell ((adr Ab).add ((x6).toNat * 1)) (iv (rdD p1.Cells x6 0))] (fun fb => by kernel_rfl) rfl ⟨rowR.adr (hS11.rd 1).1 h14.1 h14.2, rowR.cell (hS11.rd 1).1 0 h14.1 h14.2 0 rfl, trivial⟩ ?_
    refine WL.done rfl (WX.next (WC.seq ?_))
    obtain ⟨h17, hl12⟩ := as_some hl12
    refine WC.regionD ([(2, ⟨g3, 0, none⟩, (iv p1.Width)), (6, ⟨g3, 0, none⟩, (iv p1.Width))], [0, 1, 2, 3, 4, 5, 6, 7, 8, 9], [[], [], [1], [0, 1, 2], [], [], [5], [4, 5, 6], [0, 1, 2, 3], [0, 1, 2, 3, 4, 5, 6, 7, 8]]) [[0, 1, 2, 3, 4, 5, 6, 7, 8, 9]] (by kernel_rfl) (by kernel_rfl) (NoPanic.seq (NoPanic.block (NoPanic.seq (NoPanic.seq (NoPanic.block (NoPanic.seq (NoPanic.body))))))) ?_
    have hS16 := hS11.drew
    revert hS16
    generalize World.drew w10 = w15
    intro hS16
    refine ⟨⟨hS16.cell 0 rfl 0 rfl, hS16.cell 0 rfl 0 rfl, trivial⟩, forallC ?_ (forallN)⟩
    refine segF 10 [.v (iv p1.Width), .v (iv p1.Width)] [0, 2, 4, 8, 9, 10, 12, 13, 14] [(0, (sv Aa p0 ca)), (2, (bv p2)), (4, (pt g3)), (8, (iv (rdD p1.Cells x6 0))), (9, (iv (Int.tmod x6 p1.Width))), (10, (iv (w64 (Int.tdiv x6 p1.Width)))), (12, (sv Ab p1.Cells cb)), (13, (iv (p1.Cells.length : Int))), (14, (iv x6))] [.ne p1.Width, .ne p1.Width] [0, 1] [(2, ⟨g3, 0, none⟩, (iv p1.Width)), (6, ⟨g3, 0, none⟩, (iv p1.Width))] (fun fb => by kernel_rfl) rfl ⟨h17, h17, trivial⟩ rfl ?_
    refine WL.done rfl (WX.next (WC.seq (WC.seq (WC.region ?_))))
    refine seg 6 [.v (iv p1.Width)] [0, 2, 4, 8, 9, 10, 12, 13, 14, 32] [(0, (sv Aa p0 ca)), (2, (bv p2)), (4, (pt g3)), (8, (iv (rdD p1.Cells x6 0))), (9, (iv (Int.tmod x6 p1.Width))), (10, (iv (w64 (Int.tdiv x6 p1.Width)))), (12, (sv Ab p1.Cells cb)), (13, (iv (p1.Cells.length : Int))), (14, (iv x6)), (32, (bv (decide (w64 ((Int.tmod x6 p1.Width) + 1) < p1.Width))))] [.cell ⟨g3, 0, none⟩ (iv p1.Width)] (fun fb => by kernel_rfl) rfl ⟨hS16.cell 0 rfl 0 rfl, trivial⟩ ?_
    refine WL.cutV (T := Bool) 8 (fun t => [(34, (bv t)), (0, (sv Aa p0 ca)), (2, (bv p2)), (4, (pt g3)), (8, (iv (rdD p1.Cells x6 0))), (9, (iv (Int.tmod x6 p1.Width))), (10, (iv (w64 (Int.tdiv x6 p1.Width)))), (12, (sv Ab p1.Cells cb)), (13, (iv (p1.Cells.length : Int))), (14, (iv x6))]) (fun t => ((decide (w64 ((Int.tmod x6 p1.Width) + 1) < p1.Width)) || p2) = t) (fun K => ?_) ?_
    ·
     rcases Bool.eq_false_or_eq_true (decide (w64 ((Int.tmod x6 p1.Width) + 1) < p1.Width)) with h18 | h18
     ·
      refine WL.setB 32 h18 rfl ?_
      refine seg 8 [] [0, 2, 4, 8, 9, 10, 12, 13, 14, 34] [(0, (sv Aa p0 ca)), (2, (bv p2)), (4, (pt g3)), (8, (iv (rdD p1.Cells x6 0))), (9, (iv (Int.tmod x6 p1.Width))), (10, (iv (w64 (Int.tdiv x6 p1.Width)))), (12, (sv Ab p1.Cells cb)), (13, (iv (p1.Cells.length : Int))), (14, (iv x6)), (34, (bv true))] [] (fun fb => by kernel_rfl) rfl trivial ?_
      exact WL.toV K true [34, 0, 2, 4, 8, 9, 10, 12, 13, 14] rfl (by first | (rw [h18]; done) | (rw [h18]; rfl))
     refine WL.setB 32 h18 rfl ?_
     refine seg 8 [] [0, 2, 4, 8, 9, 10, 12, 13, 14, 34] [(0, (sv Aa p0 ca)), (2, (bv p2)), (4, (pt g3)), (8, (iv (rdD p1.Cells x6 0))), (9, (iv (Int.tmod x6 p1.Width))), (10, (iv (w64 (Int.tdiv x6 p1.Width)))), (12, (sv Ab p1.Cells cb)), (13, (iv (p1.Cells.length : Int))), (14, (iv x6)), (34, (bv p2))] [] (fun fb => by kernel_rfl) rfl trivial ?_
     exact WL.toV K p2 [34, 0, 2, 4, 8, 9, 10, 12, 13, 14] rfl (by first | (rw [h18]; done) | (rw [h18]; rfl))
    rintro b19 rfl
    refine WL.done rfl (WX.next ?_)
    obtain ⟨x20, hx21, hl12⟩ := bind_some hl12
    refine WC.cutN (T := Unit) (fun t => [(0, (sv Aa p0 ca)), (2, (bv p2)), (4, (pt g3)), (8, (iv (rdD p1.Cells x6 0))), (9, (iv (Int.tmod x6 p1.Width))), (10, (iv (w64 (Int.tdiv x6 p1.Width)))), (12, (sv Ab p1.Cells cb)), (13, (iv (p1.Cells.length : Int))), (14, (iv x6))]) (fun t w1 => St NoS w w1 [rowR enc_Tile Aa ca p0, rowR encInt Ab cb p1.Cells] [blk g3 (.cells #[(iv p1.Width), (iv p1.Height), (sv Ab p1.Cells cb)] 40 (0, 0))] ∧ x20 = .inr t) (fun Kx20 => ?_) ?_
    ·
     rcases br_some hx21 with ⟨h22, hx21⟩ | ⟨h22, hx21⟩
     ·refine WC.condT2 (fun fb => by kernel_rfl) h22 ?_
      refine WC.seq ?_
      obtain ⟨h25, hx21⟩ := as_some hx21
      obtain ⟨h26, hx21⟩ := as_some hx21
      obtain ⟨h27, hx21⟩ := as_some hx21
      refine WC.regionD ([(4, (((adr Aa).add (((rdD p1.Cells x6 0)).toNat * 4)).add 1), (iv ((rdD p0 (rdD p1.Cells x6 0) z_Tile).E))), (7, ⟨g3, 2, none⟩, (sv Ab p1.Cells cb)), (10, ⟨g3, 0, none⟩, (iv p1.Width)), (15, ⟨g3, 0, none⟩, (iv p1.Width)), (19, ((adr Ab).add ((w64 ((w64 ((w64 (Int.tdiv x6 p1.Width)) * p1.Width)) + (Int.tmod (w64 ((Int.tmod x6 p1.Width) + 1)) p1.Width))).toNat * 1)), (iv (rdD p1.Cells (w64 ((w64 ((w64 (Int.tdiv x6 p1.Width)) * p1.Width)) + (Int.tmod (w64 ((Int.tmod x6 p1.Width) + 1)) p1.Width))) 0))), (22, (((adr Aa).add (((rdD p1.Cells (w64 ((w64 ((w64 (Int.tdiv x6 p1.Width)) * p1.Width)) + (Int.tmod (w64 ((Int.tmod x6 p1.Width) + 1)) p1.Width))) 0)).toNat * 4)).add 3), (iv ((rdD p0 (rdD p1.Cells (w64 ((w64 ((w64 (Int.tdiv x6 p1.Width)) * p1.Width)) + (Int.tmod (w64 ((Int.tmod x6 p1.Width) + 1)) p1.Width))) 0) z_Tile).W)))], [0, 1, 2, 3, 4, 5, 6, 7, 8, 9, 10, 11, 12, 13, 14, 15, 16, 17, 18, 19, 20, 21, 22, 23], [[], [], [0, 1], [0, 1, 2], [0, 1, 2, 3], [], [], [6], [], [], [9], [8, 9, 10], [], [12], [], [14], [12, 13, 14, 15], [8, 9, 10, 11, 12, 13, 14, 15, 16], [6, 7, 8, 9, 10, 11, 12, 13, 14, 15, 16, 17], [6, 7, 8, 9, 10, 11, 12, 13, 14, 15, 16, 17, 18], [5, 6, 7, 8, 9, 10, 11, 12, 13, 14, 15, 16, 17, 18, 19], [5, 6, 7, 8, 9, 10, 11, 12, 13, 14, 15, 16, 17, 18, 19, 20], [5, 6, 7, 8, 9, 10, 11, 12, 13, 14, 15, 16, 17, 18, 19, 20, 21], [0, 1, 2, 3, 4, 5, 6, 7, 8, 9, 10, 11, 12, 13, 14, 15, 16, 17, 18, 19, 20, 21, 22]]) [[0, 1, 2, 3, 4, 5, 6, 7, 8, 9, 10, 11, 12, 13, 14, 15, 16, 17, 18, 19, 20, 21, 22, 23]] (by kernel_rfl) (by kernel_rfl) (NoPanic.seq (NoPanic.seq (NoPanic.block (NoPanic.seq (NoPanic.seq (NoPanic.block (NoPanic.seq (NoPanic.body)))))))) ?_
      have hS24 := hS16.drew
      revert hS24
      generalize World.drew w15 = w23
      intro hS24
      refine ⟨⟨rowR.cell (hS24.rd 0).1 z_Tile h25.1 h25.2 1 rfl, hS24.cell 0 rfl 2 rfl, hS24.cell 0 rfl 0 rfl, hS24.cell 0 rfl 0 rfl, rowR.cell (hS24.rd 1).1 0 h26.1 h26.2 0 rfl, rowR.cell (hS24.rd 0).1 z_Tile h27.1 h27.2 3 rfl, trivial⟩, forallC ?_ (forallN)⟩
      refine segF 24 [.v (iv ((rdD p0 (rdD p1.Cells x6 0) z_Tile).E)), .v (sv Ab p1.Cells cb), .v (iv p1.Width), .v (iv p1.Width), .v (iv (rdD p1.Cells (w64 ((w64 ((w64 (Int.tdiv x6 p1.Width)) * p1.Width)) + (Int.tmod (w64 ((Int.tmod x6 p1.Width) + 1)) p1.Width))) 0)), .v (iv ((rdD p0 (rdD p1.Cells (w64 ((w64 ((w64 (Int.tdiv x6 p1.Width)) * p1.Width)) + (Int.tmod (w64 ((Int.tmod x6 p1.Width) + 1)) p1.Width))) 0) z_Tile).W))] [0, 2, 4, 8, 9, 10, 12, 13, 14, 58] [(0, (sv Aa p0 ca)), (2, (bv p2)), (4, (pt g3)), (8, (iv (rdD p1.Cells x6 0))), (9, (iv (Int.tmod x6 p1.Width))), (10, (iv (w64 (Int.tdiv x6 p1.Width)))), (12, (sv Ab p1.Cells cb)), (13, (iv (p1.Cells.length : Int))), (14, (iv x6)), (58, (bv (((rdD p0 (rdD p1.Cells x6 0) z_Tile).E) != ((rdD p0 (rdD p1.Cells (w64 ((w64 ((w64 (Int.tdiv x6 p1.Width)) * p1.Width)) + (Int.tmod (w64 ((Int.tmod x6 p1.Width) + 1)) p1.Width))) 0) z_Tile).W))))] [.idx Aa (rdD p1.Cells x6 0) p0.length, .ne p1.Width, .idx Ab (w64 ((w64 ((w64 (Int.tdiv x6 p1.Width)) * p1.Width)) + (Int.tmod (w64 ((Int.tmod x6 p1.Width) + 1)) p1.Width))) p1.Cells.length, .idx Aa (rdD p1.Cells (w64 ((w64 ((w64 (Int.tdiv x6 p1.Width)) * p1.Width)) + (Int.tmod (w64 ((Int.tmod x6 p1.Width) + 1)) p1.Width))) 0) p0.length] [0, 1, 2, 3, 4, 5] [(4, (((adr Aa).add (((rdD p1.Cells x6 0)).toNat * 4)).add 1), (iv ((rdD p0 (rdD p1.Cells x6 0) z_Tile).E))), (7, ⟨g3, 2, none⟩, (sv Ab p1.Cells cb)), (10, ⟨g3, 0, none⟩, (iv p1.Width)), (15, ⟨g3, 0, none⟩, (iv p1.Width)), (19, ((adr Ab).add ((w64 ((w64 ((w64 (Int.tdiv x6 p1.Width)) * p1.Width)) + (Int.tmod (w64 ((Int.tmod x6 p1.Width) + 1)) p1.Width))).toNat * 1)), (iv (rdD p1.Cells (w64 ((w64 ((w64 (Int.tdiv x6 p1.Width)) * p1.Width)) + (Int.tmod (w64 ((Int.tmod x6 p1.Width) + 1)) p1.Width))) 0))), (22, (((adr Aa).add (((rdD p1.Cells (w64 ((w64 ((w64 (Int.tdiv x6 p1.Width)) * p1.Width)) + (Int.tmod (w64 ((Int.tmod x6 p1.Width) + 1)) p1.Width))) 0)).toNat * 4)).add 3), (iv ((rdD p0 (rdD p1.Cells (w64 ((w64 ((w64 (Int.tdiv x6 p1.Width)) * p1.Width)) + (Int.tmod (w64 ((Int.tmod x6 p1.Width) + 1)) p1.Width))) 0) z_Tile).W)))] (fun fb => by kernel_rfl) rfl ⟨rowR.adr (hS24.rd 0).1 h25.1 h25.2, h17, rowR.adr (hS24.rd 1).1 h26.1 h26.2, rowR.adr (hS24.rd 0).1 h27.1 h27.2, trivial⟩ rfl ?_
      refine WL.done rfl (WX.next ?_)
      rcases br_some hx21 with ⟨h28, hx21⟩ | ⟨h28, hx21⟩
      ·refine WC.condT2 (fun fb => by kernel_rfl) h28 ?_
       refine WC.seq (WC.region ?_)
       refine seg 1 [] [6] [(6, (bv false))] [] (fun fb => by kernel_rfl) rfl trivial ?_
       refine WL.done rfl (WX.next ?_)
       refine WC.ret ?_
       injection hx21 with hx21
       subst hx21
       injection hl12 with hl12
       subst hl12
       injection hf with hf
       subst hf
       exact WX.thenR (WX.blockR (WX.thenR (WX.thenR (WX.blockR (WX.thenR (WX.ret_ [] (bv false) [] (fun fb => by kernel_rfl) trivial ⟨_, rfl, rfl, hS24.keep⟩))))))
      refine WC.condF2 (fun fb => by kernel_rfl) h28 ?_
      refine WC.skip ?_
      injection hx21 with hx21
      exact WX.to Kx20 () [0, 2, 4, 8, 9, 10, 12, 13, 14] rfl ⟨(hS24.subR [0, 1]).sub [0] (by decide), hx21.symm⟩
     refine WC.condF2 (fun fb => by kernel_rfl) h22 ?_
     refine WC.skip ?_
     injection hx21 with hx21
     exact WX.to Kx20 () [0, 2, 4, 8, 9, 10, 12, 13, 14] rfl ⟨(hS16.subR [0, 1]).sub [0] (by decide), hx21.symm⟩
    rintro y33 w29 ⟨hS30, hq31⟩
    subst hq31
    have hl12 := sum_inr hl12
    refine WX.next (WC.seq (WC.region ?_))
    refine seg 6 [.v (iv p1.Height)] [0, 2, 4, 8, 9, 10, 12, 13, 14, 64] [(0, (sv Aa p0 ca)), (2, (bv p2)), (4, (pt g3)), (8, (iv (rdD p1.Cells x6 0))), (9, (iv (Int.tmod x6 p1.Width))), (10, (iv (w64 (Int.tdiv x6 p1.Width)))), (12, (sv Ab p1.Cells cb)), (13, (iv (p1.Cells.length : Int))), (14, (iv x6)), (64, (bv (decide (w64 ((w64 (Int.tdiv x6 p1.Width)) + 1) < p1.Height))))] [.cell ⟨g3, 1, none⟩ (iv p1.Height)] (fun fb => by kernel_rfl) rfl ⟨hS30.cell 0 rfl 1 rfl, trivial⟩ ?_
    refine WL.cutV (T := Bool) 8 (fun t => [(66, (bv t)), (0, (sv Aa p0 ca)), (2, (bv p2)), (4, (pt g3)), (8, (iv (rdD p1.Cells x6 0))), (9, (iv (Int.tmod x6 p1.Width))), (10, (iv (w64 (Int.tdiv x6 p1.Width)))), (12, (sv Ab p1.Cells cb)), (13, (iv (p1.Cells.length : Int))), (14, (iv x6))]) (fun t => ((decide (w64 ((w64 (Int.tdiv x6 p1.Width)) + 1) < p1.Height)) || p2) = t) (fun K => ?_) ?_
    ·
     rcases Bool.eq_false_or_eq_true (decide (w64 ((w64 (Int.tdiv x6 p1.Width)) + 1) < p1.Height)) with h34 | h34
     ·
      refine WL.setB 64 h34 rfl ?_
      refine seg 8 [] [0, 2, 4, 8, 9, 10, 12, 13, 14, 66] [(0, (sv Aa p0 ca)), (2, (bv p2)), (4, (pt g3)), (8, (iv (rdD p1.Cells x6 0))), (9, (iv (Int.tmod x6 p1.Width))), (10, (iv (w64 (Int.tdiv x6 p1.Width)))), (12, (sv Ab p1.Cells cb)), (13, (iv (p1.Cells.length : Int))), (14, (iv x6)), (66, (bv true))] [] (fun fb => by kernel_rfl) rfl trivial ?_
      exact WL.toV K true [66, 0, 2, 4, 8, 9, 10, 12, 13, 14] rfl (by first | (rw [h34]; done) | (rw [h34]; rfl))
     refine WL.setB 64 h34 rfl ?_
     refine seg 8 [] [0, 2, 4, 8, 9, 10, 12, 13, 14, 66] [(0, (sv Aa p0 ca)), (2, (bv p2)), (4, (pt g3)), (8, (iv (rdD p1.Cells x6 0))), (9, (iv (Int.tmod x6 p1.Width))), (10, (iv (w64 (Int.tdiv x6 p1.Width)))), (12, (sv Ab p1.Cells cb)), (13, (iv (p1.Cells.length : Int))), (14, (iv x6)), (66, (bv p2))] [] (fun fb => by kernel_rfl) rfl trivial ?_
     exact WL.toV K p2 [66, 0, 2, 4, 8, 9, 10, 12, 13, 14] rfl (by first | (rw [h34]; done) | (rw [h34]; rfl))
    rintro b35 rfl
    refine WL.done rfl (WX.next ?_)
    obtain ⟨x36, hx37, hl12⟩ := bind_some hl12
    refine WC.cutN (T := Unit) (fun t => [(0, (sv Aa p0 ca)), (2, (bv p2)), (4, (pt g3)), (12, (sv Ab p1.Cells cb)), (13, (iv (p1.Cells.length : Int))), (14, (iv x6))]) (fun t w1 => St NoS w w1 [rowR enc_Tile Aa ca p0, rowR encInt Ab cb p1.Cells] [blk g3 (.cells #[(iv p1.Width), (iv p1.Height), (sv Ab p1.Cells cb)] 40 (0, 0))] ∧ x36 = .inr t) (fun Kx36 => ?_) ?_
    ·
     rcases br_some hx37 with ⟨h38, hx37⟩ | ⟨h38, hx37⟩
     ·refine WC.condT2 (fun fb => by kernel_rfl) h38 ?_
      refine WC.seq ?_
      obtain ⟨h41, hx37⟩ := as_some hx37
      obtain ⟨h42, hx37⟩ := as_some hx37
      obtain ⟨h43, hx37⟩ := as_some hx37
      obtain ⟨h44, hx37⟩ := as_some hx37
      refine WC.regionD ([(4, ((adr Aa).add (((rdD p1.Cells x6 0)).toNat * 4)), (iv ((rdD p0 (rdD p1.Cells x6 0) z_Tile).N))), (7, ⟨g3, 2, none⟩, (sv Ab p1.Cells cb)), (11, ⟨g3, 1, none⟩, (iv p1.Height)), (14, ⟨g3, 0, none⟩, (iv p1.Width)), (19, ((adr Ab).add ((w64 ((w64 ((Int.tmod (w64 ((w64 (Int.tdiv x6 p1.Width)) + 1)) p1.Height) * p1.Width)) + (Int.tmod x6 p1.Width))).toNat * 1)), (iv (rdD p1.Cells (w64 ((w64 ((Int.tmod (w64 ((w64 (Int.tdiv x6 p1.Width)) + 1)) p1.Height) * p1.Width)) + (Int.tmod x6 p1.Width))) 0))), (22, (((adr Aa).add (((rdD p1.Cells (w64 ((w64 ((Int.tmod (w64 ((w64 (Int.tdiv x6 p1.Width)) + 1)) p1.Height) * p1.Width)) + (Int.tmod x6 p1.Width))) 0)).toNat * 4)).add 2), (iv ((rdD p0 (rdD p1.Cells (w64 ((w64 ((Int.tmod (w64 ((w64 (Int.tdiv x6 p1.Width)) + 1)) p1.Height) * p1.Width)) + (Int.tmod x6 p1.Width))) 0) z_Tile).S)))], [0, 1, 2, 3, 4, 5, 6, 7, 8, 9, 10, 11, 12, 13, 14, 15, 16, 17, 18, 19, 20, 21, 22, 23], [[], [], [0, 1], [0, 1, 2], [0, 1, 2, 3], [], [], [6], [], [8], [], [10], [8, 9, 10, 11], [], [13], [8, 9, 10, 11, 12, 13, 14], [], [8, 9, 10, 11, 12, 13, 14, 15, 16], [6, 7, 8, 9, 10, 11, 12, 13, 14, 15, 16, 17], [6, 7, 8, 9, 10, 11, 12, 13, 14, 15, 16, 17, 18], [5, 6, 7, 8, 9, 10, 11, 12, 13, 14, 15, 16, 17, 18, 19], [5, 6, 7, 8, 9, 10, 11, 12, 13, 14, 15, 16, 17, 18, 19, 20], [5, 6, 7, 8, 9, 10, 11, 12, 13, 14, 15, 16, 17, 18, 19, 20, 21], [0, 1, 2, 3, 4, 5, 6, 7, 8, 9, 10, 11, 12, 13, 14, 15, 16, 17, 18, 19, 20, 21, 22]]) [[0, 1, 2, 3, 4, 5, 6, 7, 8, 9, 10, 11, 12, 13, 14, 15, 16, 17, 18, 19, 20, 21, 22, 23]] (by kernel_rfl) (by kernel_rfl) (NoPanic.seq (NoPanic.block (NoPanic.seq (NoPanic.seq (NoPanic.block (NoPanic.seq (NoPanic.body))))))) ?_
      have hS40 := hS30.drew
      revert hS40
      generalize World.drew w29 = w39
      intro hS40
      refine ⟨⟨rowR.cell (hS40.rd 0).1 z_Tile h41.1 h41.2 0 rfl, hS40.cell 0 rfl 2 rfl, hS40.cell 0 rfl 1 rfl, hS40.cell 0 rfl 0 rfl, rowR.cell (hS40.rd 1).1 0 h43.1 h43.2 0 rfl, rowR.cell (hS40.rd 0).1 z_Tile h44.1 h44.2 2 rfl, trivial⟩, forallC ?_ (forallN)⟩
      refine segF 24 [.v (iv ((rdD p0 (rdD p1.Cells x6 0) z_Tile).N)), .v (sv Ab p1.Cells cb), .v (iv p1.Height), .v (iv p1.Width), .v (iv (rdD p1.Cells (w64 ((w64 ((Int.tmod (w64 ((w64 (Int.tdiv x6 p1.Width)) + 1)) p1.Height) * p1.Width)) + (Int.tmod x6 p1.Width))) 0)), .v (iv ((rdD p0 (rdD p1.Cells (w64 ((w64 ((Int.tmod (w64 ((w64 (Int.tdiv x6 p1.Width)) + 1)) p1.Height) * p1.Width)) + (Int.tmod x6 p1.Width))) 0) z_Tile).S))] [0, 2, 4, 12, 13, 14, 90] [(0, (sv Aa p0 ca)), (2, (bv p2)), (4, (pt g3)), (12, (sv Ab p1.Cells cb)), (13, (iv (p1.Cells.length : Int))), (14, (iv x6)), (90, (bv (((rdD p0 (rdD p1.Cells x6 0) z_Tile).N) != ((rdD p0 (rdD p1.Cells (w64 ((w64 ((Int.tmod (w64 ((w64 (Int.tdiv x6 p1.Width)) + 1)) p1.Height) * p1.Width)) + (Int.tmod x6 p1.Width))) 0) z_Tile).S))))] [.idx Aa (rdD p1.Cells x6 0) p0.length, .ne p1.Height, .idx Ab (w64 ((w64 ((Int.tmod (w64 ((w64 (Int.tdiv x6 p1.Width)) + 1)) p1.Height) * p1.Width)) + (Int.tmod x6 p1.Width))) p1.Cells.length, .idx Aa (rdD p1.Cells (w64 ((w64 ((Int.tmod (w64 ((w64 (Int.tdiv x6 p1.Width)) + 1)) p1.Height) * p1.Width)) + (Int.tmod x6 p1.Width))) 0) p0.length] [0, 1, 2, 3, 4, 5] [(4, ((adr Aa).add (((rdD p1.Cells x6 0)).toNat * 4)), (iv ((rdD p0 (rdD p1.Cells x6 0) z_Tile).N))), (7, ⟨g3, 2, none⟩, (sv Ab p1.Cells cb)), (11, ⟨g3, 1, none⟩, (iv p1.Height)), (14, ⟨g3, 0, none⟩, (iv p1.Width)), (19, ((adr Ab).add ((w64 ((w64 ((Int.tmod (w64 ((w64 (Int.tdiv x6 p1.Width)) + 1)) p1.Height) * p1.Width)) + (Int.tmod x6 p1.Width))).toNat * 1)), (iv (rdD p1.Cells (w64 ((w64 ((Int.tmod (w64 ((w64 (Int.tdiv x6 p1.Width)) + 1)) p1.Height) * p1.Width)) + (Int.tmod x6 p1.Width))) 0))), (22, (((adr Aa).add (((rdD p1.Cells (w64 ((w64 ((Int.tmod (w64 ((w64 (Int.tdiv x6 p1.Width)) + 1)) p1.Height) * p1.Width)) + (Int.tmod x6 p1.Width))) 0)).toNat * 4)).add 2), (iv ((rdD p0 (rdD p1.Cells (w64 ((w64 ((Int.tmod (w64 ((w64 (Int.tdiv x6 p1.Width)) + 1)) p1.Height) * p1.Width)) + (Int.tmod x6 p1.Width))) 0) z_Tile).S)))] (fun fb => by kernel_rfl) rfl ⟨rowR.adr (hS40.rd 0).1 h41.1 h41.2, h42, rowR.adr (hS40.rd 1).1 h43.1 h43.2, rowR.adr (hS40.rd 0).1 h44.1 h44.2, trivial⟩ rfl ?_
      refine WL.done rfl (WX.next ?_)
      rcases br_some hx37 with ⟨h45, hx37⟩ | ⟨h45, hx37⟩
      ·refine WC.condT2 (fun fb => by kernel_rfl) h45 ?_
       refine WC.seq (WC.region ?_)
       refine seg 1 [] [6] [(6, (bv false))] [] (fun fb => by kernel_rfl) rfl trivial ?_
       refine WL.done rfl (WX.next ?_)
       refine WC.ret ?_
       injection hx37 with hx37
       subst hx37
       injection hl12 with hl12
       subst hl12
       injection hf with hf
       subst hf
       exact WX.blockR (WX.thenR (WX.thenR (WX.blockR (WX.thenR (WX.ret_ [] (bv false) [] (fun fb => by kernel_rfl) trivial ⟨_, rfl, rfl, hS40.keep⟩)))))
      refine WC.condF2 (fun fb => by kernel_rfl) h45 ?_
      refine WC.skip ?_
      injection hx37 with hx37
      exact WX.to Kx36 () [0, 2, 4, 12, 13, 14] rfl ⟨(hS40.subR [0, 1]).sub [0] (by decide), hx37.symm⟩
     refine WC.condF2 (fun fb => by kernel_rfl) h38 ?_
     refine WC.skip ?_
     injection hx37 with hx37
     exact WX.to Kx36 () [0, 2, 4, 12, 13, 14] rfl ⟨(hS30.subR [0, 1]).sub [0] (by decide), hx37.symm⟩
    rintro y49 w46 ⟨hS47, hq48⟩
    subst hq48
    have hl12 := sum_inr hl12
    refine WX.blockN (WX.next ?_)
    refine WC.region ?_
    refine seg 2 [] [0, 2, 4, 12, 13, 14] [(0, (sv Aa p0 ca)), (2, (bv p2)), (4, (pt g3)), (12, (sv Ab p1.Cells cb)), (13, (iv (p1.Cells.length : Int))), (14, (iv (w64 (x6 + 1))))] [] (fun fb => by kernel_rfl) rfl trivial ?_
    refine WL.done rfl ?_
    exact WX.again k9 (Nat.lt_succ_self _) (w64 (x6 + 1)) [0, 2, 4, 12, 13, 14] rfl ⟨(hS47.subR [0, 1]).sub [0] (by decide), hl12⟩
   refine WC.condF2 (fun fb => by kernel_rfl) h13 ?_
   refine WC.exit ?_
   injection hl12 with hl12
   exact WX.thenX (WX.thenX (WX.blockHere (WX.to Kx7 () [] rfl ⟨(hS11.subR [0, 1]).sub [] (by decide), hl12.symm⟩)))
 rintro y53 w50 ⟨hS51, hq52⟩
 subst hq52
 have hf := sum_inr hf
 refine WX.next (WC.seq (WC.region ?_))
 refine seg 1 [] [6] [(6, (bv true))] [] (fun fb => by kernel_rfl) rfl trivial ?_
 refine WL.done rfl (WX.next ?_)
 refine WC.ret ?_
 injection hf with hf
 subst hf
 exact WX.ret_ [] (bv true) [] (fun fb => by kernel_rfl) trivial ⟨_, rfl, rfl, hS51.keep⟩
theorem tile_Repeats_calls (k : Nat) (p0 : List Tile) (p1 : Pattern) (Aa : Option Addr) (ca : Nat) (Ab : Option Addr) (cb : Nat) (r : Bool) (w : World) (hR0 : RO NoS w (rowR enc_Tile Aa ca p0)) (hR1 : RO NoS w (rowR encInt Ab cb p1.Cells)) (hf : tile_Repeats k p0 p1 = some r) :
  CallsR Tryd.prog 21 #[(sv Aa p0 ca), (.agg #[(iv p1.Width), (iv p1.Height), (sv Ab p1.Cells cb)])] w (fun v w' => v = (bv r) ∧ Keeps NoS w w') := by
 have hS : St NoS w w [rowR enc_Tile Aa ca p0, rowR encInt Ab cb p1.Cells] [] := St.init (ro_cons hR0 (ro_cons hR1 (ro_nil _ _)))
 refine enter 13 Tryd.func21 rfl Tryd.ntmps21 rfl ?_
 unfold tile_Repeats at hf
 refine WC.seq (WC.region ?_)
 refine WL.new hS 3 [] (fun g => (pt g)) (.cells #[(iv p1.Width), (iv p1.Height), (sv Ab p1.Cells cb)] 40 (0, 0)) [] (fun fb g => by kernel_rfl) trivial (fun g2 w3 hS4 => ?_)
 refine ⟨trivial, ?_⟩
 refine seg 2 [] [0, 3] [(0, (sv Aa p0 ca)), (3, (pt g2))] [] (fun fb => by kernel_rfl) rfl trivial ?_
 refine WL.done rfl (WX.next (WC.seq (WC.region ?_)))
 refine seg 2 [.v (iv p1.Width), .v (iv p1.Height), .v (sv Ab p1.Cells cb)] [0, 3, 5, 6] [(0, (sv Aa p0 ca)), (3, (pt g2)), (5, (sv Aa p0 ca)), (6, (.agg #[(iv p1.Width), (iv p1.Height), (sv Ab p1.Cells cb)]))] [.cell ⟨g2, 0, none⟩ (iv p1.Width), .cell ⟨g2, 1, none⟩ (iv p1.Height), .cell ⟨g2, 2, none⟩ (sv Ab p1.Cells cb)] (fun fb => by kernel_rfl) rfl ⟨hS4.cell 0 rfl 0 rfl, hS4.cell 0 rfl 1 rfl, hS4.cell 0 rfl 2 rfl, trivial⟩ ?_
 obtain ⟨t5, ht6, hf⟩ := bind_some hf
 refine WL.call (some 7) 31 #[(sv Aa p0 ca), (.agg #[(iv p1.Width), (iv p1.Height), (sv Ab p1.Cells cb)])] (fun fb => by kernel_rfl) (tile_of_calls _ p0 p1 Aa ca Ab cb t5 _ (hS4.rd 0) (hS4.rd 1) ht6) (fun v w7 hR8 => ?_)
 obtain ⟨rfl, hk_⟩ := hR8
 have hS9 := hS4.keepN hk_
 refine ⟨trivial, ?_⟩
 refine seg 4 [] [0, 3, 8] [(0, (sv Aa p0 ca)), (3, (pt g2)), (8, (bv t5))] [] (fun fb => by kernel_rfl) rfl trivial ?_
 obtain ⟨x10, hx11, hf⟩ := bind_some hf
 refine WL.cutW (T := Bool) 8 (fun t => [(12, (bv t))]) (fun t w1 => (St NoS w w1 [rowR enc_Tile Aa ca p0, rowR encInt Ab cb p1.Cells] [] ∧ x10 = t) ∧ CellsOK [] w1) (fun K => ?_) ?_
 ·
  rcases br_some hx11 with ⟨h12, hx11⟩ | ⟨h12, hx11⟩
  ·
   refine WL.setB 8 h12 rfl ?_
   refine seg 6 [.v (iv p1.Width), .v (iv p1.Height), .v (sv Ab p1.Cells cb)] [8, 9, 10] [(8, (bv true)), (9, (sv Aa p0 ca)), (10, (.agg #[(iv p1.Width), (iv p1.Height), (sv Ab p1.Cells cb)]))] [.cell ⟨g2, 0, none⟩ (iv p1.Width), .cell ⟨g2, 1, none⟩ (iv p1.Height), .cell ⟨g2, 2, none⟩ (sv Ab p1.Cells cb)] (fun fb => by kernel_rfl) rfl ⟨hS9.cell 0 rfl 0 rfl, hS9.cell 0 rfl 1 rfl, hS9.cell 0 rfl 2 rfl, trivial⟩ ?_
   obtain ⟨t13, ht14, hx11⟩ := bind_some hx11
   refine WL.call (some 11) 32 #[(sv Aa p0 ca), (.agg #[(iv p1.Width), (iv p1.Height), (sv Ab p1.Cells cb)]), (bv true)] (fun fb => by kernel_rfl) (tile_joins_calls _ p0 p1 true Aa ca Ab cb t13 _ (hS9.rd 0) (hS9.rd 1) ht14) (fun v w15 hR16 => ?_)
   obtain ⟨rfl, hk_⟩ := hR16
   have hS17 := hS9.keepN hk_
   refine ⟨trivial, ?_⟩
   refine seg 8 [] [12] [(12, (bv t13))] [] (fun fb => by kernel_rfl) rfl trivial ?_
   injection hx11 with hx11
   exact WL.to K t13 [12] rfl ⟨⟨(hS17.subR [0, 1]).sub [] (by decide), hx11.symm⟩, trivial⟩
  refine WL.setB 8 h12 rfl ?_
  refine seg 8 [] [12] [(12, (bv false))] [] (fun fb => by kernel_rfl) rfl trivial ?_
  injection hx11 with hx11
  exact WL.to K false [12] rfl ⟨⟨(hS9.subR [0, 1]).sub [] (by decide), hx11.symm⟩, trivial⟩
 rintro y18 w20 ⟨⟨hS22, hq19⟩, hF23⟩
 subst hq19
 refine seg 9 [] [4] [(4, (bv x10))] [] (fun fb => by kernel_rfl) rfl trivial ?_
 refine WL.done rfl (WX.next ?_)
 refine WC.ret ?_
 injection hf with hf
 subst hf
 exact WX.ret_ [] (bv x10) [] (fun fb => by kernel_rfl) trivial ⟨_, rfl, rfl, hS22.keep⟩
theorem tile_Fits_calls (k : Nat) (p0 : List Tile) (p1 : Pattern) (Aa : Option Addr) (ca : Nat) (Ab : Option Addr) (cb : Nat) (r : Bool) (w : World) (hR0 : RO NoS w (rowR enc_Tile Aa ca p0)) (hR1 : RO NoS w (rowR encInt Ab cb p1.Cells)) (hf : tile_Fits k p0 p1 = some r) :
  CallsR Tryd.prog 22 #[(sv Aa p0 ca), (.agg #[(iv p1.Width), (iv p1.Height), (sv Ab p1.Cells cb)])] w (fun v w' => v = (bv r) ∧ Keeps NoS w w') := by
 have hS : St NoS w w [rowR enc_Tile Aa ca p0, rowR encInt Ab cb p1.Cells] [] := St.init (ro_cons hR0 (ro_cons hR1 (ro_nil _ _)))
 refine enter 13 Tryd.func22 rfl Tryd.ntmps22 rfl ?_
 unfold tile_Fits at hf
 refine WC.seq (WC.region ?_)
 refine WL.new hS 3 [] (fun g => (pt g)) (.cells #[(iv p1.Width), (iv p1.Height), (sv Ab p1.Cells cb)] 40 (0, 0)) [] (fun fb g => by kernel_rfl) trivial (fun g2 w3 hS4 => ?_)
 refine ⟨trivial, ?_⟩
 refine seg 2 [] [0, 3] [(0, (sv Aa p0 ca)), (3, (pt g2))] [] (fun fb => by kernel_rfl) rfl trivial ?_
 refine WL.done rfl (WX.next (WC.seq (WC.region ?_)))
 refine seg 2 [.v (iv p1.Width), .v (iv p1.Height), .v (sv Ab p1.Cells cb)] [0, 3, 5, 6] [(0, (sv Aa p0 ca)), (3, (pt g2)), (5, (sv Aa p0 ca)), (6, (.agg #[(iv p1.Width), (iv p1.Height), (sv Ab p1.Cells cb)]))] [.cell ⟨g2, 0, none⟩ (iv p1.Width), .cell ⟨g2, 1, none⟩ (iv p1.Height), .cell ⟨g2, 2, none⟩ (sv Ab p1.Cells cb)] (fun fb => by kernel_rfl) rfl ⟨hS4.cell 0 rfl 0 rfl, hS4.cell 0 rfl 1 rfl, hS4.cell 0 rfl 2 rfl, trivial⟩ ?_
 obtain ⟨t5, ht6, hf⟩ := bind_some hf
 refine WL.call (some 7) 31 #[(sv Aa p0 ca), (.agg #[(iv p1.Width), (iv p1.Height), (sv Ab p1.Cells cb)])] (fun fb => by kernel_rfl) (tile_of_calls _ p0 p1 Aa ca Ab cb t5 _ (hS4.rd 0) (hS4.rd 1) ht6) (fun v w7 hR8 => ?_)
 obtain ⟨rfl, hk_⟩ := hR8
 have hS9 := hS4.keepN hk_
 refine ⟨trivial, ?_⟩
 refine seg 4 [] [0, 3, 8] [(0, (sv Aa p0 ca)), (3, (pt g2)), (8, (bv t5))] [] (fun fb => by kernel_rfl) rfl trivial ?_
 obtain ⟨x10, hx11, hf⟩ := bind_some hf
 refine WL.cutW (T := Bool) 8 (fun t => [(12, (bv t))]) (fun t w1 => (St NoS w w1 [rowR enc_Tile Aa ca p0, rowR encInt Ab cb p1.Cells] [] ∧ x10 = t) ∧ CellsOK [] w1) (fun K => ?_) ?_
 ·
  rcases br_some hx11 with ⟨h12, hx11⟩ | ⟨h12, hx11⟩
  ·
   refine WL.setB 8 h12 rfl ?_
   refine seg 6 [.v (iv p1.Width), .v (iv p1.Height), .v (sv Ab p1.Cells cb)] [8, 9, 10] [(8, (bv true)), (9, (sv Aa p0 ca)), (10, (.agg #[(iv p1.Width), (iv p1.Height), (sv Ab p1.Cells cb)]))] [.cell ⟨g2, 0, none⟩ (iv p1.Width), .cell ⟨g2, 1, none⟩ (iv p1.Height), .cell ⟨g2, 2, none⟩ (sv Ab p1.Cells cb)] (fun fb => by kernel_rfl) rfl ⟨hS9.cell 0 rfl 0 rfl, hS9.cell 0 rfl 1 rfl, hS9.cell 0 rfl 2 rfl, trivial⟩ ?_
   obtain ⟨t13, ht14, hx11⟩ := bind_some hx11
   refine WL.call (some 11) 32 #[(sv Aa p0 ca), (.agg #[(iv p1.Width), (iv p1.Height), (sv Ab p1.Cells cb)]), (bv false)] (fun fb => by kernel_rfl) (tile_joins_calls _ p0 p1 false Aa ca Ab cb t13 _ (hS9.rd 0) (hS9.rd 1) ht14) (fun v w15 hR16 => ?_)
   obtain ⟨rfl, hk_⟩ := hR16
   have hS17 := hS9.keepN hk_
   refine ⟨trivial, ?_⟩
   refine seg 8 [] [12] [(12, (bv t13))] [] (fun fb => by kernel_rfl) rfl trivial ?_
   injection hx11 with hx11
   exact WL.to K t13 [12] rfl ⟨⟨(hS17.subR [0, 1]).sub [] (by decide), hx11.symm⟩, trivial⟩
  refine WL.setB 8 h12 rfl ?_
  refine seg 8 [] [12] [(12, (bv false))] [] (fun fb => by kernel_rfl) rfl trivial ?_
  injection hx11 with hx11
  exact WL.to K false [12] rfl ⟨⟨(hS9.subR [0, 1]).sub [] (by decide), hx11.symm⟩, trivial⟩
 rintro y18 w20 ⟨⟨hS21, hq19⟩, hF23⟩
 subst hq19
 refine seg 9 [] [4] [(4, (bv x10))] [] (fun fb => by kernel_rfl) rfl trivial ?_
 refine WL.done rfl (WX.next ?_)
 refine WC.ret ?_
 injection hf with hf
 subst hf
 exact WX.ret_ [] (bv x10) [] (fun fb => by kernel_rfl) trivial ⟨_, rfl, rfl, hS21.keep⟩
theorem law01_awake_calls (k : Nat)  (mG : Glo) (r : Bool) (w : World) (hR0 : RO NoS w (gloO Tryd.prog 2 5 0 1 mG)) (hf : law01_awake k = some r) :
  CallsR Tryd.prog 5 #[] w (fun v w' => v = (bv r) ∧ Keeps NoS w w') := by
 have hS : St NoS w w [gloO Tryd.prog 2 5 0 1 mG] [] := St.init (ro_cons hR0 (ro_nil _ _))
 refine enter 55 Tryd.func5 rfl Tryd.ntmps5 rfl ?_
 unfold law01_awake at hf
 refine WC.seq (WC.region ?_)
 refine seg 1 [] [] [] [] (fun fb => by kernel_rfl) rfl trivial ?_
 refine WL.done rfl (WX.next (WC.seq (WC.region ?_)))
 obtain ⟨t3, ht4, hf⟩ := bind_some hf
 refine WL.call (some 9) 6 #[(.string (⟨#[48, 46, 49, 46, 48, 46, 49]⟩ : ByteArray))] (fun fb => by kernel_rfl) (tile_Parse_calls _ (⟨#[48, 46, 49, 46, 48, 46, 49]⟩ : ByteArray) mG t3 _ (hS.rd 0) ht4) (fun v w6 hR7 => ?_)
 obtain ⟨A9, c10, rfl, hk_⟩ := hR7
 have hS8 := hS.go w6 [rowO 50 enc_Tile A9 c10 t3.1] (hS.call hk_ [] [] (fun g hg => hg.elim) (by simp) (by decide))
 refine ⟨trivial, ?_⟩
 refine seg 6 [] [1, 2] [(1, (sv A9 t3.1 c10)), (2, (iv t3.2))] [] (fun fb => by kernel_rfl) rfl trivial ?_
 refine WL.done rfl (WX.next (WC.seq (WC.region ?_)))
 obtain ⟨t11, ht12, hf⟩ := bind_some hf
 refine WL.call (some 13) 6 #[(.string (⟨#[48, 46, 49, 46, 49, 46, 48, 32, 49, 46, 48, 46, 48, 46, 49]⟩ : ByteArray))] (fun fb => by kernel_rfl) (tile_Parse_calls _ (⟨#[48, 46, 49, 46, 49, 46, 48, 32, 49, 46, 48, 46, 48, 46, 49]⟩ : ByteArray) mG t11 _ (hS8.rd 0) ht12) (fun v w13 hR14 => ?_)
 obtain ⟨A16, c17, rfl, hk_⟩ := hR14
 have hS15 := hS8.go w13 [rowO 50 enc_Tile A16 c17 t11.1, rowO 50 enc_Tile A9 c10 t3.1] (hS8.call hk_ [] [0] (fun g hg => hg.elim) (by simp) (by decide))
 refine ⟨trivial, ?_⟩
 refine seg 6 [] [1, 2, 3, 4] [(1, (sv A9 t3.1 c10)), (2, (iv t3.2)), (3, (sv A16 t11.1 c17)), (4, (iv t11.2))] [] (fun fb => by kernel_rfl) rfl trivial ?_
 refine WL.done rfl (WX.next (WC.seq (WC.region ?_)))
 refine WL.new hS15 16 [] (fun g => (.slice (some ⟨g, 0, none⟩) 4 4)) (.cells #[(iv 0), (iv 1), (iv 1), (iv 0)] 3 (0, 0)) [] (fun fb g => by kernel_rfl) trivial (fun g18 w19 hS20 => ?_)
 refine ⟨trivial, ?_⟩
 have hS21 := hS15.go w19 [rowO 3 encInt (some ⟨g18, 0, none⟩) 4 [0, 1, 1, 0], rowO 50 enc_Tile A16 c17 t11.1, rowO 50 enc_Tile A9 c10 t3.1] (hS20.map1 0 _ (fun h => rowO.ofBlk h rfl (Nat.le_of_ble_eq_true (by kernel_rfl))) (fun _ h => by obtain ⟨_, h1, h2⟩ := h; injection h1 with h1; subst h1; exact h2) [1, 2] (by decide) (by decide))
 refine seg 2 [] [1, 2, 3, 4, 17] [(1, (sv A9 t3.1 c10)), (2, (iv t3.2)), (3, (sv A16 t11.1 c17)), (4, (iv t11.2)), (17, (.agg #[(iv 2), (iv 2), (sv (some ⟨g18, 0, none⟩) [0, 1, 1, 0] 4)]))] [] (fun fb => by kernel_rfl) rfl trivial ?_
 refine WL.new hS21 5 [] (fun g => (pt g)) (.cells #[(iv 0), (iv 0), (.slice none 0 0)] 40 (0, 0)) [] (fun fb g => by kernel_rfl) trivial (fun g22 w23 hS24 => ?_)
 refine ⟨trivial, ?_⟩
 refine WL.store hS24 0 rfl [(0, (iv 2)), (1, (iv 2)), (2, (sv (some ⟨g18, 0, none⟩) [0, 1, 1, 0] 4))] #[(iv 2), (iv 2), (sv (some ⟨g18, 0, none⟩) [0, 1, 1, 0] 4)] (fun fb => by kernel_rfl) (by kernel_rfl) rfl [1, 2, 3] (by decide) (by decide) (fun w25 hS26 => ?_)
 refine ⟨trivial, ?_⟩
 refine WL.done rfl (WX.next (WC.seq (WC.region ?_)))
 refine seg 1 [] [1, 2, 3, 4, 5, 19] [(1, (sv A9 t3.1 c10)), (2, (iv t3.2)), (3, (sv A16 t11.1 c17)), (4, (iv t11.2)), (5, (pt g22)), (19, (sv A16 t11.1 c17))] [] (fun fb => by kernel_rfl) rfl trivial ?_
 obtain ⟨t27, ht28, hf⟩ := bind_some hf
 refine WL.call (some 20) 8 #[(sv A16 t11.1 c17)] (fun fb => by kernel_rfl) (tile_Text_calls _ t11.1 A16 c17 mG t27 _ (hS26.ow 2).ofO (hS26.rd 0) ht28) (fun v w29 hR30 => ?_)
 obtain ⟨rfl, hk_⟩ := hR30
 have hS31 := hS26.keepN hk_
 refine ⟨trivial, ?_⟩
 refine seg 7 [] [1, 2, 3, 4, 5, 6, 7] [(1, (sv A9 t3.1 c10)), (2, (iv t3.2)), (3, (sv A16 t11.1 c17)), (4, (iv t11.2)), (5, (pt g22)), (6, (.string t27.1)), (7, (iv t27.2))] [] (fun fb => by kernel_rfl) rfl trivial ?_
 refine WL.done rfl (WX.next (WC.seq (WC.region ?_)))
 refine seg 3 [] [1, 3, 4, 5, 6, 7, 25] [(1, (sv A9 t3.1 c10)), (3, (sv A16 t11.1 c17)), (4, (iv t11.2)), (5, (pt g22)), (6, (.string t27.1)), (7, (iv t27.2)), (25, (bv (t3.2 == 0)))] [] (fun fb => by kernel_rfl) rfl trivial ?_
 refine WL.cutV (T := Bool) 6 (fun t => [(28, (bv t)), (1, (sv A9 t3.1 c10)), (3, (sv A16 t11.1 c17)), (5, (pt g22)), (6, (.string t27.1)), (7, (iv t27.2))]) (fun t => ((t3.2 == 0) && (t11.2 == 0)) = t) (fun K => ?_) ?_
 ·
  rcases Bool.eq_false_or_eq_true (t3.2 == 0) with h32 | h32
  ·
   refine WL.setB 25 h32 rfl ?_
   refine seg 6 [] [1, 3, 5, 6, 7, 28] [(1, (sv A9 t3.1 c10)), (3, (sv A16 t11.1 c17)), (5, (pt g22)), (6, (.string t27.1)), (7, (iv t27.2)), (28, (bv (t11.2 == 0)))] [] (fun fb => by kernel_rfl) rfl trivial ?_
   exact WL.toV K (t11.2 == 0) [28, 1, 3, 5, 6, 7] rfl (by first | (rw [h32]; done) | (rw [h32]; rfl))
  refine WL.setB 25 h32 rfl ?_
  refine seg 6 [] [1, 3, 5, 6, 7, 28] [(1, (sv A9 t3.1 c10)), (3, (sv A16 t11.1 c17)), (5, (pt g22)), (6, (.string t27.1)), (7, (iv t27.2)), (28, (bv false))] [] (fun fb => by kernel_rfl) rfl trivial ?_
  exact WL.toV K false [28, 1, 3, 5, 6, 7] rfl (by first | (rw [h32]; done) | (rw [h32]; rfl))
 rintro b33 rfl
 refine seg 7 [] [1, 3, 5, 6, 7, 29] [(1, (sv A9 t3.1 c10)), (3, (sv A16 t11.1 c17)), (5, (pt g22)), (6, (.string t27.1)), (7, (iv t27.2)), (29, (bv ((t3.2 == 0) && (t11.2 == 0))))] [] (fun fb => by kernel_rfl) rfl trivial ?_
 refine WL.cutV (T := Bool) 10 (fun t => [(32, (bv t)), (1, (sv A9 t3.1 c10)), (3, (sv A16 t11.1 c17)), (5, (pt g22)), (6, (.string t27.1))]) (fun t => (((t3.2 == 0) && (t11.2 == 0)) && (t27.2 == 0)) = t) (fun K => ?_) ?_
 ·
  rcases Bool.eq_false_or_eq_true ((t3.2 == 0) && (t11.2 == 0)) with h34 | h34
  ·
   refine WL.setB 29 h34 rfl ?_
   refine seg 10 [] [1, 3, 5, 6, 32] [(1, (sv A9 t3.1 c10)), (3, (sv A16 t11.1 c17)), (5, (pt g22)), (6, (.string t27.1)), (32, (bv (t27.2 == 0)))] [] (fun fb => by kernel_rfl) rfl trivial ?_
   exact WL.toV K (t27.2 == 0) [32, 1, 3, 5, 6] rfl (by first | (rw [h34]; done) | (rw [h34]; rfl))
  refine WL.setB 29 h34 rfl ?_
  refine seg 10 [] [1, 3, 5, 6, 32] [(1, (sv A9 t3.1 c10)), (3, (sv A16 t11.1 c17)), (5, (pt g22)), (6, (.string t27.1)), (32, (bv false))] [] (fun fb => by kernel_rfl) rfl trivial ?_
  exact WL.toV K false [32, 1, 3, 5, 6] rfl (by first | (rw [h34]; done) | (rw [h34]; rfl))
 rintro b35 rfl
 refine seg 11 [] [1, 3, 5, 6, 33] [(1, (sv A9 t3.1 c10)), (3, (sv A16 t11.1 c17)), (5, (pt g22)), (6, (.string t27.1)), (33, (bv (((t3.2 == 0) && (t11.2 == 0)) && (t27.2 == 0))))] [] (fun fb => by kernel_rfl) rfl trivial ?_
 refine WL.cutV (T := Bool) 14 (fun t => [(36, (bv t)), (1, (sv A9 t3.1 c10)), (3, (sv A16 t11.1 c17)), (5, (pt g22))]) (fun t => ((((t3.2 == 0) && (t11.2 == 0)) && (t27.2 == 0)) && (strEq t27.1 (⟨#[48, 46, 49, 46, 49, 46, 48, 32, 49, 46, 48, 46, 48, 46, 49]⟩ : ByteArray))) = t) (fun K => ?_) ?_
 ·
  rcases Bool.eq_false_or_eq_true (((t3.2 == 0) && (t11.2 == 0)) && (t27.2 == 0)) with h36 | h36
  ·
   refine WL.setB 33 h36 rfl ?_
   refine seg 12 [] [1, 3, 5, 33, 34] [(1, (sv A9 t3.1 c10)), (3, (sv A16 t11.1 c17)), (5, (pt g22)), (33, (bv true)), (34, (.string t27.1))] [] (fun fb => by kernel_rfl) rfl trivial ?_
   refine seg 13 [] [1, 3, 5, 33, 35] [(1, (sv A9 t3.1 c10)), (3, (sv A16 t11.1 c17)), (5, (pt g22)), (33, (bv true)), (35, (bv (t27.1.toList == (⟨#[48, 46, 49, 46, 49, 46, 48, 32, 49, 46, 48, 46, 48, 46, 49]⟩ : ByteArray).toList)))] [] (fun fb => by kernel_rfl) rfl trivial ?_
   refine WL.setB 35 (strEq_raw t27.1 (⟨#[48, 46, 49, 46, 49, 46, 48, 32, 49, 46, 48, 46, 48, 46, 49]⟩ : ByteArray)) rfl ?_
   refine seg 14 [] [1, 3, 5, 36] [(1, (sv A9 t3.1 c10)), (3, (sv A16 t11.1 c17)), (5, (pt g22)), (36, (bv (strEq t27.1 (⟨#[48, 46, 49, 46, 49, 46, 48, 32, 49, 46, 48, 46, 48, 46, 49]⟩ : ByteArray))))] [] (fun fb => by kernel_rfl) rfl trivial ?_
   exact WL.toV K (strEq t27.1 (⟨#[48, 46, 49, 46, 49, 46, 48, 32, 49, 46, 48, 46, 48, 46, 49]⟩ : ByteArray)) [36, 1, 3, 5] rfl (by first | (rw [h36]; done) | (rw [h36]; rfl))
  refine WL.setB 33 h36 rfl ?_
  refine seg 14 [] [1, 3, 5, 36] [(1, (sv A9 t3.1 c10)), (3, (sv A16 t11.1 c17)), (5, (pt g22)), (36, (bv false))] [] (fun fb => by kernel_rfl) rfl trivial ?_
  exact WL.toV K false [36, 1, 3, 5] rfl (by first | (rw [h36]; done) | (rw [h36]; rfl))
 rintro b37 rfl
 refine seg 15 [] [1, 3, 5, 37] [(1, (sv A9 t3.1 c10)), (3, (sv A16 t11.1 c17)), (5, (pt g22)), (37, (bv ((((t3.2 == 0) && (t11.2 == 0)) && (t27.2 == 0)) && (strEq t27.1 (⟨#[48, 46, 49, 46, 49, 46, 48, 32, 49, 46, 48, 46, 48, 46, 49]⟩ : ByteArray)))))] [] (fun fb => by kernel_rfl) rfl trivial ?_
 obtain ⟨x38, hx39, hf⟩ := bind_some hf
 refine WL.cutW (T := Bool) 20 (fun t => [(3, (sv A16 t11.1 c17)), (5, (pt g22)), (42, (bv t))]) (fun t w1 => (St NoS w w1 [gloO Tryd.prog 2 5 0 1 mG] [rowO 50 enc_Tile A16 c17 t11.1, blk g22 (.cells #[(iv 2), (iv 2), (sv (some ⟨g18, 0, none⟩) [0, 1, 1, 0] 4)] 40 (0, 0)), rowO 3 encInt (some ⟨g18, 0, none⟩) 4 [0, 1, 1, 0]] ∧ x38 = t) ∧ CellsOK [] w1) (fun K => ?_) ?_
 ·
  rcases br_some hx39 with ⟨h40, hx39⟩ | ⟨h40, hx39⟩
  ·
   refine WL.setB 37 h40 rfl ?_
   refine seg 16 [] [3, 5, 37, 38] [(3, (sv A16 t11.1 c17)), (5, (pt g22)), (37, (bv true)), (38, (sv A9 t3.1 c10))] [] (fun fb => by kernel_rfl) rfl trivial ?_
   refine WL.new hS31 39 [] (fun g => (.slice (some ⟨g, 0, none⟩) 1 1)) (.cells #[(iv 0)] 3 (0, 0)) [] (fun fb g => by kernel_rfl) trivial (fun g41 w42 hS43 => ?_)
   refine ⟨trivial, ?_⟩
   have hS44 := hS21.go w42 [rowO 3 encInt (some ⟨g41, 0, none⟩) 1 [0], blk g22 (.cells #[(iv 2), (iv 2), (sv (some ⟨g18, 0, none⟩) [0, 1, 1, 0] 4)] 40 (0, 0)), rowO 3 encInt (some ⟨g18, 0, none⟩) 4 [0, 1, 1, 0], rowO 50 enc_Tile A16 c17 t11.1, rowO 50 enc_Tile A9 c10 t3.1] (hS43.map1 0 _ (fun h => rowO.ofBlk h rfl (Nat.le_of_ble_eq_true (by kernel_rfl))) (fun _ h => by obtain ⟨_, h1, h2⟩ := h; injection h1 with h1; subst h1; exact h2) [1, 2, 3, 4] (by decide) (by decide))
   refine seg 18 [] [3, 5, 37, 38, 40] [(3, (sv A16 t11.1 c17)), (5, (pt g22)), (37, (bv true)), (38, (sv A9 t3.1 c10)), (40, (.agg #[(iv 1), (iv 1), (sv (some ⟨g41, 0, none⟩) [0] 1)]))] [] (fun fb => by kernel_rfl) rfl trivial ?_
   obtain ⟨t45, ht46, hx39⟩ := bind_some hx39
   refine WL.call (some 41) 21 #[(sv A9 t3.1 c10), (.agg #[(iv 1), (iv 1), (sv (some ⟨g41, 0, none⟩) [0] 1)])] (fun fb => by kernel_rfl) (tile_Repeats_calls _ t3.1 (Pattern.mk 1 1 [0]) A9 c10 (some ⟨g41, 0, none⟩) 1 t45 _ (hS44.ow 4).ofO (hS44.ow 0).ofO ht46) (fun v w47 hR48 => ?_)
   obtain ⟨rfl, hk_⟩ := hR48
   have hS49 := hS44.keepN hk_
   refine ⟨trivial, ?_⟩
   refine seg 20 [] [3, 5, 42] [(3, (sv A16 t11.1 c17)), (5, (pt g22)), (42, (bv t45))] [] (fun fb => by kernel_rfl) rfl trivial ?_
   injection hx39 with hx39
   exact WL.to K t45 [3, 5, 42] rfl ⟨⟨(hS49.subR [0]).sub [3, 1, 2] (by decide), hx39.symm⟩, trivial⟩
  refine WL.setB 37 h40 rfl ?_
  refine seg 20 [] [3, 5, 42] [(3, (sv A16 t11.1 c17)), (5, (pt g22)), (42, (bv false))] [] (fun fb => by kernel_rfl) rfl trivial ?_
  injection hx39 with hx39
  exact WL.to K false [3, 5, 42] rfl ⟨⟨(hS31.subR [0]).sub [2, 0, 1] (by decide), hx39.symm⟩, trivial⟩
 rintro y50 w52 ⟨⟨hS53, hq51⟩, hF54⟩
 subst hq51
 refine seg 21 [] [3, 5, 43] [(3, (sv A16 t11.1 c17)), (5, (pt g22)), (43, (bv x38))] [] (fun fb => by kernel_rfl) rfl trivial ?_
 obtain ⟨x55, hx56, hf⟩ := bind_some hf
 refine WL.cutW (T := Bool) 25 (fun t => [(3, (sv A16 t11.1 c17)), (47, (bv t))]) (fun t w1 => (St NoS w w1 [gloO Tryd.prog 2 5 0 1 mG] [rowO 50 enc_Tile A16 c17 t11.1] ∧ x55 = t) ∧ CellsOK [] w1) (fun K => ?_) ?_
 ·
  rcases br_some hx56 with ⟨h57, hx56⟩ | ⟨h57, hx56⟩
  ·
   refine WL.setB 43 h57 rfl ?_
   refine seg 23 [.v (iv 2), .v (iv 2), .v (sv (some ⟨g18, 0, none⟩) [0, 1, 1, 0] 4)] [3, 43, 44, 45] [(3, (sv A16 t11.1 c17)), (43, (bv true)), (44, (sv A16 t11.1 c17)), (45, (.agg #[(iv 2), (iv 2), (sv (some ⟨g18, 0, none⟩) [0, 1, 1, 0] 4)]))] [.cell ⟨g22, 0, none⟩ (iv 2), .cell ⟨g22, 1, none⟩ (iv 2), .cell ⟨g22, 2, none⟩ (sv (some ⟨g18, 0, none⟩) [0, 1, 1, 0] 4)] (fun fb => by kernel_rfl) rfl ⟨hS53.cell 1 rfl 0 rfl, hS53.cell 1 rfl 1 rfl, hS53.cell 1 rfl 2 rfl, trivial⟩ ?_
   obtain ⟨t58, ht59, hx56⟩ := bind_some hx56
   refine WL.call (some 46) 21 #[(sv A16 t11.1 c17), (.agg #[(iv 2), (iv 2), (sv (some ⟨g18, 0, none⟩) [0, 1, 1, 0] 4)])] (fun fb => by kernel_rfl) (tile_Repeats_calls _ t11.1 (Pattern.mk 2 2 [0, 1, 1, 0]) A16 c17 (some ⟨g18, 0, none⟩) 4 t58 _ (hS53.ow 0).ofO (hS53.ow 2).ofO ht59) (fun v w60 hR61 => ?_)
   obtain ⟨rfl, hk_⟩ := hR61
   have hS62 := hS53.keepN hk_
   refine ⟨trivial, ?_⟩
   refine seg 25 [] [3, 47] [(3, (sv A16 t11.1 c17)), (47, (bv t58))] [] (fun fb => by kernel_rfl) rfl trivial ?_
   injection hx56 with hx56
   exact WL.to K t58 [3, 47] rfl ⟨⟨(hS62.subR [0]).sub [0] (by decide), hx56.symm⟩, trivial⟩
  refine WL.setB 43 h57 rfl ?_
  refine seg 25 [] [3, 47] [(3, (sv A16 t11.1 c17)), (47, (bv false))] [] (fun fb => by kernel_rfl) rfl trivial ?_
  injection hx56 with hx56
  exact WL.to K false [3, 47] rfl ⟨⟨(hS53.subR [0]).sub [0] (by decide), hx56.symm⟩, trivial⟩
 rintro y63 w66 ⟨⟨hS67, hq65⟩, hF68⟩
 subst hq65
 refine seg 26 [] [3, 48] [(3, (sv A16 t11.1 c17)), (48, (bv x55))] [] (fun fb => by kernel_rfl) rfl trivial ?_
 obtain ⟨x69, hx70, hf⟩ := bind_some hf
 refine WL.cutW (T := Bool) 32 (fun t => [(54, (bv t))]) (fun t w1 => (St NoS w w1 [gloO Tryd.prog 2 5 0 1 mG] [] ∧ x69 = t) ∧ CellsOK [] w1) (fun K => ?_) ?_
 ·
  rcases br_some hx70 with ⟨h71, hx70⟩ | ⟨h71, hx70⟩
  ·
   refine WL.setB 48 h71 rfl ?_
   refine seg 27 [] [48, 49] [(48, (bv true)), (49, (sv A16 t11.1 c17))] [] (fun fb => by kernel_rfl) rfl trivial ?_
   refine WL.new hS67 50 [] (fun g => (.slice (some ⟨g, 0, none⟩) 2 2)) (.cells #[(iv 0), (iv 0)] 3 (0, 0)) [] (fun fb g => by kernel_rfl) trivial (fun g72 w73 hS74 => ?_)
   refine ⟨trivial, ?_⟩
   have hS75 := hS21.go w73 [rowO 3 encInt (some ⟨g72, 0, none⟩) 2 [0, 0], rowO 50 enc_Tile A16 c17 t11.1] (hS74.map1 0 _ (fun h => rowO.ofBlk h rfl (Nat.le_of_ble_eq_true (by kernel_rfl))) (fun _ h => by obtain ⟨_, h1, h2⟩ := h; injection h1 with h1; subst h1; exact h2) [1] (by decide) (by decide))
   refine seg 29 [] [48, 49, 51] [(48, (bv true)), (49, (sv A16 t11.1 c17)), (51, (.agg #[(iv 2), (iv 1), (sv (some ⟨g72, 0, none⟩) [0, 0] 2)]))] [] (fun fb => by kernel_rfl) rfl trivial ?_
   obtain ⟨t76, ht77, hx70⟩ := bind_some hx70
   refine WL.call (some 52) 22 #[(sv A16 t11.1 c17), (.agg #[(iv 2), (iv 1), (sv (some ⟨g72, 0, none⟩) [0, 0] 2)])] (fun fb => by kernel_rfl) (tile_Fits_calls _ t11.1 (Pattern.mk 2 1 [0, 0]) A16 c17 (some ⟨g72, 0, none⟩) 2 t76 _ (hS75.ow 1).ofO (hS75.ow 0).ofO ht77) (fun v w78 hR79 => ?_)
   obtain ⟨rfl, hk_⟩ := hR79
   have hS80 := hS75.keepN hk_
   refine ⟨trivial, ?_⟩
   refine seg 32 [] [54] [(54, (bv (!t76)))] [] (fun fb => by kernel_rfl) rfl trivial ?_
   injection hx70 with hx70
   exact WL.to K (!t76) [54] rfl ⟨⟨(hS80.subR [0]).sub [] (by decide), hx70.symm⟩, trivial⟩
  refine WL.setB 48 h71 rfl ?_
  refine seg 32 [] [54] [(54, (bv false))] [] (fun fb => by kernel_rfl) rfl trivial ?_
  injection hx70 with hx70
  exact WL.to K false [54] rfl ⟨⟨(hS67.subR [0]).sub [] (by decide), hx70.symm⟩, trivial⟩
 rintro y81 w83 ⟨⟨hS84, hq82⟩, hF85⟩
 subst hq82
 refine seg 33 [] [0] [(0, (bv x69))] [] (fun fb => by kernel_rfl) rfl trivial ?_
 refine WL.done rfl (WX.next ?_)
 refine WC.ret ?_
 injection hf with hf
 subst hf
 exact WX.ret_ [] (bv x69) [] (fun fb => by kernel_rfl) trivial ⟨_, rfl, rfl, hS84.keep⟩
theorem ref01_colour_calls (p0 : Int)  (r : Bool) (w : World)  (hf : ref01_colour p0 = some r) :
  CallsR Tryd.prog 28 #[(iv p0)] w (fun v w' => v = (bv r) ∧ Keeps NoS w w') := by
 have hS : St NoS w w [] [] := St.init (ro_nil _ _)
 refine enter 9 Tryd.func28 rfl Tryd.ntmps28 rfl ?_
 unfold ref01_colour at hf
 refine WC.seq (WC.region ?_)
 refine seg 1 [] [0] [(0, (iv p0))] [] (fun fb => by kernel_rfl) rfl trivial ?_
 refine WL.done rfl (WX.next (WC.seq (WC.region ?_)))
 refine seg 3 [] [0, 5] [(0, (iv p0)), (5, (bv (decide (p0 ≥ 0))))] [] (fun fb => by kernel_rfl) rfl trivial ?_
 refine WL.cutV (T := Bool) 6 (fun t => [(8, (bv t))]) (fun t => ((decide (p0 ≥ 0)) && (decide (p0 < 1000))) = t) (fun K => ?_) ?_
 ·
  rcases Bool.eq_false_or_eq_true (decide (p0 ≥ 0)) with h2 | h2
  ·
   refine WL.setB 5 h2 rfl ?_
   refine seg 6 [] [8] [(8, (bv (decide (p0 < 1000))))] [] (fun fb => by kernel_rfl) rfl trivial ?_
   exact WL.toV K (decide (p0 < 1000)) [8] rfl (by first | (rw [h2]; done) | (rw [h2]; rfl))
  refine WL.setB 5 h2 rfl ?_
  refine seg 6 [] [8] [(8, (bv false))] [] (fun fb => by kernel_rfl) rfl trivial ?_
  exact WL.toV K false [8] rfl (by first | (rw [h2]; done) | (rw [h2]; rfl))
 rintro b3 rfl
 refine seg 7 [] [2] [(2, (bv ((decide (p0 ≥ 0)) && (decide (p0 < 1000)))))] [] (fun fb => by kernel_rfl) rfl trivial ?_
 refine WL.done rfl (WX.next ?_)
 refine WC.ret ?_
 injection hf with hf
 subst hf
 exact WX.ret_ [] (bv ((decide (p0 ≥ 0)) && (decide (p0 < 1000)))) [] (fun fb => by kernel_rfl) trivial ⟨_, rfl, rfl, hS.keep⟩
theorem ref01_Index_calls (k : Nat) (p0 : List Tile) (p1 : Tile) (Aa : Option Addr) (ca : Nat) (r : Int) (w : World) (hR0 : RO NoS w (rowR enc_Tile Aa ca p0)) (hf : ref01_Index k p0 p1 = some r) :
  CallsR Tryd.prog 29 #[(sv Aa p0 ca), (.agg #[(iv p1.N), (iv p1.E), (iv p1.S), (iv p1.W)])] w (fun v w' => v = (iv r) ∧ Keeps NoS w w') := by
 have hS : St NoS w w [rowR enc_Tile Aa ca p0] [] := St.init (ro_cons hR0 (ro_nil _ _))
 refine enter 19 Tryd.func29 rfl Tryd.ntmps29 rfl ?_
 unfold ref01_Index at hf
 refine WC.seq (WC.region ?_)
 refine WL.new hS 3 [] (fun g => (pt g)) (.cells #[(iv p1.N), (iv p1.E), (iv p1.S), (iv p1.W)] 50 (0, 0)) [] (fun fb g => by kernel_rfl) trivial (fun g3 w4 hS5 => ?_)
 refine ⟨trivial, ?_⟩
 refine seg 2 [] [0, 3] [(0, (sv Aa p0 ca)), (3, (pt g3))] [] (fun fb => by kernel_rfl) rfl trivial ?_
 refine WL.done rfl (WX.next (WC.seq (WC.seq (WC.region ?_))))
 refine seg 1 [] [0, 3, 5] [(0, (sv Aa p0 ca)), (3, (pt g3)), (5, (iv 0))] [] (fun fb => by kernel_rfl) rfl trivial ?_
 refine WL.done rfl (WX.next ?_)
 obtain ⟨x7, hx8, hf⟩ := bind_some hf
 refine WC.cutN (T := Unit) (fun t => []) (fun t w1 => St NoS w w1 [rowR enc_Tile Aa ca p0] [] ∧ x7 = .inr t) (fun Kx7 => ?_) ?_
 ·
  refine WC.block ?_
  refine WC.loop (T := Int) (fun t => [(0, (sv Aa p0 ca)), (3, (pt g3)), (5, (iv t))]) (fun n t w1 => St NoS w w1 [rowR enc_Tile Aa ca p0] [blk g3 (.cells #[(iv p1.N), (iv p1.E), (iv p1.S), (iv p1.W)] 50 (0, 0))] ∧ ref01_Index.l0 n t p0 p1 = some x7) k 0 [0, 3, 5] rfl ⟨(hS5.subR [0]).sub [0] (by decide), hx8⟩ ?_
  rintro k9 x6 w10 ⟨hS11, hl12⟩
  cases k9 with
  | zero => rw [ref01_Index.l0] at hl12; cases hl12
  | succ k9 =>
   rw [ref01_Index.l0] at hl12
   refine WC.seq (WC.seq (WC.region ?_))
   refine seg 4 [] [0, 3, 5, 9] [(0, (sv Aa p0 ca)), (3, (pt g3)), (5, (iv x6)), (9, (bv (decide (x6 < (p0.length : Int)))))] [] (fun fb => by kernel_rfl) rfl trivial ?_
   refine WL.done rfl (WX.next ?_)
   rcases br_some hl12 with ⟨h13, hl12⟩ | ⟨h13, hl12⟩
   ·refine WC.condT2 (fun fb => by kernel_rfl) h13 ?_
    refine WC.skip (WX.next (WC.seq (WC.block (WC.seq ?_))))
    obtain ⟨h16, hl12⟩ := as_some hl12
    refine WC.regionD ([(3, ((adr Aa).add ((x6).toNat * 4)), (iv ((rdD p0 x6 z_Tile).N))), (3, (((adr Aa).add ((x6).toNat * 4)).add 1), (iv ((rdD p0 x6 z_Tile).E))), (3, (((adr Aa).add ((x6).toNat * 4)).add 2), (iv ((rdD p0 x6 z_Tile).S))), (3, (((adr Aa).add ((x6).toNat * 4)).add 3), (iv ((rdD p0 x6 z_Tile).W))), (4, ⟨g3, 0, none⟩, (iv p1.N)), (4, ⟨g3, 1, none⟩, (iv p1.E)), (4, ⟨g3, 2, none⟩, (iv p1.S)), (4, ⟨g3, 3, none⟩, (iv p1.W))], [0, 1, 2, 3, 4, 5], [[], [], [0, 1], [0, 1, 2], [], [0, 1, 2, 3, 4]]) [[0, 1, 2, 3, 4, 5]] (by kernel_rfl) (by kernel_rfl) (NoPanic.seq (NoPanic.block (NoPanic.seq (NoPanic.seq (NoPanic.block (NoPanic.seq (NoPanic.body))))))) ?_
    have hS15 := hS11.drew
    revert hS15
    generalize World.drew w10 = w14
    intro hS15
    refine ⟨⟨rowR.cell (hS15.rd 0).1 z_Tile h16.1 h16.2 0 rfl, rowR.cell (hS15.rd 0).1 z_Tile h16.1 h16.2 1 rfl, rowR.cell (hS15.rd 0).1 z_Tile h16.1 h16.2 2 rfl, rowR.cell (hS15.rd 0).1 z_Tile h16.1 h16.2 3 rfl, hS15.cell 0 rfl 0 rfl, hS15.cell 0 rfl 1 rfl, hS15.cell 0 rfl 2 rfl, hS15.cell 0 rfl 3 rfl, trivial⟩, forallC ?_ (forallN)⟩
    refine segF 6 [.v (iv ((rdD p0 x6 z_Tile).N)), .v (iv ((rdD p0 x6 z_Tile).E)), .v (iv ((rdD p0 x6 z_Tile).S)), .v (iv ((rdD p0 x6 z_Tile).W)), .v (iv p1.N), .v (iv p1.E), .v (iv p1.S), .v (iv p1.W)] [0, 3, 5, 17] [(0, (sv Aa p0 ca)), (3, (pt g3)), (5, (iv x6)), (17, (bv (((rdD p0 x6 z_Tile).N) == p1.N && (((rdD p0 x6 z_Tile).E) == p1.E && (((rdD p0 x6 z_Tile).S) == p1.S && (((rdD p0 x6 z_Tile).W) == p1.W))))))] [.idx Aa x6 p0.length] [0, 1, 2, 3, 4, 5, 6, 7] [(3, ((adr Aa).add ((x6).toNat * 4)), (iv ((rdD p0 x6 z_Tile).N))), (3, (((adr Aa).add ((x6).toNat * 4)).add 1), (iv ((rdD p0 x6 z_Tile).E))), (3, (((adr Aa).add ((x6).toNat * 4)).add 2), (iv ((rdD p0 x6 z_Tile).S))), (3, (((adr Aa).add ((x6).toNat * 4)).add 3), (iv ((rdD p0 x6 z_Tile).W))), (4, ⟨g3, 0, none⟩, (iv p1.N)), (4, ⟨g3, 1, none⟩, (iv p1.E)), (4, ⟨g3, 2, none⟩, (iv p1.S)), (4, ⟨g3, 3, none⟩, (iv p1.W))] (fun fb => by kernel_rfl) rfl ⟨rowR.adr (hS15.rd 0).1 h16.1 h16.2, trivial⟩ rfl ?_
    refine WL.done rfl (WX.next ?_)
    rcases br_some hl12 with ⟨h17, hl12⟩ | ⟨h17, hl12⟩
    ·refine WC.condT2 (fun fb => by kernel_rfl) h17 ?_
     refine WC.seq (WC.region ?_)
     refine seg 2 [] [4] [(4, (iv x6))] [] (fun fb => by kernel_rfl) rfl trivial ?_
     refine WL.done rfl (WX.next ?_)
     refine WC.ret ?_
     injection hl12 with hl12
     subst hl12
     injection hf with hf
     subst hf
     exact WX.blockR (WX.thenR (WX.thenR (WX.blockR (WX.thenR (WX.ret_ [] (iv x6) [] (fun fb => by kernel_rfl) trivial ⟨_, rfl, rfl, hS15.keep⟩)))))
    refine WC.condF2 (fun fb => by kernel_rfl) h17 ?_
    refine WC.skip ?_
    refine WX.blockN (WX.next ?_)
    refine WC.region ?_
    refine seg 3 [] [0, 3, 5] [(0, (sv Aa p0 ca)), (3, (pt g3)), (5, (iv (w64 (x6 + 1))))] [] (fun fb => by kernel_rfl) rfl trivial ?_
    refine WL.done rfl ?_
    exact WX.again k9 (Nat.lt_succ_self _) (w64 (x6 + 1)) [0, 3, 5] rfl ⟨(hS15.subR [0]).sub [0] (by decide), hl12⟩
   refine WC.condF2 (fun fb => by kernel_rfl) h13 ?_
   refine WC.exit ?_
   injection hl12 with hl12
   exact WX.thenX (WX.thenX (WX.blockHere (WX.to Kx7 () [] rfl ⟨(hS11.subR [0]).sub [] (by decide), hl12.symm⟩)))
 rintro y21 w18 ⟨hS19, hq20⟩
 subst hq20
 have hf := sum_inr hf
 refine WX.next (WC.seq (WC.region ?_))
 refine seg 1 [] [4] [(4, (iv (-1)))] [] (fun fb => by kernel_rfl) rfl trivial ?_
 refine WL.done rfl (WX.next ?_)
 refine WC.ret ?_
 injection hf with hf
 subst hf
 exact WX.ret_ [] (iv (-1)) [] (fun fb => by kernel_rfl) trivial ⟨_, rfl, rfl, hS19.keep⟩
theorem ref01_Valid_calls (k : Nat) (p0 : List Tile) (Aa : Option Addr) (ca : Nat) (r : Bool) (w : World) (hR0 : RO NoS w (rowR enc_Tile Aa ca p0)) (hf : ref01_Valid k p0 = some r) :
  CallsR Tryd.prog 15 #[(sv Aa p0 ca)] w (fun v w' => v = (bv r) ∧ Keeps NoS w w') := by
 have hS : St NoS w w [rowR enc_Tile Aa ca p0] [] := St.init (ro_cons hR0 (ro_nil _ _))
 refine enter 48 Tryd.func15 rfl Tryd.ntmps15 rfl ?_
 unfold ref01_Valid at hf
 refine WC.seq (WC.region ?_)
 refine seg 1 [] [0] [(0, (sv Aa p0 ca))] [] (fun fb => by kernel_rfl) rfl trivial ?_
 refine WL.done rfl (WX.next (WC.seq (WC.seq (WC.region ?_))))
 refine seg 3 [] [0, 7] [(0, (sv Aa p0 ca)), (7, (bv (decide ((p0.length : Int) > 1000))))] [] (fun fb => by kernel_rfl) rfl trivial ?_
 refine WL.done rfl (WX.next ?_)
 rcases br_some hf with ⟨h3, hf⟩ | ⟨h3, hf⟩
 ·refine WC.condT2 (fun fb => by kernel_rfl) h3 ?_
  refine WC.seq (WC.region ?_)
  refine seg 1 [] [2] [(2, (bv false))] [] (fun fb => by kernel_rfl) rfl trivial ?_
  refine WL.done rfl (WX.next ?_)
  refine WC.ret ?_
  injection hf with hf
  subst hf
  exact WX.thenR (WX.ret_ [] (bv false) [] (fun fb => by kernel_rfl) trivial ⟨_, rfl, rfl, hS.keep⟩)
 refine WC.condF2 (fun fb => by kernel_rfl) h3 ?_
 refine WC.skip (WX.next (WC.seq (WC.seq (WC.region ?_))))
 refine seg 1 [] [0, 3] [(0, (sv Aa p0 ca)), (3, (iv 0))] [] (fun fb => by kernel_rfl) rfl trivial ?_
 refine WL.done rfl (WX.next ?_)
 obtain ⟨x5, hx6, hf⟩ := bind_some hf
 refine WC.cutN (T := Unit) (fun t => []) (fun t w1 => St NoS w w1 [rowR enc_Tile Aa ca p0] [] ∧ x5 = .inr t) (fun Kx5 => ?_) ?_
 ·
  refine WC.block ?_
  refine WC.loop (T := Int) (fun t => [(0, (sv Aa p0 ca)), (3, (iv t))]) (fun n t w1 => St NoS w w1 [rowR enc_Tile Aa ca p0] [] ∧ ref01_Valid.l0 n t p0 = some x5) k 0 [0, 3] rfl ⟨(hS.subR [0]).sub [] (by decide), hx6⟩ ?_
  rintro k7 x4 w8 ⟨hS9, hl10⟩
  cases k7 with
  | zero => rw [ref01_Valid.l0] at hl10; cases hl10
  | succ k7 =>
   rw [ref01_Valid.l0] at hl10
   refine WC.seq (WC.seq (WC.region ?_))
   refine seg 4 [] [0, 3, 11] [(0, (sv Aa p0 ca)), (3, (iv x4)), (11, (bv (decide (x4 < (p0.length : Int)))))] [] (fun fb => by kernel_rfl) rfl trivial ?_
   refine WL.done rfl (WX.next ?_)
   rcases br_some hl10 with ⟨h11, hl10⟩ | ⟨h11, hl10⟩
   ·refine WC.condT2 (fun fb => by kernel_rfl) h11 ?_
    refine WC.skip (WX.next (WC.seq (WC.block (WC.seq (WC.region ?_)))))
    refine seg 2 [] [0, 3, 14, 15] [(0, (sv Aa p0 ca)), (3, (iv x4)), (14, (sv Aa p0 ca)), (15, (iv x4))] [] (fun fb => by kernel_rfl) rfl trivial ?_
    obtain ⟨h12, hl10⟩ := as_some hl10
    refine seg 4 [.v (iv ((rdD p0 x4 z_Tile).N)), .v (iv ((rdD p0 x4 z_Tile).E)), .v (iv ((rdD p0 x4 z_Tile).S)), .v (iv ((rdD p0 x4 z_Tile).W))] [0, 3, 17] [(0, (sv Aa p0 ca)), (3, (iv x4)), (17, (.agg #[(iv ((rdD p0 x4 z_Tile).N)), (iv ((rdD p0 x4 z_Tile).E)), (iv ((rdD p0 x4 z_Tile).S)), (iv ((rdD p0 x4 z_Tile).W))]))] [.idx Aa x4 p0.length, .cell ((adr Aa).add ((x4).toNat * 4)) (iv ((rdD p0 x4 z_Tile).N)), .cell (((adr Aa).add ((x4).toNat * 4)).add 1) (iv ((rdD p0 x4 z_Tile).E)), .cell (((adr Aa).add ((x4).toNat * 4)).add 2) (iv ((rdD p0 x4 z_Tile).S)), .cell (((adr Aa).add ((x4).toNat * 4)).add 3) (iv ((rdD p0 x4 z_Tile).W))] (fun fb => by kernel_rfl) rfl ⟨rowR.adr (hS9.rd 0).1 h12.1 h12.2, rowR.cell (hS9.rd 0).1 z_Tile h12.1 h12.2 0 rfl, rowR.cell (hS9.rd 0).1 z_Tile h12.1 h12.2 1 rfl, rowR.cell (hS9.rd 0).1 z_Tile h12.1 h12.2 2 rfl, rowR.cell (hS9.rd 0).1 z_Tile h12.1 h12.2 3 rfl, trivial⟩ ?_
    refine WL.new hS9 4 [] (fun g => (pt g)) (.cells #[(iv 0), (iv 0), (iv 0), (iv 0)] 50 (0, 0)) [] (fun fb g => by kernel_rfl) trivial (fun g13 w14 hS16 => ?_)
    refine ⟨trivial, ?_⟩
    refine WL.store hS16 0 rfl [(0, (iv ((rdD p0 x4 z_Tile).N))), (1, (iv ((rdD p0 x4 z_Tile).E))), (2, (iv ((rdD p0 x4 z_Tile).S))), (3, (iv ((rdD p0 x4 z_Tile).W)))] #[(iv ((rdD p0 x4 z_Tile).N)), (iv ((rdD p0 x4 z_Tile).E)), (iv ((rdD p0 x4 z_Tile).S)), (iv ((rdD p0 x4 z_Tile).W))] (fun fb => by kernel_rfl) (by kernel_rfl) rfl [] (by decide) (by decide) (fun w17 hS18 => ?_)
    refine ⟨trivial, ?_⟩
    refine WL.done rfl (WX.next (WC.seq ?_))
    refine WC.regionD ([(1, ⟨g13, 0, none⟩, (iv ((rdD p0 x4 z_Tile).N))), (6, ⟨g13, 1, none⟩, (iv ((rdD p0 x4 z_Tile).E))), (12, ⟨g13, 2, none⟩, (iv ((rdD p0 x4 z_Tile).S))), (18, ⟨g13, 3, none⟩, (iv ((rdD p0 x4 z_Tile).W))), (26, ⟨g13, 0, none⟩, (iv ((rdD p0 x4 z_Tile).N))), (26, ⟨g13, 1, none⟩, (iv ((rdD p0 x4 z_Tile).E))), (26, ⟨g13, 2, none⟩, (iv ((rdD p0 x4 z_Tile).S))), (26, ⟨g13, 3, none⟩, (iv ((rdD p0 x4 z_Tile).W)))], [0, 1, 3, 4, 5, 6, 8, 9, 10, 11, 12, 14, 15, 16, 17, 18, 20, 21, 22, 23, 24, 25, 26, 28, 29], [[], [0], [0, 1], [0, 1, 2], [0, 1, 2, 3], [0, 1, 2, 3, 4], [0, 1, 2, 3, 4, 5], [0, 1, 2, 3, 4, 5, 6], [0, 1, 2, 3, 4, 5, 6, 7], [0, 1, 2, 3, 4, 5, 6, 7, 8], [0, 1, 2, 3, 4, 5, 6, 7, 8, 9], [0, 1, 2, 3, 4, 5, 6, 7, 8, 9, 10], [0, 1, 2, 3, 4, 5, 6, 7, 8, 9, 10, 11], [0, 1, 2, 3, 4, 5, 6, 7, 8, 9, 10, 11, 12], [0, 1, 2, 3, 4, 5, 6, 7, 8, 9, 10, 11, 12, 13], [0, 1, 2, 3, 4, 5, 6, 7, 8, 9, 10, 11, 12, 13, 14], [0, 1, 2, 3, 4, 5, 6, 7, 8, 9, 10, 11, 12, 13, 14, 15], [0, 1, 2, 3, 4, 5, 6, 7, 8, 9, 10, 11, 12, 13, 14, 15, 16], [0, 1, 2, 3, 4, 5, 6, 7, 8, 9, 10, 11, 12, 13, 14, 15, 16, 17], [0, 1, 2, 3, 4, 5, 6, 7, 8, 9, 10, 11, 12, 13, 14, 15, 16, 17, 18], [0, 1, 2, 3, 4, 5, 6, 7, 8, 9, 10, 11, 12, 13, 14, 15, 16, 17, 18, 19], [0, 1, 2, 3, 4, 5, 6, 7, 8, 9, 10, 11, 12, 13, 14, 15, 16, 17, 18, 19, 20], [0, 1, 2, 3, 4, 5, 6, 7, 8, 9, 10, 11, 12, 13, 14, 15, 16, 17, 18, 19, 20, 21], [0, 1, 2, 3, 4, 5, 6, 7, 8, 9, 10, 11, 12, 13, 14, 15, 16, 17, 18, 19, 20, 21, 22], [0, 1, 2, 3, 4, 5, 6, 7, 8, 9, 10, 11, 12, 13, 14, 15, 16, 17, 18, 19, 20, 21, 22], [0, 1, 2, 3, 4, 5, 6, 7, 8, 9, 10, 11, 12, 13, 14, 15, 16, 17, 18, 19, 20, 21, 22, 23, 24], [0, 1, 2, 3, 4, 5, 6, 7, 8, 9, 10, 11, 12, 13, 14, 15, 16, 17, 18, 19, 20, 21, 22], [0, 1, 2, 3, 4, 5, 6, 7, 8, 9, 10, 11, 12, 13, 14, 15, 16, 17, 18, 19, 20, 21, 22, 23, 24, 25, 26], [0, 1, 2, 3, 4, 5, 6, 7, 8, 9, 10, 11, 12, 13, 14, 15, 16, 17, 18, 19, 20, 21, 22, 23, 24, 25, 26, 27], [0, 1, 2, 3, 4, 5, 6, 7, 8, 9, 10, 11, 12, 13, 14, 15, 16, 17, 18, 19, 20, 21, 22, 23, 24, 25, 26, 27, 28]]) [[0, 1, 2, 3, 4, 5, 6, 7, 8, 9, 10, 11, 12, 13, 14, 15, 16, 17, 18, 19, 20, 21, 22, 23, 24, 25, 26, 27, 28, 29]] (by kernel_rfl) (by kernel_rfl) (NoPanic.seq (NoPanic.block (NoPanic.seq (NoPanic.seq (NoPanic.block (NoPanic.seq (NoPanic.body))))))) ?_
    have hS20 := hS18.drew
    revert hS20
    generalize World.drew w17 = w19
    intro hS20
    refine ⟨⟨hS20.cell 0 rfl 0 rfl, hS20.cell 0 rfl 1 rfl, hS20.cell 0 rfl 2 rfl, hS20.cell 0 rfl 3 rfl, hS20.cell 0 rfl 0 rfl, hS20.cell 0 rfl 1 rfl, hS20.cell 0 rfl 2 rfl, hS20.cell 0 rfl 3 rfl, trivial⟩, forallC ?_ (forallN)⟩
    refine segF 2 [.v (iv ((rdD p0 x4 z_Tile).N))] [0, 3, 4, 19] [(0, (sv Aa p0 ca)), (3, (iv x4)), (4, (pt g13)), (19, (iv ((rdD p0 x4 z_Tile).N)))] [] [0] [(1, ⟨g13, 0, none⟩, (iv ((rdD p0 x4 z_Tile).N)))] (fun fb => by kernel_rfl) rfl trivial rfl ?_
    obtain ⟨t21, ht22, hl10⟩ := bind_some hl10
    refine WL.call (some 20) 28 #[(iv ((rdD p0 x4 z_Tile).N))] (fun fb => by kernel_rfl) (ref01_colour_calls ((rdD p0 x4 z_Tile).N) t21 _ ht22) (fun v w23 hR24 => ?_)
    obtain ⟨rfl, hk_⟩ := hR24
    have hS25 := hS20.keepN hk_
    refine ⟨⟨hS25.cell 0 rfl 1 rfl, hS25.cell 0 rfl 2 rfl, hS25.cell 0 rfl 3 rfl, hS25.cell 0 rfl 0 rfl, hS25.cell 0 rfl 1 rfl, hS25.cell 0 rfl 2 rfl, hS25.cell 0 rfl 3 rfl, trivial⟩, ?_⟩
    refine seg 5 [] [0, 3, 4, 22] [(0, (sv Aa p0 ca)), (3, (iv x4)), (4, (pt g13)), (22, (bv (!t21)))] [] (fun fb => by kernel_rfl) rfl trivial ?_
    obtain ⟨x26, hx27, hl10⟩ := bind_some hl10
    refine WL.cutW (T := Bool) 10 (fun t => [(0, (sv Aa p0 ca)), (3, (iv x4)), (4, (pt g13)), (27, (bv t))]) (fun t w1 => (St NoS w w1 [rowR enc_Tile Aa ca p0] [blk g13 (.cells #[(iv ((rdD p0 x4 z_Tile).N)), (iv ((rdD p0 x4 z_Tile).E)), (iv ((rdD p0 x4 z_Tile).S)), (iv ((rdD p0 x4 z_Tile).W))] 50 (0, 0))] ∧ x26 = t) ∧ CellsOK [] w1) (fun K => ?_) ?_
    ·
     rcases br_some hx27 with ⟨h28, hx27⟩ | ⟨h28, hx27⟩
     ·
      refine WL.setB 22 h28 rfl ?_
      refine seg 10 [] [0, 3, 4, 27] [(0, (sv Aa p0 ca)), (3, (iv x4)), (4, (pt g13)), (27, (bv true))] [] (fun fb => by kernel_rfl) rfl trivial ?_
      injection hx27 with hx27
      exact WL.to K true [0, 3, 4, 27] rfl ⟨⟨(hS25.subR [0]).sub [0] (by decide), hx27.symm⟩, trivial⟩
     refine WL.setB 22 h28 rfl ?_
     refine segF 7 [.v (iv ((rdD p0 x4 z_Tile).E))] [0, 3, 4, 22, 24] [(0, (sv Aa p0 ca)), (3, (iv x4)), (4, (pt g13)), (22, (bv false)), (24, (iv ((rdD p0 x4 z_Tile).E)))] [] [1] [(6, ⟨g13, 1, none⟩, (iv ((rdD p0 x4 z_Tile).E)))] (fun fb => by kernel_rfl) rfl trivial rfl ?_
     obtain ⟨t29, ht30, hx27⟩ := bind_some hx27
     refine WL.call (some 25) 28 #[(iv ((rdD p0 x4 z_Tile).E))] (fun fb => by kernel_rfl) (ref01_colour_calls ((rdD p0 x4 z_Tile).E) t29 _ ht30) (fun v w31 hR32 => ?_)
     obtain ⟨rfl, hk_⟩ := hR32
     have hS33 := hS25.keepN hk_
     refine ⟨⟨hS33.cell 0 rfl 2 rfl, hS33.cell 0 rfl 3 rfl, hS33.cell 0 rfl 0 rfl, hS33.cell 0 rfl 1 rfl, hS33.cell 0 rfl 2 rfl, hS33.cell 0 rfl 3 rfl, trivial⟩, ?_⟩
     refine seg 10 [] [0, 3, 4, 27] [(0, (sv Aa p0 ca)), (3, (iv x4)), (4, (pt g13)), (27, (bv (!t29)))] [] (fun fb => by kernel_rfl) rfl trivial ?_
     injection hx27 with hx27
     exact WL.to K (!t29) [0, 3, 4, 27] rfl ⟨⟨(hS33.subR [0]).sub [0] (by decide), hx27.symm⟩, trivial⟩
    rintro y34 w36 ⟨⟨hS37, hq35⟩, hF38⟩
    subst hq35
    refine seg 11 [] [0, 3, 4, 28] [(0, (sv Aa p0 ca)), (3, (iv x4)), (4, (pt g13)), (28, (bv x26))] [] (fun fb => by kernel_rfl) rfl trivial ?_
    obtain ⟨x39, hx40, hl10⟩ := bind_some hl10
    refine WL.cutW (T := Bool) 16 (fun t => [(0, (sv Aa p0 ca)), (3, (iv x4)), (4, (pt g13)), (33, (bv t))]) (fun t w1 => (St NoS w w1 [rowR enc_Tile Aa ca p0] [blk g13 (.cells #[(iv ((rdD p0 x4 z_Tile).N)), (iv ((rdD p0 x4 z_Tile).E)), (iv ((rdD p0 x4 z_Tile).S)), (iv ((rdD p0 x4 z_Tile).W))] 50 (0, 0))] ∧ x39 = t) ∧ CellsOK [] w1) (fun K => ?_) ?_
    ·
     rcases br_some hx40 with ⟨h41, hx40⟩ | ⟨h41, hx40⟩
     ·
      refine WL.setB 28 h41 rfl ?_
      refine seg 16 [] [0, 3, 4, 33] [(0, (sv Aa p0 ca)), (3, (iv x4)), (4, (pt g13)), (33, (bv true))] [] (fun fb => by kernel_rfl) rfl trivial ?_
      injection hx40 with hx40
      exact WL.to K true [0, 3, 4, 33] rfl ⟨⟨(hS37.subR [0]).sub [0] (by decide), hx40.symm⟩, trivial⟩
     refine WL.setB 28 h41 rfl ?_
     refine segF 13 [.v (iv ((rdD p0 x4 z_Tile).S))] [0, 3, 4, 28, 30] [(0, (sv Aa p0 ca)), (3, (iv x4)), (4, (pt g13)), (28, (bv false)), (30, (iv ((rdD p0 x4 z_Tile).S)))] [] [2] [(12, ⟨g13, 2, none⟩, (iv ((rdD p0 x4 z_Tile).S)))] (fun fb => by kernel_rfl) rfl trivial rfl ?_
     obtain ⟨t42, ht43, hx40⟩ := bind_some hx40
     refine WL.call (some 31) 28 #[(iv ((rdD p0 x4 z_Tile).S))] (fun fb => by kernel_rfl) (ref01_colour_calls ((rdD p0 x4 z_Tile).S) t42 _ ht43) (fun v w44 hR45 => ?_)
     obtain ⟨rfl, hk_⟩ := hR45
     have hS46 := hS37.keepN hk_
     refine ⟨⟨hS46.cell 0 rfl 3 rfl, hS46.cell 0 rfl 0 rfl, hS46.cell 0 rfl 1 rfl, hS46.cell 0 rfl 2 rfl, hS46.cell 0 rfl 3 rfl, trivial⟩, ?_⟩
     refine seg 16 [] [0, 3, 4, 33] [(0, (sv Aa p0 ca)), (3, (iv x4)), (4, (pt g13)), (33, (bv (!t42)))] [] (fun fb => by kernel_rfl) rfl trivial ?_
     injection hx40 with hx40
     exact WL.to K (!t42) [0, 3, 4, 33] rfl ⟨⟨(hS46.subR [0]).sub [0] (by decide), hx40.symm⟩, trivial⟩
    rintro y47 w49 ⟨⟨hS50, hq48⟩, hF51⟩
    subst hq48
    refine seg 17 [] [0, 3, 4, 34] [(0, (sv Aa p0 ca)), (3, (iv x4)), (4, (pt g13)), (34, (bv x39))] [] (fun fb => by kernel_rfl) rfl trivial ?_
    obtain ⟨x52, hx53, hl10⟩ := bind_some hl10
    refine WL.cutW (T := Bool) 22 (fun t => [(0, (sv Aa p0 ca)), (3, (iv x4)), (4, (pt g13)), (39, (bv t))]) (fun t w1 => (St NoS w w1 [rowR enc_Tile Aa ca p0] [blk g13 (.cells #[(iv ((rdD p0 x4 z_Tile).N)), (iv ((rdD p0 x4 z_Tile).E)), (iv ((rdD p0 x4 z_Tile).S)), (iv ((rdD p0 x4 z_Tile).W))] 50 (0, 0))] ∧ x52 = t) ∧ CellsOK [] w1) (fun K => ?_) ?_
    ·
     rcases br_some hx53 with ⟨h54, hx53⟩ | ⟨h54, hx53⟩
     ·
      refine WL.setB 34 h54 rfl ?_
      refine seg 22 [] [0, 3, 4, 39] [(0, (sv Aa p0 ca)), (3, (iv x4)), (4, (pt g13)), (39, (bv true))] [] (fun fb => by kernel_rfl) rfl trivial ?_
      injection hx53 with hx53
      exact WL.to K true [0, 3, 4, 39] rfl ⟨⟨(hS50.subR [0]).sub [0] (by decide), hx53.symm⟩, trivial⟩
     refine WL.setB 34 h54 rfl ?_
     refine segF 19 [.v (iv ((rdD p0 x4 z_Tile).W))] [0, 3, 4, 34, 36] [(0, (sv Aa p0 ca)), (3, (iv x4)), (4, (pt g13)), (34, (bv false)), (36, (iv ((rdD p0 x4 z_Tile).W)))] [] [3] [(18, ⟨g13, 3, none⟩, (iv ((rdD p0 x4 z_Tile).W)))] (fun fb => by kernel_rfl) rfl trivial rfl ?_
     obtain ⟨t55, ht56, hx53⟩ := bind_some hx53
     refine WL.call (some 37) 28 #[(iv ((rdD p0 x4 z_Tile).W))] (fun fb => by kernel_rfl) (ref01_colour_calls ((rdD p0 x4 z_Tile).W) t55 _ ht56) (fun v w57 hR58 => ?_)
     obtain ⟨rfl, hk_⟩ := hR58
     have hS59 := hS50.keepN hk_
     refine ⟨⟨hS59.cell 0 rfl 0 rfl, hS59.cell 0 rfl 1 rfl, hS59.cell 0 rfl 2 rfl, hS59.cell 0 rfl 3 rfl, trivial⟩, ?_⟩
     refine seg 22 [] [0, 3, 4, 39] [(0, (sv Aa p0 ca)), (3, (iv x4)), (4, (pt g13)), (39, (bv (!t55)))] [] (fun fb => by kernel_rfl) rfl trivial ?_
     injection hx53 with hx53
     exact WL.to K (!t55) [0, 3, 4, 39] rfl ⟨⟨(hS59.subR [0]).sub [0] (by decide), hx53.symm⟩, trivial⟩
    rintro y60 w62 ⟨⟨hS63, hq61⟩, hF65⟩
    subst hq61
    refine seg 23 [] [0, 3, 4, 40] [(0, (sv Aa p0 ca)), (3, (iv x4)), (4, (pt g13)), (40, (bv x52))] [] (fun fb => by kernel_rfl) rfl trivial ?_
    obtain ⟨x66, hx67, hl10⟩ := bind_some hl10
    refine WL.cutW (T := Bool) 30 (fun t => [(0, (sv Aa p0 ca)), (3, (iv x4)), (47, (bv t))]) (fun t w1 => (St NoS w w1 [rowR enc_Tile Aa ca p0] [] ∧ x66 = t) ∧ CellsOK [] w1) (fun K => ?_) ?_
    ·
     rcases br_some hx67 with ⟨h68, hx67⟩ | ⟨h68, hx67⟩
     ·
      refine WL.setB 40 h68 rfl ?_
      refine seg 30 [] [0, 3, 47] [(0, (sv Aa p0 ca)), (3, (iv x4)), (47, (bv true))] [] (fun fb => by kernel_rfl) rfl trivial ?_
      injection hx67 with hx67
      exact WL.to K true [0, 3, 47] rfl ⟨⟨(hS63.subR [0]).sub [] (by decide), hx67.symm⟩, trivial⟩
     refine WL.setB 40 h68 rfl ?_
     refine seg 25 [] [0, 3, 4, 40, 41, 42] [(0, (sv Aa p0 ca)), (3, (iv x4)), (4, (pt g13)), (40, (bv false)), (41, (sv Aa p0 ca)), (42, (iv x4))] [] (fun fb => by kernel_rfl) rfl trivial ?_
     obtain ⟨h69, hx67⟩ := as_some hx67
     refine seg 26 [] [0, 3, 4, 40, 43] [(0, (sv Aa p0 ca)), (3, (iv x4)), (4, (pt g13)), (40, (bv false)), (43, (.slice (subA Aa ca (0 : Int).toNat 4) (x4.toNat - (0 : Int).toNat) (ca - (0 : Int).toNat)))] [.idx (some ⟨0, 0, none⟩) (0 : Int) (x4.toNat + 1), .idx (some ⟨0, 0, none⟩) x4 (ca + 1)] (fun fb => by kernel_rfl) rfl ⟨cut1 h69.1 h69.2.1, cut2 h69.1 h69.2.1 h69.2.2 (hS63.rd 0).1.2, trivial⟩ ?_
     refine WL.reE [0, 3, 4, 40, 43] [(0, (.slice Aa p0.length ca)), (3, (iv x4)), (4, (pt g13)), (40, (.bool false)), (43, (.slice (subA Aa ca (0 : Int).toNat 4) (x4.toNat - (0 : Int).toNat) (ca - (0 : Int).toNat)))] [(0, (.slice Aa p0.length ca)), (3, (iv x4)), (4, (pt g13)), (40, (.bool false)), (43, (.slice (subA Aa ca (0 : Int).toNat 4) (cut p0 (0 : Int) x4).length (ca - (0 : Int).toNat)))] rfl (by rw [cut_length h69.1 h69.2.1 h69.2.2]) ?_
     have hS70 := hS63.cutR 0 rfl h69.1 h69.2.1 h69.2.2
     refine segF 27 [.v (iv ((rdD p0 x4 z_Tile).N)), .v (iv ((rdD p0 x4 z_Tile).E)), .v (iv ((rdD p0 x4 z_Tile).S)), .v (iv ((rdD p0 x4 z_Tile).W))] [0, 3, 40, 43, 44] [(0, (sv Aa p0 ca)), (3, (iv x4)), (40, (bv false)), (43, (sv (subA Aa ca (0 : Int).toNat 4) (cut p0 (0 : Int) x4) (ca - (0 : Int).toNat))), (44, (.agg #[(iv ((rdD p0 x4 z_Tile).N)), (iv ((rdD p0 x4 z_Tile).E)), (iv ((rdD p0 x4 z_Tile).S)), (iv ((rdD p0 x4 z_Tile).W))]))] [] [4, 5, 6, 7] [(26, ⟨g13, 0, none⟩, (iv ((rdD p0 x4 z_Tile).N))), (26, ⟨g13, 1, none⟩, (iv ((rdD p0 x4 z_Tile).E))), (26, ⟨g13, 2, none⟩, (iv ((rdD p0 x4 z_Tile).S))), (26, ⟨g13, 3, none⟩, (iv ((rdD p0 x4 z_Tile).W)))] (fun fb => by kernel_rfl) rfl trivial rfl ?_
     obtain ⟨t71, ht72, hx67⟩ := bind_some hx67
     refine WL.call (some 45) 29 #[(sv (subA Aa ca (0 : Int).toNat 4) (cut p0 (0 : Int) x4) (ca - (0 : Int).toNat)), (.agg #[(iv ((rdD p0 x4 z_Tile).N)), (iv ((rdD p0 x4 z_Tile).E)), (iv ((rdD p0 x4 z_Tile).S)), (iv ((rdD p0 x4 z_Tile).W))])] (fun fb => by kernel_rfl) (ref01_Index_calls _ (cut p0 (0 : Int) x4) (rdD p0 x4 z_Tile) (subA Aa ca (0 : Int).toNat 4) (ca - (0 : Int).toNat) t71 _ (hS70.rd 0) ht72) (fun v w73 hR74 => ?_)
     obtain ⟨rfl, hk_⟩ := hR74
     have hS75 := hS70.keepN hk_
     refine ⟨trivial, ?_⟩
     refine seg 30 [] [0, 3, 47] [(0, (sv Aa p0 ca)), (3, (iv x4)), (47, (bv (decide (t71 ≥ 0))))] [] (fun fb => by kernel_rfl) rfl trivial ?_
     injection hx67 with hx67
     exact WL.to K (decide (t71 ≥ 0)) [0, 3, 47] rfl ⟨⟨(hS75.subR [1]).sub [] (by decide), hx67.symm⟩, trivial⟩
    rintro y76 w78 ⟨⟨hS79, hq77⟩, hF80⟩
    subst hq77
    refine WL.done rfl (WX.next ?_)
    rcases br_some hl10 with ⟨h81, hl10⟩ | ⟨h81, hl10⟩
    ·refine WC.condT2 (fun fb => by kernel_rfl) h81 ?_
     refine WC.seq (WC.region ?_)
     refine seg 1 [] [2] [(2, (bv false))] [] (fun fb => by kernel_rfl) rfl trivial ?_
     refine WL.done rfl (WX.next ?_)
     refine WC.ret ?_
     injection hl10 with hl10
     subst hl10
     injection hf with hf
     subst hf
     exact WX.blockR (WX.thenR (WX.thenR (WX.blockR (WX.thenR (WX.ret_ [] (bv false) [] (fun fb => by kernel_rfl) trivial ⟨_, rfl, rfl, hS79.keep⟩)))))
    refine WC.condF2 (fun fb => by kernel_rfl) h81 ?_
    refine WC.skip ?_
    refine WX.blockN (WX.next ?_)
    refine WC.region ?_
    refine seg 3 [] [0, 3] [(0, (sv Aa p0 ca)), (3, (iv (w64 (x4 + 1))))] [] (fun fb => by kernel_rfl) rfl trivial ?_
    refine WL.done rfl ?_
    exact WX.again k7 (Nat.lt_succ_self _) (w64 (x4 + 1)) [0, 3] rfl ⟨(hS79.subR [0]).sub [] (by decide), hl10⟩
   refine WC.condF2 (fun fb => by kernel_rfl) h11 ?_
   refine WC.exit ?_
   injection hl10 with hl10
   exact WX.thenX (WX.thenX (WX.blockHere (WX.to Kx5 () [] rfl ⟨(hS9.subR [0]).sub [] (by decide), hl10.symm⟩)))
 rintro y85 w82 ⟨hS83, hq84⟩
 subst hq84
 have hf := sum_inr hf
 refine WX.next (WC.seq (WC.region ?_))
 refine seg 1 [] [2] [(2, (bv true))] [] (fun fb => by kernel_rfl) rfl trivial ?_
 refine WL.done rfl (WX.next ?_)
 refine WC.ret ?_
 injection hf with hf
 subst hf
 exact WX.ret_ [] (bv true) [] (fun fb => by kernel_rfl) trivial ⟨_, rfl, rfl, hS83.keep⟩
theorem ref01_digits_calls : ∀ (k : Nat) (p0 : Int) (r : ByteArray) (w : World) (hf : ref01_digits k p0 = some r),
  CallsR Tryd.prog 30 #[(iv p0)] w (fun v w' => v = (.string r) ∧ Keeps NoS w w') := by
 intro k
 induction k with
 | zero => intro p0 r w hf; rw [ref01_digits] at hf; cases hf
 | succ k ih_ =>
 intro p0 r w hf
 have hS : St NoS w w [] [] := St.init (ro_nil _ _)
 rw [ref01_digits] at hf
 generalize ref01_digits k = rc_ at hf ih_
 refine enter 18 Tryd.func30 rfl Tryd.ntmps30 rfl ?_
 refine WC.seq (WC.region ?_)
 refine seg 1 [] [0] [(0, (iv p0))] [] (fun fb => by kernel_rfl) rfl trivial ?_
 refine WL.done rfl (WX.next (WC.seq (WC.region ?_)))
 refine seg 4 [] [0, 7] [(0, (iv p0)), (7, (.int .u8 (IntKind.wrap .u8 (w64 (48 + (Int.tmod p0 10))))))] [.ne 10] (fun fb => by kernel_rfl) rfl ⟨(by decide), trivial⟩ ?_
 refine WL.new hS 8 [] (fun g => (.slice (some ⟨g, 0, none⟩) 1 1)) (.cells #[(.int .u8 (IntKind.wrap .u8 (w64 (48 + (Int.tmod p0 10)))))] 5 (0, 0)) [] (fun fb g => by kernel_rfl) trivial (fun g3 w4 hS5 => ?_)
 refine ⟨trivial, ?_⟩
 have hS6 := hS.go w4 [rowO 5 encU8 (some ⟨g3, 0, none⟩) 1 [IntKind.wrap .u8 (w64 (48 + (Int.tmod p0 10)))]] (hS5.map1 0 _ (fun h => rowO.ofBlk h rfl (Nat.le_of_ble_eq_true (by kernel_rfl))) (fun _ h => by obtain ⟨_, h1, h2⟩ := h; injection h1 with h1; subst h1; exact h2) [] (by decide) (by decide))
 refine WL.sop (d := 9) (r := .conv 56 9 (sv (some ⟨g3, 0, none⟩) [IntKind.wrap .u8 (w64 (48 + (Int.tmod p0 10)))] 1)) (fun fb => by kernel_rfl) (.string (strOfNums [IntKind.wrap .u8 (w64 (48 + (Int.tmod p0 10)))])) (fun _ => bts_run (e := 5) (by kernel_rfl) (by kernel_rfl) (by kernel_rfl) (rowO.rd (hS6.own 0).1)) ?_
 refine ⟨trivial, ?_⟩
 refine seg 7 [] [0, 3] [(0, (iv p0)), (3, (.string (strOfNums [IntKind.wrap .u8 (w64 (48 + (Int.tmod p0 10)))])))] [] (fun fb => by kernel_rfl) rfl trivial ?_
 refine WL.done rfl (WX.next (WC.seq (WC.seq (WC.region ?_))))
 refine seg 2 [] [0, 3, 11] [(0, (iv p0)), (3, (.string (strOfNums [IntKind.wrap .u8 (w64 (48 + (Int.tmod p0 10)))]))), (11, (bv (decide (p0 < 10))))] [] (fun fb => by kernel_rfl) rfl trivial ?_
 refine WL.done rfl (WX.next ?_)
 rcases br_some hf with ⟨h7, hf⟩ | ⟨h7, hf⟩
 ·refine WC.condT2 (fun fb => by kernel_rfl) h7 ?_
  refine WC.seq (WC.region ?_)
  refine seg 2 [] [2] [(2, (.string (strOfNums [IntKind.wrap .u8 (w64 (48 + (Int.tmod p0 10)))])))] [] (fun fb => by kernel_rfl) rfl trivial ?_
  refine WL.done rfl (WX.next ?_)
  refine WC.ret ?_
  injection hf with hf
  subst hf
  exact WX.thenR (WX.ret_ [] (.string (strOfNums [IntKind.wrap .u8 (w64 (48 + (Int.tmod p0 10)))])) [] (fun fb => by kernel_rfl) trivial ⟨_, rfl, rfl, hS6.keep⟩)
 refine WC.condF2 (fun fb => by kernel_rfl) h7 ?_
 refine WC.skip (WX.next (WC.seq (WC.region ?_)))
 refine seg 2 [] [3, 14] [(3, (.string (strOfNums [IntKind.wrap .u8 (w64 (48 + (Int.tmod p0 10)))]))), (14, (iv (w64 (Int.tdiv p0 10))))] [.ne 10] (fun fb => by kernel_rfl) rfl ⟨(by decide), trivial⟩ ?_
 obtain ⟨t9, ht10, hf⟩ := bind_some hf
 refine WL.call (some 15) 30 #[(iv (w64 (Int.tdiv p0 10)))] (fun fb => by kernel_rfl) (ih_ (w64 (Int.tdiv p0 10)) t9 _ ht10) (fun v w11 hR12 => ?_)
 obtain ⟨rfl, hk_⟩ := hR12
 have hS13 := hS6.keepN hk_
 refine ⟨trivial, ?_⟩
 refine seg 4 [] [15, 16] [(15, (.string t9)), (16, (.string (strOfNums [IntKind.wrap .u8 (w64 (48 + (Int.tmod p0 10)))])))] [] (fun fb => by kernel_rfl) rfl trivial ?_
 obtain ⟨h14, hf⟩ := as_some hf
 refine seg 6 [] [2] [(2, (.string (t9 ++ (strOfNums [IntKind.wrap .u8 (w64 (48 + (Int.tmod p0 10)))]))))] [.idx (some ⟨0, 0, none⟩) ((t9.size + (strOfNums [IntKind.wrap .u8 (w64 (48 + (Int.tmod p0 10)))]).size : Nat) : Int) 9223372036854775808] (fun fb => by kernel_rfl) rfl ⟨catq h14, trivial⟩ ?_
 refine WL.done rfl (WX.next ?_)
 refine WC.ret ?_
 injection hf with hf
 subst hf
 exact WX.ret_ [] (.string (t9 ++ (strOfNums [IntKind.wrap .u8 (w64 (48 + (Int.tmod p0 10)))]))) [] (fun fb => by kernel_rfl) trivial ⟨_, rfl, rfl, hS13.keep⟩
theorem ref01_Text_calls (k : Nat) (p0 : List Tile) (Aa : Option Addr) (ca : Nat) (r : ByteArray) (w : World) (hR0 : RO NoS w (rowR enc_Tile Aa ca p0)) (hf : ref01_Text k p0 = some r) :
  CallsR Tryd.prog 17 #[(sv Aa p0 ca)] w (fun v w' => v = (.string r) ∧ Keeps NoS w w') := by
 have hS : St NoS w w [rowR enc_Tile Aa ca p0] [] := St.init (ro_cons hR0 (ro_nil _ _))
 refine enter 43 Tryd.func17 rfl Tryd.ntmps17 rfl ?_
 unfold ref01_Text at hf
 refine WC.seq (WC.region ?_)
 refine seg 1 [] [0] [(0, (sv Aa p0 ca))] [] (fun fb => by kernel_rfl) rfl trivial ?_
 refine WL.done rfl (WX.next (WC.seq (WC.region ?_)))
 refine seg 1 [] [0, 3] [(0, (sv Aa p0 ca)), (3, (.slice none 0 0))] [] (fun fb => by kernel_rfl) rfl trivial ?_
 refine WL.done rfl (WX.next (WC.seq (WC.seq (WC.region ?_))))
 refine seg 1 [] [0, 3, 4] [(0, (sv Aa p0 ca)), (3, (.slice none 0 0)), (4, (iv 0))] [] (fun fb => by kernel_rfl) rfl trivial ?_
 refine WL.done rfl (WX.next ?_)
 have hS3 := hS.nilrow 5 encU8
 obtain ⟨x11, hx12, hf⟩ := bind_some hf
 refine WC.cutN (T := (List Int) × (Option Addr) × Nat) (fun t => [(3, (sv t.2.1 t.1 t.2.2))]) (fun t w1 => St NoS w w1 [rowR enc_Tile Aa ca p0] [rowO 5 encU8 t.2.1 t.2.2 t.1] ∧ x11 = t.1) (fun Kx11 => ?_) ?_
 ·
  refine WC.block ?_
  refine WC.loop (T := ((List Int) × Int) × (Option Addr) × Nat) (fun t => [(0, (sv Aa p0 ca)), (3, (sv t.2.1 t.1.1 t.2.2)), (4, (iv t.1.2))]) (fun n t w1 => St NoS w w1 [rowR enc_Tile Aa ca p0] [rowO 5 encU8 t.2.1 t.2.2 t.1.1] ∧ ref01_Text.l0 n t.1.1 t.1.2 p0 = some x11) k ((([] : List Int), 0), none, 0) [0, 3, 4] rfl ⟨(hS3.subR [0]).sub [0] (by decide), hx12⟩ ?_
  rintro k13 ⟨⟨l6, x7⟩, A4, c5⟩ w14 ⟨hS15, hl16⟩
  cases k13 with
  | zero => rw [ref01_Text.l0] at hl16; cases hl16
  | succ k13 =>
   rw [ref01_Text.l0] at hl16
   refine WC.seq (WC.seq (WC.region ?_))
   refine seg 4 [] [0, 3, 4, 9] [(0, (sv Aa p0 ca)), (3, (sv A4 l6 c5)), (4, (iv x7)), (9, (bv (decide (x7 < (p0.length : Int)))))] [] (fun fb => by kernel_rfl) rfl trivial ?_
   refine WL.done rfl (WX.next ?_)
   rcases br_some hl16 with ⟨h18, hl16⟩ | ⟨h18, hl16⟩
   ·refine WC.condT2 (fun fb => by kernel_rfl) h18 ?_
    refine WC.skip (WX.next (WC.seq (WC.block (WC.seq (WC.seq (WC.region ?_))))))
    refine seg 2 [] [0, 3, 4, 13] [(0, (sv Aa p0 ca)), (3, (sv A4 l6 c5)), (4, (iv x7)), (13, (bv (decide (x7 > 0))))] [] (fun fb => by kernel_rfl) rfl trivial ?_
    refine WL.done rfl (WX.next ?_)
    obtain ⟨x21, hx22, hl16⟩ := bind_some hl16
    refine WC.cutN (T := (List Int) × (Option Addr) × Nat) (fun t => [(0, (sv Aa p0 ca)), (3, (sv t.2.1 t.1 t.2.2)), (4, (iv x7))]) (fun t w1 => St NoS w w1 [rowR enc_Tile Aa ca p0] [rowO 5 encU8 t.2.1 t.2.2 t.1] ∧ x21 = t.1) (fun Kx21 => ?_) ?_
    ·
     rcases br_some hx22 with ⟨h23, hx22⟩ | ⟨h23, hx22⟩
     ·refine WC.condT2 (fun fb => by kernel_rfl) h23 ?_
      refine WC.region ?_
      refine seg 1 [] [0, 4, 14] [(0, (sv Aa p0 ca)), (4, (iv x7)), (14, (sv A4 l6 c5))] [] (fun fb => by kernel_rfl) rfl trivial ?_
      refine WL.new hS15 15 [] (fun g => (.slice (some ⟨g, 0, none⟩) 1 1)) (.cells #[(.int .u8 32)] 5 (0, 0)) [] (fun fb g => by kernel_rfl) trivial (fun g24 w25 hS26 => ?_)
      refine ⟨trivial, ?_⟩
      have hS27 := hS.go w25 [rowO 5 encU8 (some ⟨g24, 0, none⟩) 1 [32], rowO 5 encU8 A4 c5 l6] (hS26.map1 0 _ (fun h => rowO.ofBlk h rfl (Nat.le_of_ble_eq_true (by kernel_rfl))) (fun _ h => by obtain ⟨_, h1, h2⟩ := h; injection h1 with h1; subst h1; exact h2) [1] (by decide) (by decide))
      obtain ⟨h28, hx22⟩ := as_some hx22
      refine WL.append hS27 1 (d := 16) (tS := 56) (z := (.int .u8 0)) (bytes := 1) (c2 := 1) rfl (fun fb => by kernel_rfl) (rowO.rd (hS27.own 0).1) (by kernel_rfl) (by kernel_rfl) rfl (by decide) h28 (by decide) [0] (by decide) (by decide) (fun A29 c30 w31 hS32 => ?_)
      refine ⟨trivial, ?_⟩
      refine seg 4 [] [0, 3, 4] [(0, (sv Aa p0 ca)), (3, (sv A29 (l6 ++ [32]) c30)), (4, (iv x7))] [] (fun fb => by kernel_rfl) rfl trivial ?_
      refine WL.done rfl ?_
      injection hx22 with hx22
      exact WX.to Kx21 (l6 ++ [32], A29, c30) [0, 3, 4] rfl ⟨(hS32.subR [0]).sub [0] (by decide), hx22.symm⟩
     refine WC.condF2 (fun fb => by kernel_rfl) h23 ?_
     refine WC.skip ?_
     injection hx22 with hx22
     exact WX.to Kx21 (l6, A4, c5) [0, 3, 4] rfl ⟨(hS15.subR [0]).sub [0] (by decide), hx22.symm⟩
    rintro ⟨y36, A19, c20⟩ w33 ⟨hS34, hq35⟩
    subst hq35
    refine WX.next (WC.seq (WC.region ?_))
    refine seg 2 [] [0, 3, 4, 17, 18] [(0, (sv Aa p0 ca)), (3, (sv A19 x21 c20)), (4, (iv x7)), (17, (sv Aa p0 ca)), (18, (iv x7))] [] (fun fb => by kernel_rfl) rfl trivial ?_
    obtain ⟨h37, hl16⟩ := as_some hl16
    refine seg 4 [.v (iv ((rdD p0 x7 z_Tile).N)), .v (iv ((rdD p0 x7 z_Tile).E)), .v (iv ((rdD p0 x7 z_Tile).S)), .v (iv ((rdD p0 x7 z_Tile).W))] [0, 3, 4, 20] [(0, (sv Aa p0 ca)), (3, (sv A19 x21 c20)), (4, (iv x7)), (20, (.agg #[(iv ((rdD p0 x7 z_Tile).N)), (iv ((rdD p0 x7 z_Tile).E)), (iv ((rdD p0 x7 z_Tile).S)), (iv ((rdD p0 x7 z_Tile).W))]))] [.idx Aa x7 p0.length, .cell ((adr Aa).add ((x7).toNat * 4)) (iv ((rdD p0 x7 z_Tile).N)), .cell (((adr Aa).add ((x7).toNat * 4)).add 1) (iv ((rdD p0 x7 z_Tile).E)), .cell (((adr Aa).add ((x7).toNat * 4)).add 2) (iv ((rdD p0 x7 z_Tile).S)), .cell (((adr Aa).add ((x7).toNat * 4)).add 3) (iv ((rdD p0 x7 z_Tile).W))] (fun fb => by kernel_rfl) rfl ⟨rowR.adr (hS34.rd 0).1 h37.1 h37.2, rowR.cell (hS34.rd 0).1 z_Tile h37.1 h37.2 0 rfl, rowR.cell (hS34.rd 0).1 z_Tile h37.1 h37.2 1 rfl, rowR.cell (hS34.rd 0).1 z_Tile h37.1 h37.2 2 rfl, rowR.cell (hS34.rd 0).1 z_Tile h37.1 h37.2 3 rfl, trivial⟩ ?_
    refine WL.new hS34 5 [] (fun g => (pt g)) (.cells #[(iv 0), (iv 0), (iv 0), (iv 0)] 50 (0, 0)) [] (fun fb g => by kernel_rfl) trivial (fun g38 w39 hS40 => ?_)
    refine ⟨trivial, ?_⟩
    refine WL.store hS40 0 rfl [(0, (iv ((rdD p0 x7 z_Tile).N))), (1, (iv ((rdD p0 x7 z_Tile).E))), (2, (iv ((rdD p0 x7 z_Tile).S))), (3, (iv ((rdD p0 x7 z_Tile).W)))] #[(iv ((rdD p0 x7 z_Tile).N)), (iv ((rdD p0 x7 z_Tile).E)), (iv ((rdD p0 x7 z_Tile).S)), (iv ((rdD p0 x7 z_Tile).W))] (fun fb => by kernel_rfl) (by kernel_rfl) rfl [1] (by decide) (by decide) (fun w41 hS42 => ?_)
    refine ⟨trivial, ?_⟩
    refine WL.done rfl (WX.next ?_)
    refine WC.regionD ([(2, ⟨g38, 0, none⟩, (iv ((rdD p0 x7 z_Tile).N))), (6, ⟨g38, 1, none⟩, (iv ((rdD p0 x7 z_Tile).E))), (11, ⟨g38, 2, none⟩, (iv ((rdD p0 x7 z_Tile).S))), (16, ⟨g38, 3, none⟩, (iv ((rdD p0 x7 z_Tile).W)))], [0, 1, 2, 4, 5, 6, 8, 9, 10, 11, 13, 14, 15, 16, 18, 20], [[], [], [1], [1, 2], [1, 2, 3], [], [5], [1, 2, 3, 5, 6], [1, 2, 3, 4, 5, 6, 7], [1, 2, 3, 4, 5, 6, 7, 8], [], [10], [1, 2, 3, 5, 6, 7, 10, 11], [1, 2, 3, 4, 5, 6, 7, 8, 9, 10, 11, 12], [1, 2, 3, 4, 5, 6, 7, 8, 9, 10, 11, 12, 13], [], [15], [1, 2, 3, 5, 6, 7, 10, 11, 12, 15, 16], [1, 2, 3, 4, 5, 6, 7, 8, 9, 10, 11, 12, 13, 14, 15, 16, 17], [0, 1, 2, 3, 4, 5, 6, 7, 8, 9, 10, 11, 12, 13, 14, 15, 16, 17, 18], [0, 1, 2, 3, 4, 5, 6, 7, 8, 9, 10, 11, 12, 13, 14, 15, 16, 17, 18, 19]]) [[0, 1, 2, 5, 6, 10, 11, 15, 16, 3, 4, 7, 8, 9, 12, 13, 14, 17, 18, 19, 20]] (by kernel_rfl) (by kernel_rfl) (NoPanic.block (NoPanic.seq (NoPanic.seq (NoPanic.block (NoPanic.seq (NoPanic.body)))))) ?_
    have hS44 := hS42.drew
    revert hS44
    generalize World.drew w41 = w43
    intro hS44
    refine ⟨⟨hS44.cell 0 rfl 0 rfl, hS44.cell 0 rfl 1 rfl, hS44.cell 0 rfl 2 rfl, hS44.cell 0 rfl 3 rfl, trivial⟩, forallC ?_ (forallN)⟩
    refine segF 9 [.v (iv ((rdD p0 x7 z_Tile).N)), .v (iv ((rdD p0 x7 z_Tile).E)), .v (iv ((rdD p0 x7 z_Tile).S)), .v (iv ((rdD p0 x7 z_Tile).W))] [0, 4, 21, 23, 27, 32, 37] [(0, (sv Aa p0 ca)), (4, (iv x7)), (21, (sv A19 x21 c20)), (23, (iv ((rdD p0 x7 z_Tile).N))), (27, (iv ((rdD p0 x7 z_Tile).E))), (32, (iv ((rdD p0 x7 z_Tile).S))), (37, (iv ((rdD p0 x7 z_Tile).W)))] [] [0, 1, 2, 3] [(2, ⟨g38, 0, none⟩, (iv ((rdD p0 x7 z_Tile).N))), (6, ⟨g38, 1, none⟩, (iv ((rdD p0 x7 z_Tile).E))), (11, ⟨g38, 2, none⟩, (iv ((rdD p0 x7 z_Tile).S))), (16, ⟨g38, 3, none⟩, (iv ((rdD p0 x7 z_Tile).W)))] (fun fb => by kernel_rfl) rfl trivial rfl ?_
    obtain ⟨t45, ht46, hl16⟩ := bind_some hl16
    refine WL.call (some 24) 30 #[(iv ((rdD p0 x7 z_Tile).N))] (fun fb => by kernel_rfl) (ref01_digits_calls _ ((rdD p0 x7 z_Tile).N) t45 _ ht46) (fun v w47 hR48 => ?_)
    obtain ⟨rfl, hk_⟩ := hR48
    have hS49 := hS44.keepN hk_
    refine ⟨⟨hS49.cell 0 rfl 1 rfl, hS49.cell 0 rfl 2 rfl, hS49.cell 0 rfl 3 rfl, trivial⟩, ?_⟩
    obtain ⟨h50, hl16⟩ := as_some hl16
    refine seg 11 [] [0, 4, 21, 25, 27, 32, 37] [(0, (sv Aa p0 ca)), (4, (iv x7)), (21, (sv A19 x21 c20)), (25, (.string (t45 ++ (⟨#[46]⟩ : ByteArray)))), (27, (iv ((rdD p0 x7 z_Tile).E))), (32, (iv ((rdD p0 x7 z_Tile).S))), (37, (iv ((rdD p0 x7 z_Tile).W)))] [.idx (some ⟨0, 0, none⟩) ((t45.size + (⟨#[46]⟩ : ByteArray).size : Nat) : Int) 9223372036854775808] (fun fb => by kernel_rfl) rfl ⟨catq h50, trivial⟩ ?_
    obtain ⟨t51, ht52, hl16⟩ := bind_some hl16
    refine WL.call (some 28) 30 #[(iv ((rdD p0 x7 z_Tile).E))] (fun fb => by kernel_rfl) (ref01_digits_calls _ ((rdD p0 x7 z_Tile).E) t51 _ ht52) (fun v w53 hR54 => ?_)
    obtain ⟨rfl, hk_⟩ := hR54
    have hS55 := hS49.keepN hk_
    refine ⟨⟨hS55.cell 0 rfl 2 rfl, hS55.cell 0 rfl 3 rfl, trivial⟩, ?_⟩
    obtain ⟨h56, hl16⟩ := as_some hl16
    refine seg 13 [] [0, 4, 21, 29, 32, 37] [(0, (sv Aa p0 ca)), (4, (iv x7)), (21, (sv A19 x21 c20)), (29, (.string ((t45 ++ (⟨#[46]⟩ : ByteArray)) ++ t51))), (32, (iv ((rdD p0 x7 z_Tile).S))), (37, (iv ((rdD p0 x7 z_Tile).W)))] [.idx (some ⟨0, 0, none⟩) (((t45 ++ (⟨#[46]⟩ : ByteArray)).size + t51.size : Nat) : Int) 9223372036854775808] (fun fb => by kernel_rfl) rfl ⟨catq h56, trivial⟩ ?_
    obtain ⟨h57, hl16⟩ := as_some hl16
    refine seg 14 [] [0, 4, 21, 30, 32, 37] [(0, (sv Aa p0 ca)), (4, (iv x7)), (21, (sv A19 x21 c20)), (30, (.string (((t45 ++ (⟨#[46]⟩ : ByteArray)) ++ t51) ++ (⟨#[46]⟩ : ByteArray)))), (32, (iv ((rdD p0 x7 z_Tile).S))), (37, (iv ((rdD p0 x7 z_Tile).W)))] [.idx (some ⟨0, 0, none⟩) ((((t45 ++ (⟨#[46]⟩ : ByteArray)) ++ t51).size + (⟨#[46]⟩ : ByteArray).size : Nat) : Int) 9223372036854775808] (fun fb => by kernel_rfl) rfl ⟨catq h57, trivial⟩ ?_
    obtain ⟨t58, ht59, hl16⟩ := bind_some hl16
    refine WL.call (some 33) 30 #[(iv ((rdD p0 x7 z_Tile).S))] (fun fb => by kernel_rfl) (ref01_digits_calls _ ((rdD p0 x7 z_Tile).S) t58 _ ht59) (fun v w60 hR61 => ?_)
    obtain ⟨rfl, hk_⟩ := hR61
    have hS62 := hS55.keepN hk_
    refine ⟨⟨hS62.cell 0 rfl 3 rfl, trivial⟩, ?_⟩
    obtain ⟨h63, hl16⟩ := as_some hl16
    refine seg 16 [] [0, 4, 21, 34, 37] [(0, (sv Aa p0 ca)), (4, (iv x7)), (21, (sv A19 x21 c20)), (34, (.string ((((t45 ++ (⟨#[46]⟩ : ByteArray)) ++ t51) ++ (⟨#[46]⟩ : ByteArray)) ++ t58))), (37, (iv ((rdD p0 x7 z_Tile).W)))] [.idx (some ⟨0, 0, none⟩) (((((t45 ++ (⟨#[46]⟩ : ByteArray)) ++ t51) ++ (⟨#[46]⟩ : ByteArray)).size + t58.size : Nat) : Int) 9223372036854775808] (fun fb => by kernel_rfl) rfl ⟨catq h63, trivial⟩ ?_
    obtain ⟨h65, hl16⟩ := as_some hl16
    refine seg 17 [] [0, 4, 21, 35, 37] [(0, (sv Aa p0 ca)), (4, (iv x7)), (21, (sv A19 x21 c20)), (35, (.string (((((t45 ++ (⟨#[46]⟩ : ByteArray)) ++ t51) ++ (⟨#[46]⟩ : ByteArray)) ++ t58) ++ (⟨#[46]⟩ : ByteArray)))), (37, (iv ((rdD p0 x7 z_Tile).W)))] [.idx (some ⟨0, 0, none⟩) ((((((t45 ++ (⟨#[46]⟩ : ByteArray)) ++ t51) ++ (⟨#[46]⟩ : ByteArray)) ++ t58).size + (⟨#[46]⟩ : ByteArray).size : Nat) : Int) 9223372036854775808] (fun fb => by kernel_rfl) rfl ⟨catq h65, trivial⟩ ?_
    obtain ⟨t66, ht67, hl16⟩ := bind_some hl16
    refine WL.call (some 38) 30 #[(iv ((rdD p0 x7 z_Tile).W))] (fun fb => by kernel_rfl) (ref01_digits_calls _ ((rdD p0 x7 z_Tile).W) t66 _ ht67) (fun v w68 hR69 => ?_)
    obtain ⟨rfl, hk_⟩ := hR69
    have hS70 := hS62.keepN hk_
    refine ⟨trivial, ?_⟩
    obtain ⟨h71, hl16⟩ := as_some hl16
    refine seg 19 [] [0, 4, 21, 39] [(0, (sv Aa p0 ca)), (4, (iv x7)), (21, (sv A19 x21 c20)), (39, (.string ((((((t45 ++ (⟨#[46]⟩ : ByteArray)) ++ t51) ++ (⟨#[46]⟩ : ByteArray)) ++ t58) ++ (⟨#[46]⟩ : ByteArray)) ++ t66)))] [.idx (some ⟨0, 0, none⟩) (((((((t45 ++ (⟨#[46]⟩ : ByteArray)) ++ t51) ++ (⟨#[46]⟩ : ByteArray)) ++ t58) ++ (⟨#[46]⟩ : ByteArray)).size + t66.size : Nat) : Int) 9223372036854775808] (fun fb => by kernel_rfl) rfl ⟨catq h71, trivial⟩ ?_
    obtain ⟨h72, hl16⟩ := as_some hl16
    refine WL.appendS hS70 1 (d := 40) (tS := 56) (tX := 9) rfl (fun fb => by kernel_rfl) (by kernel_rfl) (by kernel_rfl) (by kernel_rfl) h72 [0] (by decide) (by decide) (fun A73 c74 w75 hS76 => ?_)
    refine ⟨trivial, ?_⟩
    refine seg 21 [] [0, 3, 4] [(0, (sv Aa p0 ca)), (3, (sv A73 (x21 ++ u8s ((((((t45 ++ (⟨#[46]⟩ : ByteArray)) ++ t51) ++ (⟨#[46]⟩ : ByteArray)) ++ t58) ++ (⟨#[46]⟩ : ByteArray)) ++ t66)) c74)), (4, (iv x7))] [] (fun fb => by kernel_rfl) rfl trivial ?_
    refine WL.done rfl ?_
    refine WX.blockN (WX.next ?_)
    refine WC.region ?_
    refine seg 3 [] [0, 3, 4] [(0, (sv Aa p0 ca)), (3, (sv A73 (x21 ++ u8s ((((((t45 ++ (⟨#[46]⟩ : ByteArray)) ++ t51) ++ (⟨#[46]⟩ : ByteArray)) ++ t58) ++ (⟨#[46]⟩ : ByteArray)) ++ t66)) c74)), (4, (iv (w64 (x7 + 1))))] [] (fun fb => by kernel_rfl) rfl trivial ?_
    refine WL.done rfl ?_
    exact WX.again k13 (Nat.lt_succ_self _) ((x21 ++ u8s ((((((t45 ++ (⟨#[46]⟩ : ByteArray)) ++ t51) ++ (⟨#[46]⟩ : ByteArray)) ++ t58) ++ (⟨#[46]⟩ : ByteArray)) ++ t66), w64 (x7 + 1)), A73, c74) [0, 3, 4] rfl ⟨(hS76.subR [0]).sub [0] (by decide), hl16⟩
   refine WC.condF2 (fun fb => by kernel_rfl) h18 ?_
   refine WC.exit ?_
   injection hl16 with hl16
   exact WX.thenX (WX.thenX (WX.blockHere (WX.to Kx11 (l6, A4, c5) [3] rfl ⟨(hS15.subR [0]).sub [0] (by decide), hl16.symm⟩)))
 rintro ⟨y80, A9, c10⟩ w77 ⟨hS78, hq79⟩
 subst hq79
 refine WX.next (WC.seq (WC.region ?_))
 refine seg 1 [] [41] [(41, (sv A9 x11 c10))] [] (fun fb => by kernel_rfl) rfl trivial ?_
 refine WL.sop (d := 42) (r := .conv 56 9 (sv A9 x11 c10)) (fun fb => by kernel_rfl) (.string (strOfNums x11)) (fun _ => bts_run (e := 5) (by kernel_rfl) (by kernel_rfl) (by kernel_rfl) (rowO.rd (hS78.own 0).1)) ?_
 refine ⟨trivial, ?_⟩
 refine seg 3 [] [2] [(2, (.string (strOfNums x11)))] [] (fun fb => by kernel_rfl) rfl trivial ?_
 refine WL.done rfl (WX.next ?_)
 refine WC.ret ?_
 injection hf with hf
 subst hf
 exact WX.ret_ [] (.string (strOfNums x11)) [] (fun fb => by kernel_rfl) trivial ⟨_, rfl, rfl, hS78.keep⟩
end Gp
