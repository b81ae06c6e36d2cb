/- Walks: each function of the program computes its plain function. -/
import Derived.Test.YtfehljifahnipaaDoorGp
set_option linter.unusedVariables false
set_option linter.unusedSimpArgs false
set_option maxHeartbeats 4000000
set_option maxRecDepth 8000
namespace Gp
open Go Gw Go.Proofs
theorem top_doubles_1_calls (p0 : Int)  (r : Frac) (w : World)  (hf : top_doubles_1 p0 = some r) :
  CallsR Tryd.prog 7 #[(iv p0)] w (fun v w' => v = (.agg #[(iv r.Num), (iv r.Den)]) ∧ Keeps NoS w w') := by
 have hS : St NoS w w [] [] := St.init (ro_nil _ _)
 refine enter 5 Tryd.func7 rfl Tryd.ntmps7 rfl ?_
 unfold top_doubles_1 at hf
 refine WC.seq (WC.region ?_)
 refine WL.new hS 2 [] (fun g => (pt g)) (.cells #[(iv 0), (iv 0)] 36 (0, 0)) [] (fun fb g => by kernel_rfl) trivial (fun g12 w13 hS14 => ?_)
 refine ⟨trivial, ?_⟩
 refine WL.done rfl (WX.next (WC.seq (WC.region ?_)))
 refine seg 2 [] [2, 4] [(2, (pt g12)), (4, (.agg #[(iv p0), (iv 1)]))] [] (fun fb => by kernel_rfl) rfl trivial ?_
 refine WL.store hS14 0 rfl [(0, (iv p0)), (1, (iv 1))] #[(iv p0), (iv 1)] (fun fb => by kernel_rfl) (by kernel_rfl) rfl [] (by decide) (by decide) (fun w16 hS17 => ?_)
 refine ⟨trivial, ?_⟩
 refine WL.done rfl (WX.next ?_)
 refine WC.ret ?_
 injection hf with hf
 subst hf
 exact WX.ret_ [.v (iv p0), .v (iv 1)] (.agg #[(iv p0), (iv 1)]) [.cell ⟨g12, 0, none⟩ (iv p0), .cell ⟨g12, 1, none⟩ (iv 1)] (fun fb => by kernel_rfl) ⟨hS17.cell 0 rfl 0 rfl, hS17.cell 0 rfl 1 rfl, trivial⟩ ⟨_, rfl, rfl, hS17.keep⟩
theorem tile_colour_1_calls (p0 : Int)  (r : Bool) (w : World)  (hf : tile_colour_1 p0 = some r) :
  CallsR Tryd.prog 51 #[(iv p0)] w (fun v w' => v = (bv r) ∧ Keeps NoS w w') := by
 have hS : St NoS w w [] [] := St.init (ro_nil _ _)
 refine enter 9 Tryd.func51 rfl Tryd.ntmps51 rfl ?_
 unfold tile_colour_1 at hf
 refine WC.seq (WC.region ?_)
 refine seg 1 [] [0] [(0, (iv p0))] [] (fun fb => by kernel_rfl) rfl trivial ?_
 refine WL.done rfl (WX.next (WC.seq (WC.region ?_)))
 refine seg 3 [] [0, 5] [(0, (iv p0)), (5, (bv (decide (p0 < 0))))] [] (fun fb => by kernel_rfl) rfl trivial ?_
 refine WL.cutV (T := Bool) 6 (fun t => [(8, (bv t))]) (fun t => ((decide (p0 < 0)) || (decide (p0 ≥ 1000))) = t) (fun K => ?_) ?_
 ·
  rcases Bool.eq_false_or_eq_true (decide (p0 < 0)) with h2 | h2
  ·
   refine WL.setB 5 h2 rfl ?_
   refine seg 6 [] [8] [(8, (bv true))] [] (fun fb => by kernel_rfl) rfl trivial ?_
   exact WL.toV K true [8] rfl (by first | (rw [h2]; done) | (rw [h2]; rfl))
  refine WL.setB 5 h2 rfl ?_
  refine seg 6 [] [8] [(8, (bv (decide (p0 ≥ 1000))))] [] (fun fb => by kernel_rfl) rfl trivial ?_
  exact WL.toV K (decide (p0 ≥ 1000)) [8] rfl (by first | (rw [h2]; done) | (rw [h2]; rfl))
 rintro b3 rfl
 refine seg 7 [] [2] [(2, (bv ((decide (p0 < 0)) || (decide (p0 ≥ 1000)))))] [] (fun fb => by kernel_rfl) rfl trivial ?_
 refine WL.done rfl (WX.next ?_)
 refine WC.ret ?_
 injection hf with hf
 subst hf
 exact WX.ret_ [] (bv ((decide (p0 < 0)) || (decide (p0 ≥ 1000)))) [] (fun fb => by kernel_rfl) trivial ⟨_, rfl, rfl, hS.keep⟩
theorem slices_IndexFunc_int_int_with_tile_colour_1_calls (k : Nat) (p0 : List Int) (Aa : Option Addr) (ca : Nat) (r : Int) (w : World) (hR0 : RO NoS w (rowR encInt Aa ca p0)) (hf : slices_IndexFunc_int_int_with_tile_colour_1 k p0 = some r) :
  CallsR Tryd.prog 53 #[(sv Aa p0 ca), (.func (.func 51) #[] #[])] w (fun v w' => v = (iv r) ∧ Keeps NoS w w') := by
 have hS : St NoS w w [rowR encInt Aa ca p0] [] := St.init (ro_cons hR0 (ro_nil _ _))
 refine enter 19 Tryd.func53 rfl Tryd.ntmps53 rfl ?_
 unfold slices_IndexFunc_int_int_with_tile_colour_1 at hf
 refine WC.seq (WC.region ?_)
 refine seg 1 [] [0, 1] [(0, (sv Aa p0 ca)), (1, (.func (.func 51) #[] #[]))] [] (fun fb => by kernel_rfl) rfl trivial ?_
 refine WL.done rfl (WX.next (WC.seq (WC.seq (WC.region ?_))))
 refine seg 3 [] [0, 1, 7, 8] [(0, (sv Aa p0 ca)), (1, (.func (.func 51) #[] #[])), (7, (iv (p0.length : Int))), (8, (iv 0))] [] (fun fb => by kernel_rfl) rfl trivial ?_
 refine WL.done rfl (WX.next ?_)
 obtain ⟨x4, hx5, hf⟩ := bind_some hf
 refine WC.cutN (T := Unit) (fun t => []) (fun t w1 => St NoS w w1 [rowR encInt Aa ca p0] [] ∧ x4 = .inr t) (fun Kx4 => ?_) ?_
 ·
  refine WC.block ?_
  refine WC.loop (T := Int) (fun t => [(0, (sv Aa p0 ca)), (1, (.func (.func 51) #[] #[])), (7, (iv (p0.length : Int))), (8, (iv t))]) (fun n t w1 => St NoS w w1 [rowR encInt Aa ca p0] [] ∧ slices_IndexFunc_int_int_with_tile_colour_1.l0 n t p0 = some x4) k 0 [0, 1, 7, 8] rfl ⟨(hS.subR [0]).sub [] (by decide), hx5⟩ ?_
  rintro k6 x3 w7 ⟨hS8, hl9⟩
  cases k6 with
  | zero => rw [slices_IndexFunc_int_int_with_tile_colour_1.l0] at hl9; cases hl9
  | succ k6 =>
   rw [slices_IndexFunc_int_int_with_tile_colour_1.l0] at hl9
   refine WC.seq (WC.region ?_)
   refine seg 1 [] [0, 1, 7, 8, 9] [(0, (sv Aa p0 ca)), (1, (.func (.func 51) #[] #[])), (7, (iv (p0.length : Int))), (8, (iv x3)), (9, (bv (decide (x3 < (p0.length : Int)))))] [] (fun fb => by kernel_rfl) rfl trivial ?_
   refine WL.done rfl (WX.next (WC.seq ?_))
   rcases br_some hl9 with ⟨h10, hl9⟩ | ⟨h10, hl9⟩
   ·refine WC.condT2 (fun fb => by kernel_rfl) h10 ?_
    refine WC.skip (WX.next (WC.seq (WC.block (WC.seq (WC.region ?_)))))
    refine seg 2 [] [0, 1, 5, 7, 8] [(0, (sv Aa p0 ca)), (1, (.func (.func 51) #[] #[])), (5, (iv x3)), (7, (iv (p0.length : Int))), (8, (iv x3))] [] (fun fb => by kernel_rfl) rfl trivial ?_
    refine WL.done rfl (WX.next (WC.seq (WC.region ?_)))
    refine seg 3 [] [0, 1, 5, 7, 8, 11, 12, 13] [(0, (sv Aa p0 ca)), (1, (.func (.func 51) #[] #[])), (5, (iv x3)), (7, (iv (p0.length : Int))), (8, (iv x3)), (11, (.func (.func 51) #[] #[])), (12, (sv Aa p0 ca)), (13, (iv x3))] [] (fun fb => by kernel_rfl) rfl trivial ?_
    obtain ⟨h11, hl9⟩ := as_some hl9
    refine seg 5 [.v (iv (rdD p0 x3 0))] [0, 1, 5, 7, 8, 11, 15] [(0, (sv Aa p0 ca)), (1, (.func (.func 51) #[] #[])), (5, (iv x3)), (7, (iv (p0.length : Int))), (8, (iv x3)), (11, (.func (.func 51) #[] #[])), (15, (iv (rdD p0 x3 0)))] [.idx Aa x3 p0.length, .cell ((adr Aa).add ((x3).toNat * 1)) (iv (rdD p0 x3 0))] (fun fb => by kernel_rfl) rfl ⟨rowR.adr (hS8.rd 0).1 h11.1 h11.2, rowR.cell (hS8.rd 0).1 0 h11.1 h11.2 0 rfl, trivial⟩ ?_
    obtain ⟨t12, ht13, hl9⟩ := bind_some hl9
    refine WL.call (some 16) 51 #[(iv (rdD p0 x3 0))] (fun fb => by kernel_rfl) (tile_colour_1_calls (rdD p0 x3 0) t12 _ ht13) (fun v w14 hR15 => ?_)
    obtain ⟨rfl, hk_⟩ := hR15
    have hS16 := hS8.keepN hk_
    refine ⟨trivial, ?_⟩
    refine WL.done rfl (WX.next ?_)
    rcases br_some hl9 with ⟨h17, hl9⟩ | ⟨h17, hl9⟩
    ·refine WC.condT2 (fun fb => by kernel_rfl) h17 ?_
     refine WC.seq (WC.region ?_)
     refine seg 2 [] [4] [(4, (iv x3))] [] (fun fb => by kernel_rfl) rfl trivial ?_
     refine WL.done rfl (WX.next ?_)
     refine WC.ret ?_
     injection hl9 with hl9
     subst hl9
     injection hf with hf
     subst hf
     exact WX.blockR (WX.thenR (WX.thenR (WX.blockR (WX.thenR (WX.ret_ [] (iv x3) [] (fun fb => by kernel_rfl) trivial ⟨_, rfl, rfl, hS16.keep⟩)))))
    refine WC.condF2 (fun fb => by kernel_rfl) h17 ?_
    refine WC.skip ?_
    refine WX.blockN (WX.next ?_)
    refine WC.region ?_
    refine seg 2 [] [0, 1, 7, 8] [(0, (sv Aa p0 ca)), (1, (.func (.func 51) #[] #[])), (7, (iv (p0.length : Int))), (8, (iv (w64 (x3 + 1))))] [] (fun fb => by kernel_rfl) rfl trivial ?_
    refine WL.done rfl ?_
    exact WX.again k6 (Nat.lt_succ_self _) (w64 (x3 + 1)) [0, 1, 7, 8] rfl ⟨(hS16.subR [0]).sub [] (by decide), hl9⟩
   refine WC.condF2 (fun fb => by kernel_rfl) h10 ?_
   refine WC.exit ?_
   injection hl9 with hl9
   exact WX.thenX (WX.thenX (WX.blockHere (WX.to Kx4 () [] rfl ⟨(hS8.subR [0]).sub [] (by decide), hl9.symm⟩)))
 rintro y21 w18 ⟨hS19, hq20⟩
 subst hq20
 have hf := sum_inr hf
 refine WX.next (WC.seq (WC.region ?_))
 refine seg 1 [] [4] [(4, (iv (-1)))] [] (fun fb => by kernel_rfl) rfl trivial ?_
 refine WL.done rfl (WX.next ?_)
 refine WC.ret ?_
 injection hf with hf
 subst hf
 exact WX.ret_ [] (iv (-1)) [] (fun fb => by kernel_rfl) trivial ⟨_, rfl, rfl, hS19.keep⟩
theorem slices_ContainsFunc_int_int_with_tile_colour_1_calls (k : Nat) (p0 : List Int) (Aa : Option Addr) (ca : Nat) (r : Bool) (w : World) (hR0 : RO NoS w (rowR encInt Aa ca p0)) (hf : slices_ContainsFunc_int_int_with_tile_colour_1 k p0 = some r) :
  CallsR Tryd.prog 49 #[(sv Aa p0 ca), (.func (.func 51) #[] #[])] w (fun v w' => v = (bv r) ∧ Keeps NoS w w') := by
 have hS : St NoS w w [rowR encInt Aa ca p0] [] := St.init (ro_cons hR0 (ro_nil _ _))
 refine enter 9 Tryd.func49 rfl Tryd.ntmps49 rfl ?_
 unfold slices_ContainsFunc_int_int_with_tile_colour_1 at hf
 refine WC.seq (WC.region ?_)
 refine seg 1 [] [0, 1] [(0, (sv Aa p0 ca)), (1, (.func (.func 51) #[] #[]))] [] (fun fb => by kernel_rfl) rfl trivial ?_
 refine WL.done rfl (WX.next (WC.seq (WC.region ?_)))
 refine seg 2 [] [5, 6] [(5, (sv Aa p0 ca)), (6, (.func (.func 51) #[] #[]))] [] (fun fb => by kernel_rfl) rfl trivial ?_
 obtain ⟨t2, ht3, hf⟩ := bind_some hf
 refine WL.call (some 7) 53 #[(sv Aa p0 ca), (.func (.func 51) #[] #[])] (fun fb => by kernel_rfl) (slices_IndexFunc_int_int_with_tile_colour_1_calls _ p0 Aa ca t2 _ (hS.rd 0) ht3) (fun v w4 hR5 => ?_)
 obtain ⟨rfl, hk_⟩ := hR5
 have hS6 := hS.keepN hk_
 refine ⟨trivial, ?_⟩
 refine seg 5 [] [4] [(4, (bv (decide (t2 ≥ 0))))] [] (fun fb => by kernel_rfl) rfl trivial ?_
 refine WL.done rfl (WX.next ?_)
 refine WC.ret ?_
 injection hf with hf
 subst hf
 exact WX.ret_ [] (bv (decide (t2 ≥ 0))) [] (fun fb => by kernel_rfl) trivial ⟨_, rfl, rfl, hS6.keep⟩
theorem tile_colour_calls (k : Nat) (p0 : List Int) (Aa : Option Addr) (ca : Nat) (r : Bool) (w : World) (hR0 : RO NoS w (rowR encInt Aa ca p0)) (hf : tile_colour k p0 = some r) :
  CallsR Tryd.prog 42 #[(sv Aa p0 ca)] w (fun v w' => v = (bv r) ∧ Keeps NoS w w') := by
 have hS : St NoS w w [rowR encInt Aa ca p0] [] := St.init (ro_cons hR0 (ro_nil _ _))
 refine enter 6 Tryd.func42 rfl Tryd.ntmps42 rfl ?_
 unfold tile_colour at hf
 refine WC.seq (WC.region ?_)
 refine seg 1 [] [0] [(0, (sv Aa p0 ca))] [] (fun fb => by kernel_rfl) rfl trivial ?_
 refine WL.done rfl (WX.next (WC.seq (WC.region ?_)))
 refine seg 1 [] [3] [(3, (sv Aa p0 ca))] [] (fun fb => by kernel_rfl) rfl trivial ?_
 obtain ⟨t2, ht3, hf⟩ := bind_some hf
 refine WL.call (some 4) 49 #[(sv Aa p0 ca), (.func (.func 51) #[] #[])] (fun fb => by kernel_rfl) (slices_ContainsFunc_int_int_with_tile_colour_1_calls _ p0 Aa ca t2 _ (hS.rd 0) ht3) (fun v w4 hR5 => ?_)
 obtain ⟨rfl, hk_⟩ := hR5
 have hS6 := hS.keepN hk_
 refine ⟨trivial, ?_⟩
 refine seg 4 [] [2] [(2, (bv (!t2)))] [] (fun fb => by kernel_rfl) rfl trivial ?_
 refine WL.done rfl (WX.next ?_)
 refine WC.ret ?_
 injection hf with hf
 subst hf
 exact WX.ret_ [] (bv (!t2)) [] (fun fb => by kernel_rfl) trivial ⟨_, rfl, rfl, hS6.keep⟩
theorem tile_Valid_key39 : KeyK Tryd.prog 39 (aggI ints_Tile) := KeyK.struct (n := 4) (by kernel_rfl) ints_Tile (fun _ => rfl) (fun x y h => by cases x; cases y; simp only [ints_Tile, List.cons.injEq, and_true] at h; obtain ⟨rfl, rfl, rfl, rfl⟩ := h; rfl)
theorem tile_Valid_calls (k : Nat) (p0 : List Tile) (Aa : Option Addr) (ca : Nat) (r : Bool) (w : World) (hR0 : RO NoS w (rowR enc_Tile Aa ca p0)) (hf : tile_Valid k p0 = some r) :
  CallsR Tryd.prog 25 #[(sv Aa p0 ca)] w (fun v w' => v = (bv r) ∧ Keeps NoS w w') := by
 have hS : St NoS w w [rowR enc_Tile Aa ca p0] [] := St.init (ro_cons hR0 (ro_nil _ _))
 refine enter 35 Tryd.func25 rfl Tryd.ntmps25 rfl ?_
 unfold tile_Valid at hf
 refine WC.seq (WC.region ?_)
 refine seg 1 [] [0] [(0, (sv Aa p0 ca))] [] (fun fb => by kernel_rfl) rfl trivial ?_
 refine WL.done rfl (WX.next (WC.seq (WC.seq (WC.region ?_))))
 refine seg 3 [] [0, 8] [(0, (sv Aa p0 ca)), (8, (bv (decide ((p0.length : Int) > 1000))))] [] (fun fb => by kernel_rfl) rfl trivial ?_
 refine WL.done rfl (WX.next ?_)
 rcases br_some hf with ⟨h91, hf⟩ | ⟨h91, hf⟩
 ·refine WC.condT2 (fun fb => by kernel_rfl) h91 ?_
  refine WC.seq (WC.region ?_)
  refine seg 1 [] [2] [(2, (bv false))] [] (fun fb => by kernel_rfl) rfl trivial ?_
  refine WL.done rfl (WX.next ?_)
  refine WC.ret ?_
  injection hf with hf
  subst hf
  exact WX.thenR (WX.ret_ [] (bv false) [] (fun fb => by kernel_rfl) trivial ⟨_, rfl, rfl, hS.keep⟩)
 refine WC.condF2 (fun fb => by kernel_rfl) h91 ?_
 refine WC.skip (WX.next (WC.seq (WC.region ?_)))
 refine WL.new hS 9 [] (fun g => (.map (some g))) (mapObj (aggI ints_Tile) vB ([] : List (Tile × Bool))) [] (fun fb g => by kernel_rfl) trivial (fun g92 w93 hS94 => ?_)
 refine ⟨trivial, ?_⟩
 refine seg 2 [] [0, 3] [(0, (sv Aa p0 ca)), (3, (.map (some g92)))] [] (fun fb => by kernel_rfl) rfl trivial ?_
 refine WL.done rfl (WX.next (WC.seq (WC.seq (WC.region ?_))))
 refine seg 3 [] [3, 10, 11, 12] [(3, (.map (some g92))), (10, (sv Aa p0 ca)), (11, (iv (p0.length : Int))), (12, (iv 0))] [] (fun fb => by kernel_rfl) rfl trivial ?_
 refine WL.done rfl (WX.next ?_)
 obtain ⟨x5, hx6, hf⟩ := bind_some hf
 refine WC.cutN (T := Unit) (fun t => []) (fun t w1 => St NoS w w1 [rowR enc_Tile Aa ca p0] [] ∧ x5 = .inr t) (fun Kx5 => ?_) ?_
 ·
  refine WC.block ?_
  refine WC.loop (T := (List (Tile × Bool)) × Int) (fun t => [(3, (.map (some g92))), (10, (sv Aa p0 ca)), (11, (iv (p0.length : Int))), (12, (iv t.2))]) (fun n t w1 => St NoS w w1 [rowR enc_Tile Aa ca p0] [blk g92 (mapObj (aggI ints_Tile) vB t.1)] ∧ tile_Valid.l0 n t.1 t.2 p0 = some x5) k (([] : List (Tile × Bool)), 0) [3, 10, 11, 12] rfl ⟨(hS94.subR [0]).sub [0] (by decide), hx6⟩ ?_
  rintro k7 ⟨l3, x4⟩ w8 ⟨hS9, hl10⟩
  cases k7 with
  | zero => rw [tile_Valid.l0] at hl10; cases hl10
  | succ k7 =>
   rw [tile_Valid.l0] at hl10
   refine WC.seq (WC.region ?_)
   refine seg 1 [] [3, 10, 11, 12, 13] [(3, (.map (some g92))), (10, (sv Aa p0 ca)), (11, (iv (p0.length : Int))), (12, (iv x4)), (13, (bv (decide (x4 < (p0.length : Int)))))] [] (fun fb => by kernel_rfl) rfl trivial ?_
   refine WL.done rfl (WX.next (WC.seq ?_))
   rcases br_some hl10 with ⟨h11, hl10⟩ | ⟨h11, hl10⟩
   ·refine WC.condT2 (fun fb => by kernel_rfl) h11 ?_
    refine WC.skip (WX.next (WC.seq (WC.block (WC.seq (WC.region ?_)))))
    obtain ⟨h12, hl10⟩ := as_some hl10
    refine seg 2 [.v (iv ((rdD p0 x4 z_Tile).N)), .v (iv ((rdD p0 x4 z_Tile).E)), .v (iv ((rdD p0 x4 z_Tile).S)), .v (iv ((rdD p0 x4 z_Tile).W))] [3, 10, 11, 12, 15] [(3, (.map (some g92))), (10, (sv Aa p0 ca)), (11, (iv (p0.length : Int))), (12, (iv x4)), (15, (.agg #[(iv ((rdD p0 x4 z_Tile).N)), (iv ((rdD p0 x4 z_Tile).E)), (iv ((rdD p0 x4 z_Tile).S)), (iv ((rdD p0 x4 z_Tile).W))]))] [.idx Aa x4 p0.length, .cell ((adr Aa).add ((x4).toNat * 4)) (iv ((rdD p0 x4 z_Tile).N)), .cell (((adr Aa).add ((x4).toNat * 4)).add 1) (iv ((rdD p0 x4 z_Tile).E)), .cell (((adr Aa).add ((x4).toNat * 4)).add 2) (iv ((rdD p0 x4 z_Tile).S)), .cell (((adr Aa).add ((x4).toNat * 4)).add 3) (iv ((rdD p0 x4 z_Tile).W))] (fun fb => by kernel_rfl) rfl ⟨rowR.adr (hS9.rd 0).1 h12.1 h12.2, rowR.cell (hS9.rd 0).1 z_Tile h12.1 h12.2 0 rfl, rowR.cell (hS9.rd 0).1 z_Tile h12.1 h12.2 1 rfl, rowR.cell (hS9.rd 0).1 z_Tile h12.1 h12.2 2 rfl, rowR.cell (hS9.rd 0).1 z_Tile h12.1 h12.2 3 rfl, trivial⟩ ?_
    refine WL.new hS9 5 [] (fun g => (pt g)) (.cells #[(iv 0), (iv 0), (iv 0), (iv 0)] 39 (0, 0)) [] (fun fb g => by kernel_rfl) trivial (fun g13 w14 hS15 => ?_)
    refine ⟨trivial, ?_⟩
    refine WL.store hS15 0 rfl [(0, (iv ((rdD p0 x4 z_Tile).N))), (1, (iv ((rdD p0 x4 z_Tile).E))), (2, (iv ((rdD p0 x4 z_Tile).S))), (3, (iv ((rdD p0 x4 z_Tile).W)))] #[(iv ((rdD p0 x4 z_Tile).N)), (iv ((rdD p0 x4 z_Tile).E)), (iv ((rdD p0 x4 z_Tile).S)), (iv ((rdD p0 x4 z_Tile).W))] (fun fb => by kernel_rfl) (by kernel_rfl) rfl [1] (by decide) (by decide) (fun w16 hS17 => ?_)
    refine ⟨trivial, ?_⟩
    refine WL.done rfl (WX.next (WC.seq (WC.seq (WC.region ?_))))
    refine seg 2 [.v (iv ((rdD p0 x4 z_Tile).N)), .v (iv ((rdD p0 x4 z_Tile).E)), .v (iv ((rdD p0 x4 z_Tile).S)), .v (iv ((rdD p0 x4 z_Tile).W))] [3, 5, 10, 11, 12, 16, 17] [(3, (.map (some g92))), (5, (pt g13)), (10, (sv Aa p0 ca)), (11, (iv (p0.length : Int))), (12, (iv x4)), (16, (.map (some g92))), (17, (.agg #[(iv ((rdD p0 x4 z_Tile).N)), (iv ((rdD p0 x4 z_Tile).E)), (iv ((rdD p0 x4 z_Tile).S)), (iv ((rdD p0 x4 z_Tile).W))]))] [.cell ⟨g13, 0, none⟩ (iv ((rdD p0 x4 z_Tile).N)), .cell ⟨g13, 1, none⟩ (iv ((rdD p0 x4 z_Tile).E)), .cell ⟨g13, 2, none⟩ (iv ((rdD p0 x4 z_Tile).S)), .cell ⟨g13, 3, none⟩ (iv ((rdD p0 x4 z_Tile).W))] (fun fb => by kernel_rfl) rfl ⟨hS17.cell 0 rfl 0 rfl, hS17.cell 0 rfl 1 rfl, hS17.cell 0 rfl 2 rfl, hS17.cell 0 rfl 3 rfl, trivial⟩ ?_
    refine WL.lookup (hS17.own 1).1 (rdD p0 x4 z_Tile) (d := 18) (c := false) (t := 72) (kT := 39) (eT := 4) (z := false) (kE := (aggI ints_Tile)) (vE := vB) (l := l3) (bv (mget (rdD p0 x4 z_Tile) false l3)) (fun fb => by kernel_rfl) tile_Valid_key39 (by kernel_rfl) (fun _ => by kernel_rfl) rfl ?_
    refine ⟨trivial, ?_⟩
    refine seg 4 [] [3, 5, 10, 11, 12, 19] [(3, (.map (some g92))), (5, (pt g13)), (10, (sv Aa p0 ca)), (11, (iv (p0.length : Int))), (12, (iv x4)), (19, (bv (mget (rdD p0 x4 z_Tile) false l3)))] [] (fun fb => by kernel_rfl) rfl trivial ?_
    obtain ⟨x18, hx19, hl10⟩ := bind_some hl10
    refine WL.cutW (T := Bool) 16 (fun t => [(3, (.map (some g92))), (5, (pt g13)), (10, (sv Aa p0 ca)), (11, (iv (p0.length : Int))), (12, (iv x4)), (31, (bv t))]) (fun t w1 => (St NoS w w1 [rowR enc_Tile Aa ca p0] [blk g92 (mapObj (aggI ints_Tile) vB l3), blk g13 (.cells #[(iv ((rdD p0 x4 z_Tile).N)), (iv ((rdD p0 x4 z_Tile).E)), (iv ((rdD p0 x4 z_Tile).S)), (iv ((rdD p0 x4 z_Tile).W))] 39 (0, 0))] ∧ x18 = t) ∧ CellsOK [] w1) (fun K => ?_) ?_
    ·
     rcases br_some hx19 with ⟨h20, hx19⟩ | ⟨h20, hx19⟩
     ·
      refine WL.setB 19 h20 rfl ?_
      refine seg 16 [] [3, 5, 10, 11, 12, 31] [(3, (.map (some g92))), (5, (pt g13)), (10, (sv Aa p0 ca)), (11, (iv (p0.length : Int))), (12, (iv x4)), (31, (bv true))] [] (fun fb => by kernel_rfl) rfl trivial ?_
      injection hx19 with hx19
      exact WL.to K true [3, 5, 10, 11, 12, 31] rfl ⟨⟨(hS17.subR [0]).sub [1, 0] (by decide), hx19.symm⟩, trivial⟩
     refine WL.setB 19 h20 rfl ?_
     refine seg 12 [.v (iv ((rdD p0 x4 z_Tile).N)), .v (iv ((rdD p0 x4 z_Tile).E)), .v (iv ((rdD p0 x4 z_Tile).S)), .v (iv ((rdD p0 x4 z_Tile).W))] [3, 5, 10, 11, 12, 19, 21, 23, 25, 27] [(3, (.map (some g92))), (5, (pt g13)), (10, (sv Aa p0 ca)), (11, (iv (p0.length : Int))), (12, (iv x4)), (19, (bv false)), (21, (iv ((rdD p0 x4 z_Tile).N))), (23, (iv ((rdD p0 x4 z_Tile).E))), (25, (iv ((rdD p0 x4 z_Tile).S))), (27, (iv ((rdD p0 x4 z_Tile).W)))] [.cell ⟨g13, 0, none⟩ (iv ((rdD p0 x4 z_Tile).N)), .cell ⟨g13, 1, none⟩ (iv ((rdD p0 x4 z_Tile).E)), .cell ⟨g13, 2, none⟩ (iv ((rdD p0 x4 z_Tile).S)), .cell ⟨g13, 3, none⟩ (iv ((rdD p0 x4 z_Tile).W))] (fun fb => by kernel_rfl) rfl ⟨hS17.cell 0 rfl 0 rfl, hS17.cell 0 rfl 1 rfl, hS17.cell 0 rfl 2 rfl, hS17.cell 0 rfl 3 rfl, trivial⟩ ?_
     refine WL.new hS17 28 [] (fun g => (.slice (some ⟨g, 0, none⟩) 4 4)) (.cells #[(iv ((rdD p0 x4 z_Tile).N)), (iv ((rdD p0 x4 z_Tile).E)), (iv ((rdD p0 x4 z_Tile).S)), (iv ((rdD p0 x4 z_Tile).W))] 3 (0, 0)) [] (fun fb g => by kernel_rfl) trivial (fun g21 w22 hS23 => ?_)
     refine ⟨trivial, ?_⟩
     have hS24 := hS.go w22 [rowO 3 encInt (some ⟨g21, 0, none⟩) 4 [(rdD p0 x4 z_Tile).N, (rdD p0 x4 z_Tile).E, (rdD p0 x4 z_Tile).S, (rdD p0 x4 z_Tile).W], blk g13 (.cells #[(iv ((rdD p0 x4 z_Tile).N)), (iv ((rdD p0 x4 z_Tile).E)), (iv ((rdD p0 x4 z_Tile).S)), (iv ((rdD p0 x4 z_Tile).W))] 39 (0, 0)), blk g92 (mapObj (aggI ints_Tile) vB l3)] (hS23.map1 0 _ (fun h => rowO.ofBlk h rfl (Nat.le_of_ble_eq_true (by kernel_rfl))) (fun _ h => by obtain ⟨_, h1, h2⟩ := h; injection h1 with h1; subst h1; exact h2) [1, 2] (by decide) (by decide))
     obtain ⟨t26, ht27, hx19⟩ := bind_some hx19
     refine WL.call (some 29) 42 #[(sv (some ⟨g21, 0, none⟩) [(rdD p0 x4 z_Tile).N, (rdD p0 x4 z_Tile).E, (rdD p0 x4 z_Tile).S, (rdD p0 x4 z_Tile).W] 4)] (fun fb => by kernel_rfl) (tile_colour_calls _ [(rdD p0 x4 z_Tile).N, (rdD p0 x4 z_Tile).E, (rdD p0 x4 z_Tile).S, (rdD p0 x4 z_Tile).W] (some ⟨g21, 0, none⟩) 4 t26 _ (hS24.ow 0).ofO ht27) (fun v w28 hR29 => ?_)
     obtain ⟨rfl, hk_⟩ := hR29
     have hS30 := hS24.keepN hk_
     refine ⟨trivial, ?_⟩
     refine seg 16 [] [3, 5, 10, 11, 12, 31] [(3, (.map (some g92))), (5, (pt g13)), (10, (sv Aa p0 ca)), (11, (iv (p0.length : Int))), (12, (iv x4)), (31, (bv (!t26)))] [] (fun fb => by kernel_rfl) rfl trivial ?_
     injection hx19 with hx19
     exact WL.to K (!t26) [3, 5, 10, 11, 12, 31] rfl ⟨⟨(hS30.subR [0]).sub [2, 1] (by decide), hx19.symm⟩, trivial⟩
    rintro y31 w33 ⟨⟨hS34, hq32⟩, hF35⟩
    subst hq32
    refine WL.done rfl (WX.next ?_)
    rcases br_some hl10 with ⟨h36, hl10⟩ | ⟨h36, hl10⟩
    ·refine WC.condT2 (fun fb => by kernel_rfl) h36 ?_
     refine WC.seq (WC.region ?_)
     refine seg 1 [] [2] [(2, (bv false))] [] (fun fb => by kernel_rfl) rfl trivial ?_
     refine WL.done rfl (WX.next ?_)
     refine WC.ret ?_
     injection hl10 with hl10
     subst hl10
     injection hf with hf
     subst hf
     exact WX.thenR (WX.blockR (WX.thenR (WX.thenR (WX.blockR (WX.thenR (WX.ret_ [] (bv false) [] (fun fb => by kernel_rfl) trivial ⟨_, rfl, rfl, hS34.keep⟩))))))
    refine WC.condF2 (fun fb => by kernel_rfl) h36 ?_
    refine WC.skip (WX.next (WC.region ?_))
    refine seg 2 [.v (iv ((rdD p0 x4 z_Tile).N)), .v (iv ((rdD p0 x4 z_Tile).E)), .v (iv ((rdD p0 x4 z_Tile).S)), .v (iv ((rdD p0 x4 z_Tile).W))] [3, 10, 11, 12, 32, 33] [(3, (.map (some g92))), (10, (sv Aa p0 ca)), (11, (iv (p0.length : Int))), (12, (iv x4)), (32, (.map (some g92))), (33, (.agg #[(iv ((rdD p0 x4 z_Tile).N)), (iv ((rdD p0 x4 z_Tile).E)), (iv ((rdD p0 x4 z_Tile).S)), (iv ((rdD p0 x4 z_Tile).W))]))] [.cell ⟨g13, 0, none⟩ (iv ((rdD p0 x4 z_Tile).N)), .cell ⟨g13, 1, none⟩ (iv ((rdD p0 x4 z_Tile).E)), .cell ⟨g13, 2, none⟩ (iv ((rdD p0 x4 z_Tile).S)), .cell ⟨g13, 3, none⟩ (iv ((rdD p0 x4 z_Tile).W))] (fun fb => by kernel_rfl) rfl ⟨hS34.cell 1 rfl 0 rfl, hS34.cell 1 rfl 1 rfl, hS34.cell 1 rfl 2 rfl, hS34.cell 1 rfl 3 rfl, trivial⟩ ?_
    refine WL.mapput hS34 0 (t := 72) (kT := 39) (eT := 4) (kE := (aggI ints_Tile)) (vE := vB) (l := l3) rfl (rdD p0 x4 z_Tile) true (fun fb => by kernel_rfl) tile_Valid_key39 (by kernel_rfl) [1] (by decide) (by decide) (fun w37 hS38 => ?_)
    refine ⟨trivial, ?_⟩
    refine WL.done rfl ?_
    refine WX.blockN (WX.next ?_)
    refine WC.region ?_
    refine seg 2 [] [3, 10, 11, 12] [(3, (.map (some g92))), (10, (sv Aa p0 ca)), (11, (iv (p0.length : Int))), (12, (iv (w64 (x4 + 1))))] [] (fun fb => by kernel_rfl) rfl trivial ?_
    refine WL.done rfl ?_
    exact WX.again k7 (Nat.lt_succ_self _) (mput (rdD p0 x4 z_Tile) true l3, w64 (x4 + 1)) [3, 10, 11, 12] rfl ⟨(hS38.subR [0]).sub [0] (by decide), hl10⟩
   refine WC.condF2 (fun fb => by kernel_rfl) h11 ?_
   refine WC.exit ?_
   injection hl10 with hl10
   exact WX.thenX (WX.thenX (WX.blockHere (WX.to Kx5 () [] rfl ⟨(hS9.subR [0]).sub [] (by decide), hl10.symm⟩)))
 rintro y43 w40 ⟨hS41, hq42⟩
 subst hq42
 have hf := sum_inr hf
 refine WX.next (WC.seq (WC.region ?_))
 refine seg 1 [] [2] [(2, (bv true))] [] (fun fb => by kernel_rfl) rfl trivial ?_
 refine WL.done rfl (WX.next ?_)
 refine WC.ret ?_
 injection hf with hf
 subst hf
 exact WX.ret_ [] (bv true) [] (fun fb => by kernel_rfl) trivial ⟨_, rfl, rfl, hS41.keep⟩
theorem weight_needed_calls (k : Nat) (p0 : List Tile) (Aa : Option Addr) (ca : Nat) (r : Int × Int) (w : World) (hR0 : RO NoS w (rowR enc_Tile Aa ca p0)) (hf : weight_needed k p0 = some r) :
  CallsR Tryd.prog 26 #[(sv Aa p0 ca)] w (fun v w' => v = (.tuple #[(iv r.1), (iv r.2)]) ∧ Keeps NoS w w') := by
 have hS : St NoS w w [rowR enc_Tile Aa ca p0] [] := St.init (ro_cons hR0 (ro_nil _ _))
 refine enter 33 Tryd.func26 rfl Tryd.ntmps26 rfl ?_
 unfold weight_needed at hf
 refine WC.seq (WC.region ?_)
 refine seg 2 [] [0] [(0, (sv Aa p0 ca))] [] (fun fb => by kernel_rfl) rfl trivial ?_
 refine WL.done rfl (WX.next (WC.seq (WC.region ?_)))
 refine seg 2 [] [0, 4, 5] [(0, (sv Aa p0 ca)), (4, (iv 0)), (5, (iv 0))] [] (fun fb => by kernel_rfl) rfl trivial ?_
 refine WL.done rfl (WX.next (WC.seq (WC.seq (WC.region ?_))))
 refine seg 3 [] [4, 5, 8, 9, 10] [(4, (iv 0)), (5, (iv 0)), (8, (sv Aa p0 ca)), (9, (iv (p0.length : Int))), (10, (iv 0))] [] (fun fb => by kernel_rfl) rfl trivial ?_
 refine WL.done rfl (WX.next ?_)
 obtain ⟨x6, hx7, hf⟩ := bind_some hf
 refine WC.cutN (T := Int × Int) (fun t => [(4, (iv t.1)), (5, (iv t.2))]) (fun t w1 => St NoS w w1 [rowR enc_Tile Aa ca p0] [] ∧ x6 = t) (fun Kx6 => ?_) ?_
 ·
  refine WC.block ?_
  refine WC.loop (T := Int × Int × Int) (fun t => [(4, (iv t.1)), (5, (iv t.2.1)), (8, (sv Aa p0 ca)), (9, (iv (p0.length : Int))), (10, (iv t.2.2))]) (fun n t w1 => St NoS w w1 [rowR enc_Tile Aa ca p0] [] ∧ weight_needed.l0 n t.1 t.2.1 t.2.2 p0 = some x6) k (0, 0, 0) [4, 5, 8, 9, 10] rfl ⟨(hS.subR [0]).sub [] (by decide), hx7⟩ ?_
  rintro k8 ⟨x3, x4, x5⟩ w9 ⟨hS10, hl11⟩
  cases k8 with
  | zero => rw [weight_needed.l0] at hl11; cases hl11
  | succ k8 =>
   rw [weight_needed.l0] at hl11
   refine WC.seq (WC.region ?_)
   refine seg 1 [] [4, 5, 8, 9, 10, 11] [(4, (iv x3)), (5, (iv x4)), (8, (sv Aa p0 ca)), (9, (iv (p0.length : Int))), (10, (iv x5)), (11, (bv (decide (x5 < (p0.length : Int)))))] [] (fun fb => by kernel_rfl) rfl trivial ?_
   refine WL.done rfl (WX.next (WC.seq ?_))
   rcases br_some hl11 with ⟨h12, hl11⟩ | ⟨h12, hl11⟩
   ·refine WC.condT2 (fun fb => by kernel_rfl) h12 ?_
    refine WC.skip (WX.next (WC.seq (WC.block (WC.seq (WC.region ?_)))))
    obtain ⟨h13, hl11⟩ := as_some hl11
    refine seg 2 [.v (iv ((rdD p0 x5 z_Tile).N)), .v (iv ((rdD p0 x5 z_Tile).E)), .v (iv ((rdD p0 x5 z_Tile).S)), .v (iv ((rdD p0 x5 z_Tile).W))] [4, 5, 8, 9, 10, 13] [(4, (iv x3)), (5, (iv x4)), (8, (sv Aa p0 ca)), (9, (iv (p0.length : Int))), (10, (iv x5)), (13, (.agg #[(iv ((rdD p0 x5 z_Tile).N)), (iv ((rdD p0 x5 z_Tile).E)), (iv ((rdD p0 x5 z_Tile).S)), (iv ((rdD p0 x5 z_Tile).W))]))] [.idx Aa x5 p0.length, .cell ((adr Aa).add ((x5).toNat * 4)) (iv ((rdD p0 x5 z_Tile).N)), .cell (((adr Aa).add ((x5).toNat * 4)).add 1) (iv ((rdD p0 x5 z_Tile).E)), .cell (((adr Aa).add ((x5).toNat * 4)).add 2) (iv ((rdD p0 x5 z_Tile).S)), .cell (((adr Aa).add ((x5).toNat * 4)).add 3) (iv ((rdD p0 x5 z_Tile).W))] (fun fb => by kernel_rfl) rfl ⟨rowR.adr (hS10.rd 0).1 h13.1 h13.2, rowR.cell (hS10.rd 0).1 z_Tile h13.1 h13.2 0 rfl, rowR.cell (hS10.rd 0).1 z_Tile h13.1 h13.2 1 rfl, rowR.cell (hS10.rd 0).1 z_Tile h13.1 h13.2 2 rfl, rowR.cell (hS10.rd 0).1 z_Tile h13.1 h13.2 3 rfl, trivial⟩ ?_
    refine WL.new hS10 7 [] (fun g => (pt g)) (.cells #[(iv 0), (iv 0), (iv 0), (iv 0)] 39 (0, 0)) [] (fun fb g => by kernel_rfl) trivial (fun g14 w15 hS16 => ?_)
    refine ⟨trivial, ?_⟩
    refine WL.store hS16 0 rfl [(0, (iv ((rdD p0 x5 z_Tile).N))), (1, (iv ((rdD p0 x5 z_Tile).E))), (2, (iv ((rdD p0 x5 z_Tile).S))), (3, (iv ((rdD p0 x5 z_Tile).W)))] #[(iv ((rdD p0 x5 z_Tile).N)), (iv ((rdD p0 x5 z_Tile).E)), (iv ((rdD p0 x5 z_Tile).S)), (iv ((rdD p0 x5 z_Tile).W))] (fun fb => by kernel_rfl) (by kernel_rfl) rfl [] (by decide) (by decide) (fun w17 hS18 => ?_)
    refine ⟨trivial, ?_⟩
    refine WL.done rfl (WX.next ?_)
    refine WC.regionD ([(2, ⟨g14, 0, none⟩, (iv ((rdD p0 x5 z_Tile).N))), (5, ⟨g14, 2, none⟩, (iv ((rdD p0 x5 z_Tile).S))), (10, ⟨g14, 1, none⟩, (iv ((rdD p0 x5 z_Tile).E))), (13, ⟨g14, 3, none⟩, (iv ((rdD p0 x5 z_Tile).W)))], [0, 1, 2, 3, 4, 5, 6, 7, 8, 9, 10, 11, 12, 13, 14, 15, 16, 17], [[], [], [1], [1, 2], [], [4], [4, 5], [0, 1, 2, 3, 4, 5, 6], [], [], [9], [9, 10], [], [12], [12, 13], [8, 9, 10, 11, 12, 13, 14], [0, 1, 2, 3, 4, 5, 6, 7], [0, 1, 2, 3, 4, 5, 6, 7, 8, 9, 10, 11, 12, 13, 14, 15, 16]]) [[0, 1, 2, 3, 4, 5, 6, 7, 8, 9, 10, 11, 12, 13, 14, 15, 16, 17]] (by kernel_rfl) (by kernel_rfl) (NoPanic.block (NoPanic.seq (NoPanic.seq (NoPanic.block (NoPanic.seq (NoPanic.body)))))) ?_
    have hS20 := hS18.drew
    revert hS20
    generalize World.drew w17 = w19
    intro hS20
    refine ⟨⟨hS20.cell 0 rfl 0 rfl, hS20.cell 0 rfl 2 rfl, hS20.cell 0 rfl 1 rfl, hS20.cell 0 rfl 3 rfl, trivial⟩, forallC ?_ (forallN)⟩
    refine segF 18 [.v (iv ((rdD p0 x5 z_Tile).N)), .v (iv ((rdD p0 x5 z_Tile).S)), .v (iv ((rdD p0 x5 z_Tile).E)), .v (iv ((rdD p0 x5 z_Tile).W))] [4, 5, 8, 9, 10] [(4, (iv (maxI (maxI x3 (w64 (((rdD p0 x5 z_Tile).N) + 1))) (w64 (((rdD p0 x5 z_Tile).S) + 1))))), (5, (iv (maxI (maxI x4 (w64 (((rdD p0 x5 z_Tile).E) + 1))) (w64 (((rdD p0 x5 z_Tile).W) + 1))))), (8, (sv Aa p0 ca)), (9, (iv (p0.length : Int))), (10, (iv x5))] [] [0, 1, 2, 3] [(2, ⟨g14, 0, none⟩, (iv ((rdD p0 x5 z_Tile).N))), (5, ⟨g14, 2, none⟩, (iv ((rdD p0 x5 z_Tile).S))), (10, ⟨g14, 1, none⟩, (iv ((rdD p0 x5 z_Tile).E))), (13, ⟨g14, 3, none⟩, (iv ((rdD p0 x5 z_Tile).W)))] (fun fb => by kernel_rfl) rfl trivial rfl ?_
    refine WL.done rfl ?_
    refine WX.blockN (WX.next ?_)
    refine WC.region ?_
    refine seg 2 [] [4, 5, 8, 9, 10] [(4, (iv (maxI (maxI x3 (w64 (((rdD p0 x5 z_Tile).N) + 1))) (w64 (((rdD p0 x5 z_Tile).S) + 1))))), (5, (iv (maxI (maxI x4 (w64 (((rdD p0 x5 z_Tile).E) + 1))) (w64 (((rdD p0 x5 z_Tile).W) + 1))))), (8, (sv Aa p0 ca)), (9, (iv (p0.length : Int))), (10, (iv (w64 (x5 + 1))))] [] (fun fb => by kernel_rfl) rfl trivial ?_
    refine WL.done rfl ?_
    exact WX.again k8 (Nat.lt_succ_self _) (maxI (maxI x3 (w64 (((rdD p0 x5 z_Tile).N) + 1))) (w64 (((rdD p0 x5 z_Tile).S) + 1)), maxI (maxI x4 (w64 (((rdD p0 x5 z_Tile).E) + 1))) (w64 (((rdD p0 x5 z_Tile).W) + 1)), w64 (x5 + 1)) [4, 5, 8, 9, 10] rfl ⟨(hS20.subR [0]).sub [] (by decide), hl11⟩
   refine WC.condF2 (fun fb => by kernel_rfl) h12 ?_
   refine WC.exit ?_
   injection hl11 with hl11
   exact WX.thenX (WX.thenX (WX.blockHere (WX.to Kx6 (x3, x4) [4, 5] rfl ⟨(hS10.subR [0]).sub [] (by decide), hl11.symm⟩)))
 rintro y24 w21 ⟨hS22, hq23⟩
 subst hq23
 refine WX.next (WC.seq (WC.region ?_))
 refine seg 4 [] [2, 3] [(2, (iv x6.1)), (3, (iv x6.2))] [] (fun fb => by kernel_rfl) rfl trivial ?_
 refine WL.done rfl (WX.next ?_)
 refine WC.ret ?_
 injection hf with hf
 subst hf
 exact WX.ret_ [] (.tuple #[(iv x6.1), (iv x6.2)]) [] (fun fb => by kernel_rfl) trivial ⟨_, rfl, rfl, hS22.keep⟩
theorem weight_fraction_valid_calls (p0 : Fraction)  (r : Bool) (w : World)  (hf : weight_fraction_valid p0 = some r) :
  CallsR Tryd.prog 27 #[(.agg #[(iv p0.Num), (iv p0.Den)])] w (fun v w' => v = (bv r) ∧ Keeps NoS w w') := by
 have hS : St NoS w w [] [] := St.init (ro_nil _ _)
 refine enter 21 Tryd.func27 rfl Tryd.ntmps27 rfl ?_
 unfold weight_fraction_valid at hf
 refine WC.seq (WC.region ?_)
 refine WL.new hS 1 [] (fun g => (pt g)) (.cells #[(iv p0.Num), (iv p0.Den)] 47 (0, 0)) [] (fun fb g => by kernel_rfl) trivial (fun g1 w2 hS3 => ?_)
 refine ⟨trivial, ?_⟩
 refine seg 2 [] [1] [(1, (pt g1))] [] (fun fb => by kernel_rfl) rfl trivial ?_
 refine WL.done rfl (WX.next (WC.seq (WC.region ?_)))
 refine seg 4 [.v (iv p0.Den)] [1, 6] [(1, (pt g1)), (6, (bv (decide (p0.Den ≥ 1))))] [.cell ⟨g1, 1, none⟩ (iv p0.Den)] (fun fb => by kernel_rfl) rfl ⟨hS3.cell 0 rfl 1 rfl, trivial⟩ ?_
 refine WL.cutV (T := Bool) 8 (fun t => [(10, (bv t)), (1, (pt g1))]) (fun t => ((decide (p0.Den ≥ 1)) && (decide (p0.Den ≤ 1000000))) = t) (fun K => ?_) ?_
 ·
  rcases Bool.eq_false_or_eq_true (decide (p0.Den ≥ 1)) with h4 | h4
  ·
   refine WL.setB 6 h4 rfl ?_
   refine seg 8 [.v (iv p0.Den)] [1, 10] [(1, (pt g1)), (10, (bv (decide (p0.Den ≤ 1000000))))] [.cell ⟨g1, 1, none⟩ (iv p0.Den)] (fun fb => by kernel_rfl) rfl ⟨hS3.cell 0 rfl 1 rfl, trivial⟩ ?_
   exact WL.toV K (decide (p0.Den ≤ 1000000)) [10, 1] rfl (by first | (rw [h4]; done) | (rw [h4]; rfl))
  refine WL.setB 6 h4 rfl ?_
  refine seg 8 [] [1, 10] [(1, (pt g1)), (10, (bv false))] [] (fun fb => by kernel_rfl) rfl trivial ?_
  exact WL.toV K false [10, 1] rfl (by first | (rw [h4]; done) | (rw [h4]; rfl))
 rintro b5 rfl
 refine seg 9 [] [1, 11] [(1, (pt g1)), (11, (bv ((decide (p0.Den ≥ 1)) && (decide (p0.Den ≤ 1000000)))))] [] (fun fb => by kernel_rfl) rfl trivial ?_
 refine WL.cutV (T := Bool) 13 (fun t => [(15, (bv t)), (1, (pt g1))]) (fun t => (((decide (p0.Den ≥ 1)) && (decide (p0.Den ≤ 1000000))) && (decide (p0.Num ≥ (-1000000)))) = t) (fun K => ?_) ?_
 ·
  rcases Bool.eq_false_or_eq_true ((decide (p0.Den ≥ 1)) && (decide (p0.Den ≤ 1000000))) with h6 | h6
  ·
   refine WL.setB 11 h6 rfl ?_
   refine seg 13 [.v (iv p0.Num)] [1, 15] [(1, (pt g1)), (15, (bv (decide (p0.Num ≥ (-1000000)))))] [.cell ⟨g1, 0, none⟩ (iv p0.Num)] (fun fb => by kernel_rfl) rfl ⟨hS3.cell 0 rfl 0 rfl, trivial⟩ ?_
   exact WL.toV K (decide (p0.Num ≥ (-1000000))) [15, 1] rfl (by first | (rw [h6]; done) | (rw [h6]; rfl))
  refine WL.setB 11 h6 rfl ?_
  refine seg 13 [] [1, 15] [(1, (pt g1)), (15, (bv false))] [] (fun fb => by kernel_rfl) rfl trivial ?_
  exact WL.toV K false [15, 1] rfl (by first | (rw [h6]; done) | (rw [h6]; rfl))
 rintro b7 rfl
 refine seg 14 [] [1, 16] [(1, (pt g1)), (16, (bv (((decide (p0.Den ≥ 1)) && (decide (p0.Den ≤ 1000000))) && (decide (p0.Num ≥ (-1000000))))))] [] (fun fb => by kernel_rfl) rfl trivial ?_
 refine WL.cutV (T := Bool) 18 (fun t => [(20, (bv t))]) (fun t => ((((decide (p0.Den ≥ 1)) && (decide (p0.Den ≤ 1000000))) && (decide (p0.Num ≥ (-1000000)))) && (decide (p0.Num ≤ 1000000))) = t) (fun K => ?_) ?_
 ·
  rcases Bool.eq_false_or_eq_true (((decide (p0.Den ≥ 1)) && (decide (p0.Den ≤ 1000000))) && (decide (p0.Num ≥ (-1000000)))) with h8 | h8
  ·
   refine WL.setB 16 h8 rfl ?_
   refine seg 18 [.v (iv p0.Num)] [20] [(20, (bv (decide (p0.Num ≤ 1000000))))] [.cell ⟨g1, 0, none⟩ (iv p0.Num)] (fun fb => by kernel_rfl) rfl ⟨hS3.cell 0 rfl 0 rfl, trivial⟩ ?_
   exact WL.toV K (decide (p0.Num ≤ 1000000)) [20] rfl (by first | (rw [h8]; done) | (rw [h8]; rfl))
  refine WL.setB 16 h8 rfl ?_
  refine seg 18 [] [20] [(20, (bv false))] [] (fun fb => by kernel_rfl) rfl trivial ?_
  exact WL.toV K false [20] rfl (by first | (rw [h8]; done) | (rw [h8]; rfl))
 rintro b9 rfl
 refine seg 19 [] [2] [(2, (bv ((((decide (p0.Den ≥ 1)) && (decide (p0.Den ≤ 1000000))) && (decide (p0.Num ≥ (-1000000)))) && (decide (p0.Num ≤ 1000000)))))] [] (fun fb => by kernel_rfl) rfl trivial ?_
 refine WL.done rfl (WX.next ?_)
 refine WC.ret ?_
 injection hf with hf
 subst hf
 exact WX.ret_ [] (bv ((((decide (p0.Den ≥ 1)) && (decide (p0.Den ≤ 1000000))) && (decide (p0.Num ≥ (-1000000)))) && (decide (p0.Num ≤ 1000000)))) [] (fun fb => by kernel_rfl) trivial ⟨_, rfl, rfl, hS3.keep⟩
theorem weight_all_1_of_weight_fraction_valid_calls (p0 : Frac) (ga : Nat) (r : Bool) (w : World) (hR0 : RO NoS w (blk ga (.cells #[(.func (.func 27) #[] #[])] 49 (0, 0)))) (hf : weight_all_1_of_weight_fraction_valid p0 = some r) :
  CallsR Tryd.prog 37 #[(.agg #[(iv p0.Num), (iv p0.Den)]), (pt ga)] w (fun v w' => v = (bv r) ∧ Keeps NoS w w') := by
 have hS : St NoS w w [blk ga (.cells #[(.func (.func 27) #[] #[])] 49 (0, 0))] [] := St.init (ro_cons hR0 (ro_nil _ _))
 refine enter 8 Tryd.func37 rfl Tryd.ntmps37 rfl ?_
 unfold weight_all_1_of_weight_fraction_valid at hf
 refine WC.seq (WC.region ?_)
 refine WL.new hS 2 [] (fun g => (pt g)) (.cells #[(iv p0.Num), (iv p0.Den)] 36 (0, 0)) [] (fun fb g => by kernel_rfl) trivial (fun g2 w3 hS4 => ?_)
 refine ⟨trivial, ?_⟩
 refine seg 2 [] [1, 2] [(1, (pt ga)), (2, (pt g2))] [] (fun fb => by kernel_rfl) rfl trivial ?_
 refine WL.done rfl (WX.next (WC.seq (WC.region ?_)))
 refine seg 2 [.v (.func (.func 27) #[] #[]), .v (iv p0.Num), .v (iv p0.Den)] [4, 5] [(4, (.func (.func 27) #[] #[])), (5, (.agg #[(iv p0.Num), (iv p0.Den)]))] [.cell ⟨ga, 0, none⟩ (.func (.func 27) #[] #[]), .cell ⟨g2, 0, none⟩ (iv p0.Num), .cell ⟨g2, 1, none⟩ (iv p0.Den)] (fun fb => by kernel_rfl) rfl ⟨blk_cell (hS4.rd 0).1 0 rfl, hS4.cell 0 rfl 0 rfl, hS4.cell 0 rfl 1 rfl, trivial⟩ ?_
 obtain ⟨t5, ht6, hf⟩ := bind_some hf
 refine WL.call (some 6) 27 #[(.agg #[(iv p0.Num), (iv p0.Den)])] (fun fb => by kernel_rfl) (weight_fraction_valid_calls (Fraction.mk p0.Num p0.Den) t5 _ ht6) (fun v w7 hR8 => ?_)
 obtain ⟨rfl, hk_⟩ := hR8
 have hS9 := hS4.keepN hk_
 refine ⟨trivial, ?_⟩
 refine seg 5 [] [3] [(3, (bv (!t5)))] [] (fun fb => by kernel_rfl) rfl trivial ?_
 refine WL.done rfl (WX.next ?_)
 refine WC.ret ?_
 injection hf with hf
 subst hf
 exact WX.ret_ [] (bv (!t5)) [] (fun fb => by kernel_rfl) trivial ⟨_, rfl, rfl, hS9.keep⟩
theorem slices_IndexFunc_api_Frac_api_Frac_with_weight_all_1_of_weight_fraction_valid_calls (k : Nat) (p0 : List Frac) (Aa : Option Addr) (ca : Nat) (ga : Nat) (r : Int) (w : World) (hR0 : RO NoS w (rowR enc_Frac Aa ca p0)) (hR1 : RO NoS w (blk ga (.cells #[(.func (.func 27) #[] #[])] 49 (0, 0)))) (hf : slices_IndexFunc_api_Frac_api_Frac_with_weight_all_1_of_weight_fraction_valid k p0 = some r) :
  CallsR Tryd.prog 47 #[(sv Aa p0 ca), (.func (.func 37) #[] #[(pt ga)])] w (fun v w' => v = (iv r) ∧ Keeps NoS w w') := by
 have hS : St NoS w w [rowR enc_Frac Aa ca p0, blk ga (.cells #[(.func (.func 27) #[] #[])] 49 (0, 0))] [] := St.init (ro_cons hR0 (ro_cons hR1 (ro_nil _ _)))
 refine enter 19 Tryd.func47 rfl Tryd.ntmps47 rfl ?_
 unfold slices_IndexFunc_api_Frac_api_Frac_with_weight_all_1_of_weight_fraction_valid at hf
 refine WC.seq (WC.region ?_)
 refine seg 1 [] [0, 1] [(0, (sv Aa p0 ca)), (1, (.func (.func 37) #[] #[(pt ga)]))] [] (fun fb => by kernel_rfl) rfl trivial ?_
 refine WL.done rfl (WX.next (WC.seq (WC.seq (WC.region ?_))))
 refine seg 3 [] [0, 1, 7, 8] [(0, (sv Aa p0 ca)), (1, (.func (.func 37) #[] #[(pt ga)])), (7, (iv (p0.length : Int))), (8, (iv 0))] [] (fun fb => by kernel_rfl) rfl trivial ?_
 refine WL.done rfl (WX.next ?_)
 obtain ⟨x4, hx5, hf⟩ := bind_some hf
 refine WC.cutN (T := Unit) (fun t => []) (fun t w1 => St NoS w w1 [rowR enc_Frac Aa ca p0, blk ga (.cells #[(.func (.func 27) #[] #[])] 49 (0, 0))] [] ∧ x4 = .inr t) (fun Kx4 => ?_) ?_
 ·
  refine WC.block ?_
  refine WC.loop (T := Int) (fun t => [(0, (sv Aa p0 ca)), (1, (.func (.func 37) #[] #[(pt ga)])), (7, (iv (p0.length : Int))), (8, (iv t))]) (fun n t w1 => St NoS w w1 [rowR enc_Frac Aa ca p0, blk ga (.cells #[(.func (.func 27) #[] #[])] 49 (0, 0))] [] ∧ slices_IndexFunc_api_Frac_api_Frac_with_weight_all_1_of_weight_fraction_valid.l0 n t p0 = some x4) k 0 [0, 1, 7, 8] rfl ⟨(hS.subR [0, 1]).sub [] (by decide), hx5⟩ ?_
  rintro k6 x3 w7 ⟨hS8, hl9⟩
  cases k6 with
  | zero => rw [slices_IndexFunc_api_Frac_api_Frac_with_weight_all_1_of_weight_fraction_valid.l0] at hl9; cases hl9
  | succ k6 =>
   rw [slices_IndexFunc_api_Frac_api_Frac_with_weight_all_1_of_weight_fraction_valid.l0] at hl9
   refine WC.seq (WC.region ?_)
   refine seg 1 [] [0, 1, 7, 8, 9] [(0, (sv Aa p0 ca)), (1, (.func (.func 37) #[] #[(pt ga)])), (7, (iv (p0.length : Int))), (8, (iv x3)), (9, (bv (decide (x3 < (p0.length : Int)))))] [] (fun fb => by kernel_rfl) rfl trivial ?_
   refine WL.done rfl (WX.next (WC.seq ?_))
   rcases br_some hl9 with ⟨h10, hl9⟩ | ⟨h10, hl9⟩
   ·refine WC.condT2 (fun fb => by kernel_rfl) h10 ?_
    refine WC.skip (WX.next (WC.seq (WC.block (WC.seq (WC.region ?_)))))
    refine seg 2 [] [0, 1, 5, 7, 8] [(0, (sv Aa p0 ca)), (1, (.func (.func 37) #[] #[(pt ga)])), (5, (iv x3)), (7, (iv (p0.length : Int))), (8, (iv x3))] [] (fun fb => by kernel_rfl) rfl trivial ?_
    refine WL.done rfl (WX.next (WC.seq (WC.region ?_)))
    refine seg 3 [] [0, 1, 5, 7, 8, 11, 12, 13] [(0, (sv Aa p0 ca)), (1, (.func (.func 37) #[] #[(pt ga)])), (5, (iv x3)), (7, (iv (p0.length : Int))), (8, (iv x3)), (11, (.func (.func 37) #[] #[(pt ga)])), (12, (sv Aa p0 ca)), (13, (iv x3))] [] (fun fb => by kernel_rfl) rfl trivial ?_
    obtain ⟨h11, hl9⟩ := as_some hl9
    refine seg 5 [.v (iv ((rdD p0 x3 z_Frac).Num)), .v (iv ((rdD p0 x3 z_Frac).Den))] [0, 1, 5, 7, 8, 11, 15] [(0, (sv Aa p0 ca)), (1, (.func (.func 37) #[] #[(pt ga)])), (5, (iv x3)), (7, (iv (p0.length : Int))), (8, (iv x3)), (11, (.func (.func 37) #[] #[(pt ga)])), (15, (.agg #[(iv ((rdD p0 x3 z_Frac).Num)), (iv ((rdD p0 x3 z_Frac).Den))]))] [.idx Aa x3 p0.length, .cell ((adr Aa).add ((x3).toNat * 2)) (iv ((rdD p0 x3 z_Frac).Num)), .cell (((adr Aa).add ((x3).toNat * 2)).add 1) (iv ((rdD p0 x3 z_Frac).Den))] (fun fb => by kernel_rfl) rfl ⟨rowR.adr (hS8.rd 0).1 h11.1 h11.2, rowR.cell (hS8.rd 0).1 z_Frac h11.1 h11.2 0 rfl, rowR.cell (hS8.rd 0).1 z_Frac h11.1 h11.2 1 rfl, trivial⟩ ?_
    obtain ⟨t12, ht13, hl9⟩ := bind_some hl9
    refine WL.call (some 16) 37 #[(.agg #[(iv ((rdD p0 x3 z_Frac).Num)), (iv ((rdD p0 x3 z_Frac).Den))]), (pt ga)] (fun fb => by kernel_rfl) (weight_all_1_of_weight_fraction_valid_calls (rdD p0 x3 z_Frac) ga t12 _ (hS8.rd 1) ht13) (fun v w14 hR15 => ?_)
    obtain ⟨rfl, hk_⟩ := hR15
    have hS16 := hS8.keepN hk_
    refine ⟨trivial, ?_⟩
    refine WL.done rfl (WX.next ?_)
    rcases br_some hl9 with ⟨h17, hl9⟩ | ⟨h17, hl9⟩
    ·refine WC.condT2 (fun fb => by kernel_rfl) h17 ?_
     refine WC.seq (WC.region ?_)
     refine seg 2 [] [4] [(4, (iv x3))] [] (fun fb => by kernel_rfl) rfl trivial ?_
     refine WL.done rfl (WX.next ?_)
     refine WC.ret ?_
     injection hl9 with hl9
     subst hl9
     injection hf with hf
     subst hf
     exact WX.blockR (WX.thenR (WX.thenR (WX.blockR (WX.thenR (WX.ret_ [] (iv x3) [] (fun fb => by kernel_rfl) trivial ⟨_, rfl, rfl, hS16.keep⟩)))))
    refine WC.condF2 (fun fb => by kernel_rfl) h17 ?_
    refine WC.skip ?_
    refine WX.blockN (WX.next ?_)
    refine WC.region ?_
    refine seg 2 [] [0, 1, 7, 8] [(0, (sv Aa p0 ca)), (1, (.func (.func 37) #[] #[(pt ga)])), (7, (iv (p0.length : Int))), (8, (iv (w64 (x3 + 1))))] [] (fun fb => by kernel_rfl) rfl trivial ?_
    refine WL.done rfl ?_
    exact WX.again k6 (Nat.lt_succ_self _) (w64 (x3 + 1)) [0, 1, 7, 8] rfl ⟨(hS16.subR [0, 1]).sub [] (by decide), hl9⟩
   refine WC.condF2 (fun fb => by kernel_rfl) h10 ?_
   refine WC.exit ?_
   injection hl9 with hl9
   exact WX.thenX (WX.thenX (WX.blockHere (WX.to Kx4 () [] rfl ⟨(hS8.subR [0, 1]).sub [] (by decide), hl9.symm⟩)))
 rintro y21 w18 ⟨hS19, hq20⟩
 subst hq20
 have hf := sum_inr hf
 refine WX.next (WC.seq (WC.region ?_))
 refine seg 1 [] [4] [(4, (iv (-1)))] [] (fun fb => by kernel_rfl) rfl trivial ?_
 refine WL.done rfl (WX.next ?_)
 refine WC.ret ?_
 injection hf with hf
 subst hf
 exact WX.ret_ [] (iv (-1)) [] (fun fb => by kernel_rfl) trivial ⟨_, rfl, rfl, hS19.keep⟩
theorem slices_ContainsFunc_api_Frac_api_Frac_with_weight_all_1_of_weight_fraction_valid_calls (k : Nat) (p0 : List Frac) (Aa : Option Addr) (ca : Nat) (ga : Nat) (r : Bool) (w : World) (hR0 : RO NoS w (rowR enc_Frac Aa ca p0)) (hR1 : RO NoS w (blk ga (.cells #[(.func (.func 27) #[] #[])] 49 (0, 0)))) (hf : slices_ContainsFunc_api_Frac_api_Frac_with_weight_all_1_of_weight_fraction_valid k p0 = some r) :
  CallsR Tryd.prog 36 #[(sv Aa p0 ca), (.func (.func 37) #[] #[(pt ga)])] w (fun v w' => v = (bv r) ∧ Keeps NoS w w') := by
 have hS : St NoS w w [rowR enc_Frac Aa ca p0, blk ga (.cells #[(.func (.func 27) #[] #[])] 49 (0, 0))] [] := St.init (ro_cons hR0 (ro_cons hR1 (ro_nil _ _)))
 refine enter 9 Tryd.func36 rfl Tryd.ntmps36 rfl ?_
 unfold slices_ContainsFunc_api_Frac_api_Frac_with_weight_all_1_of_weight_fraction_valid at hf
 refine WC.seq (WC.region ?_)
 refine seg 1 [] [0, 1] [(0, (sv Aa p0 ca)), (1, (.func (.func 37) #[] #[(pt ga)]))] [] (fun fb => by kernel_rfl) rfl trivial ?_
 refine WL.done rfl (WX.next (WC.seq (WC.region ?_)))
 refine seg 2 [] [5, 6] [(5, (sv Aa p0 ca)), (6, (.func (.func 37) #[] #[(pt ga)]))] [] (fun fb => by kernel_rfl) rfl trivial ?_
 obtain ⟨t2, ht3, hf⟩ := bind_some hf
 refine WL.call (some 7) 47 #[(sv Aa p0 ca), (.func (.func 37) #[] #[(pt ga)])] (fun fb => by kernel_rfl) (slices_IndexFunc_api_Frac_api_Frac_with_weight_all_1_of_weight_fraction_valid_calls _ p0 Aa ca ga t2 _ (hS.rd 0) (hS.rd 1) ht3) (fun v w4 hR5 => ?_)
 obtain ⟨rfl, hk_⟩ := hR5
 have hS6 := hS.keepN hk_
 refine ⟨trivial, ?_⟩
 refine seg 5 [] [4] [(4, (bv (decide (t2 ≥ 0))))] [] (fun fb => by kernel_rfl) rfl trivial ?_
 refine WL.done rfl (WX.next ?_)
 refine WC.ret ?_
 injection hf with hf
 subst hf
 exact WX.ret_ [] (bv (decide (t2 ≥ 0))) [] (fun fb => by kernel_rfl) trivial ⟨_, rfl, rfl, hS6.keep⟩
theorem weight_all_with_weight_fraction_valid_calls (k : Nat) (p0 : List Frac) (Aa : Option Addr) (ca : Nat) (r : Bool) (w : World) (hR0 : RO NoS w (rowR enc_Frac Aa ca p0)) (hf : weight_all_with_weight_fraction_valid k p0 = some r) :
  CallsR Tryd.prog 17 #[(sv Aa p0 ca), (.func (.func 27) #[] #[])] w (fun v w' => v = (bv r) ∧ Keeps NoS w w') := by
 have hS : St NoS w w [rowR enc_Frac Aa ca p0] [] := St.init (ro_cons hR0 (ro_nil _ _))
 refine enter 9 Tryd.func17 rfl Tryd.ntmps17 rfl ?_
 unfold weight_all_with_weight_fraction_valid at hf
 refine WC.seq (WC.region ?_)
 refine WL.new hS 3 [] (fun g => (pt g)) (.cells #[(.func (.func 27) #[] #[])] 49 (0, 0)) [] (fun fb g => by kernel_rfl) trivial (fun g2 w3 hS4 => ?_)
 refine ⟨trivial, ?_⟩
 refine seg 2 [] [0, 3] [(0, (sv Aa p0 ca)), (3, (pt g2))] [] (fun fb => by kernel_rfl) rfl trivial ?_
 refine WL.done rfl (WX.next (WC.seq (WC.region ?_)))
 refine seg 2 [] [5, 6] [(5, (sv Aa p0 ca)), (6, (.func (.func 37) #[] #[(pt g2)]))] [] (fun fb => by kernel_rfl) rfl trivial ?_
 obtain ⟨t5, ht6, hf⟩ := bind_some hf
 refine WL.call (some 7) 36 #[(sv Aa p0 ca), (.func (.func 37) #[] #[(pt g2)])] (fun fb => by kernel_rfl) (slices_ContainsFunc_api_Frac_api_Frac_with_weight_all_1_of_weight_fraction_valid_calls _ p0 Aa ca g2 t5 _ (hS4.rd 0) (hS4.ow 0) ht6) (fun v w7 hR8 => ?_)
 obtain ⟨rfl, hk_⟩ := hR8
 have hS9 := hS4.keepN hk_
 refine ⟨trivial, ?_⟩
 refine seg 5 [] [4] [(4, (bv (!t5)))] [] (fun fb => by kernel_rfl) rfl trivial ?_
 refine WL.done rfl (WX.next ?_)
 refine WC.ret ?_
 injection hf with hf
 subst hf
 exact WX.ret_ [] (bv (!t5)) [] (fun fb => by kernel_rfl) trivial ⟨_, rfl, rfl, hS9.keep⟩
theorem weight_Valid_1_calls (p0 : Fraction)  (r : Bool) (w : World)  (hf : weight_Valid_1 p0 = some r) :
  CallsR Tryd.prog 28 #[(.agg #[(iv p0.Num), (iv p0.Den)])] w (fun v w' => v = (bv r) ∧ Keeps NoS w w') := by
 have hS : St NoS w w [] [] := St.init (ro_nil _ _)
 refine enter 6 Tryd.func28 rfl Tryd.ntmps28 rfl ?_
 unfold weight_Valid_1 at hf
 refine WC.seq (WC.region ?_)
 refine WL.new hS 1 [] (fun g => (pt g)) (.cells #[(iv p0.Num), (iv p0.Den)] 47 (0, 0)) [] (fun fb g => by kernel_rfl) trivial (fun g2 w3 hS4 => ?_)
 refine ⟨trivial, ?_⟩
 refine seg 2 [] [1] [(1, (pt g2))] [] (fun fb => by kernel_rfl) rfl trivial ?_
 refine WL.done rfl (WX.next (WC.seq (WC.region ?_)))
 refine seg 4 [.v (iv p0.Num)] [2] [(2, (bv (decide (p0.Num ≥ 0))))] [.cell ⟨g2, 0, none⟩ (iv p0.Num)] (fun fb => by kernel_rfl) rfl ⟨hS4.cell 0 rfl 0 rfl, trivial⟩ ?_
 refine WL.done rfl (WX.next ?_)
 refine WC.ret ?_
 injection hf with hf
 subst hf
 exact WX.ret_ [] (bv (decide (p0.Num ≥ 0))) [] (fun fb => by kernel_rfl) trivial ⟨_, rfl, rfl, hS4.keep⟩
theorem weight_all_1_of_weight_Valid_1_calls (p0 : Frac) (ga : Nat) (r : Bool) (w : World) (hR0 : RO NoS w (blk ga (.cells #[(.func (.func 28) #[] #[])] 49 (0, 0)))) (hf : weight_all_1_of_weight_Valid_1 p0 = some r) :
  CallsR Tryd.prog 37 #[(.agg #[(iv p0.Num), (iv p0.Den)]), (pt ga)] w (fun v w' => v = (bv r) ∧ Keeps NoS w w') := by
 have hS : St NoS w w [blk ga (.cells #[(.func (.func 28) #[] #[])] 49 (0, 0))] [] := St.init (ro_cons hR0 (ro_nil _ _))
 refine enter 8 Tryd.func37 rfl Tryd.ntmps37 rfl ?_
 unfold weight_all_1_of_weight_Valid_1 at hf
 refine WC.seq (WC.region ?_)
 refine WL.new hS 2 [] (fun g => (pt g)) (.cells #[(iv p0.Num), (iv p0.Den)] 36 (0, 0)) [] (fun fb g => by kernel_rfl) trivial (fun g2 w3 hS4 => ?_)
 refine ⟨trivial, ?_⟩
 refine seg 2 [] [1, 2] [(1, (pt ga)), (2, (pt g2))] [] (fun fb => by kernel_rfl) rfl trivial ?_
 refine WL.done rfl (WX.next (WC.seq (WC.region ?_)))
 refine seg 2 [.v (.func (.func 28) #[] #[]), .v (iv p0.Num), .v (iv p0.Den)] [4, 5] [(4, (.func (.func 28) #[] #[])), (5, (.agg #[(iv p0.Num), (iv p0.Den)]))] [.cell ⟨ga, 0, none⟩ (.func (.func 28) #[] #[]), .cell ⟨g2, 0, none⟩ (iv p0.Num), .cell ⟨g2, 1, none⟩ (iv p0.Den)] (fun fb => by kernel_rfl) rfl ⟨blk_cell (hS4.rd 0).1 0 rfl, hS4.cell 0 rfl 0 rfl, hS4.cell 0 rfl 1 rfl, trivial⟩ ?_
 obtain ⟨t5, ht6, hf⟩ := bind_some hf
 refine WL.call (some 6) 28 #[(.agg #[(iv p0.Num), (iv p0.Den)])] (fun fb => by kernel_rfl) (weight_Valid_1_calls (Fraction.mk p0.Num p0.Den) t5 _ ht6) (fun v w7 hR8 => ?_)
 obtain ⟨rfl, hk_⟩ := hR8
 have hS9 := hS4.keepN hk_
 refine ⟨trivial, ?_⟩
 refine seg 5 [] [3] [(3, (bv (!t5)))] [] (fun fb => by kernel_rfl) rfl trivial ?_
 refine WL.done rfl (WX.next ?_)
 refine WC.ret ?_
 injection hf with hf
 subst hf
 exact WX.ret_ [] (bv (!t5)) [] (fun fb => by kernel_rfl) trivial ⟨_, rfl, rfl, hS9.keep⟩
theorem slices_IndexFunc_api_Frac_api_Frac_with_weight_all_1_of_weight_Valid_1_calls (k : Nat) (p0 : List Frac) (Aa : Option Addr) (ca : Nat) (ga : Nat) (r : Int) (w : World) (hR0 : RO NoS w (rowR enc_Frac Aa ca p0)) (hR1 : RO NoS w (blk ga (.cells #[(.func (.func 28) #[] #[])] 49 (0, 0)))) (hf : slices_IndexFunc_api_Frac_api_Frac_with_weight_all_1_of_weight_Valid_1 k p0 = some r) :
  CallsR Tryd.prog 47 #[(sv Aa p0 ca), (.func (.func 37) #[] #[(pt ga)])] w (fun v w' => v = (iv r) ∧ Keeps NoS w w') := by
 have hS : St NoS w w [rowR enc_Frac Aa ca p0, blk ga (.cells #[(.func (.func 28) #[] #[])] 49 (0, 0))] [] := St.init (ro_cons hR0 (ro_cons hR1 (ro_nil _ _)))
 refine enter 19 Tryd.func47 rfl Tryd.ntmps47 rfl ?_
 unfold slices_IndexFunc_api_Frac_api_Frac_with_weight_all_1_of_weight_Valid_1 at hf
 refine WC.seq (WC.region ?_)
 refine seg 1 [] [0, 1] [(0, (sv Aa p0 ca)), (1, (.func (.func 37) #[] #[(pt ga)]))] [] (fun fb => by kernel_rfl) rfl trivial ?_
 refine WL.done rfl (WX.next (WC.seq (WC.seq (WC.region ?_))))
 refine seg 3 [] [0, 1, 7, 8] [(0, (sv Aa p0 ca)), (1, (.func (.func 37) #[] #[(pt ga)])), (7, (iv (p0.length : Int))), (8, (iv 0))] [] (fun fb => by kernel_rfl) rfl trivial ?_
 refine WL.done rfl (WX.next ?_)
 obtain ⟨x4, hx5, hf⟩ := bind_some hf
 refine WC.cutN (T := Unit) (fun t => []) (fun t w1 => St NoS w w1 [rowR enc_Frac Aa ca p0, blk ga (.cells #[(.func (.func 28) #[] #[])] 49 (0, 0))] [] ∧ x4 = .inr t) (fun Kx4 => ?_) ?_
 ·
  refine WC.block ?_
  refine WC.loop (T := Int) (fun t => [(0, (sv Aa p0 ca)), (1, (.func (.func 37) #[] #[(pt ga)])), (7, (iv (p0.length : Int))), (8, (iv t))]) (fun n t w1 => St NoS w w1 [rowR enc_Frac Aa ca p0, blk ga (.cells #[(.func (.func 28) #[] #[])] 49 (0, 0))] [] ∧ slices_IndexFunc_api_Frac_api_Frac_with_weight_all_1_of_weight_Valid_1.l0 n t p0 = some x4) k 0 [0, 1, 7, 8] rfl ⟨(hS.subR [0, 1]).sub [] (by decide), hx5⟩ ?_
  rintro k6 x3 w7 ⟨hS8, hl9⟩
  cases k6 with
  | zero => rw [slices_IndexFunc_api_Frac_api_Frac_with_weight_all_1_of_weight_Valid_1.l0] at hl9; cases hl9
  | succ k6 =>
   rw [slices_IndexFunc_api_Frac_api_Frac_with_weight_all_1_of_weight_Valid_1.l0] at hl9
   refine WC.seq (WC.region ?_)
   refine seg 1 [] [0, 1, 7, 8, 9] [(0, (sv Aa p0 ca)), (1, (.func (.func 37) #[] #[(pt ga)])), (7, (iv (p0.length : Int))), (8, (iv x3)), (9, (bv (decide (x3 < (p0.length : Int)))))] [] (fun fb => by kernel_rfl) rfl trivial ?_
   refine WL.done rfl (WX.next (WC.seq ?_))
   rcases br_some hl9 with ⟨h10, hl9⟩ | ⟨h10, hl9⟩
   ·refine WC.condT2 (fun fb => by kernel_rfl) h10 ?_
    refine WC.skip (WX.next (WC.seq (WC.block (WC.seq (WC.region ?_)))))
    refine seg 2 [] [0, 1, 5, 7, 8] [(0, (sv Aa p0 ca)), (1, (.func (.func 37) #[] #[(pt ga)])), (5, (iv x3)), (7, (iv (p0.length : Int))), (8, (iv x3))] [] (fun fb => by kernel_rfl) rfl trivial ?_
    refine WL.done rfl (WX.next (WC.seq (WC.region ?_)))
    refine seg 3 [] [0, 1, 5, 7, 8, 11, 12, 13] [(0, (sv Aa p0 ca)), (1, (.func (.func 37) #[] #[(pt ga)])), (5, (iv x3)), (7, (iv (p0.length : Int))), (8, (iv x3)), (11, (.func (.func 37) #[] #[(pt ga)])), (12, (sv Aa p0 ca)), (13, (iv x3))] [] (fun fb => by kernel_rfl) rfl trivial ?_
    obtain ⟨h11, hl9⟩ := as_some hl9
    refine seg 5 [.v (iv ((rdD p0 x3 z_Frac).Num)), .v (iv ((rdD p0 x3 z_Frac).Den))] [0, 1, 5, 7, 8, 11, 15] [(0, (sv Aa p0 ca)), (1, (.func (.func 37) #[] #[(pt ga)])), (5, (iv x3)), (7, (iv (p0.length : Int))), (8, (iv x3)), (11, (.func (.func 37) #[] #[(pt ga)])), (15, (.agg #[(iv ((rdD p0 x3 z_Frac).Num)), (iv ((rdD p0 x3 z_Frac).Den))]))] [.idx Aa x3 p0.length, .cell ((adr Aa).add ((x3).toNat * 2)) (iv ((rdD p0 x3 z_Frac).Num)), .cell (((adr Aa).add ((x3).toNat * 2)).add 1) (iv ((rdD p0 x3 z_Frac).Den))] (fun fb => by kernel_rfl) rfl ⟨rowR.adr (hS8.rd 0).1 h11.1 h11.2, rowR.cell (hS8.rd 0).1 z_Frac h11.1 h11.2 0 rfl, rowR.cell (hS8.rd 0).1 z_Frac h11.1 h11.2 1 rfl, trivial⟩ ?_
    obtain ⟨t12, ht13, hl9⟩ := bind_some hl9
    refine WL.call (some 16) 37 #[(.agg #[(iv ((rdD p0 x3 z_Frac).Num)), (iv ((rdD p0 x3 z_Frac).Den))]), (pt ga)] (fun fb => by kernel_rfl) (weight_all_1_of_weight_Valid_1_calls (rdD p0 x3 z_Frac) ga t12 _ (hS8.rd 1) ht13) (fun v w14 hR15 => ?_)
    obtain ⟨rfl, hk_⟩ := hR15
    have hS16 := hS8.keepN hk_
    refine ⟨trivial, ?_⟩
    refine WL.done rfl (WX.next ?_)
    rcases br_some hl9 with ⟨h17, hl9⟩ | ⟨h17, hl9⟩
    ·refine WC.condT2 (fun fb => by kernel_rfl) h17 ?_
     refine WC.seq (WC.region ?_)
     refine seg 2 [] [4] [(4, (iv x3))] [] (fun fb => by kernel_rfl) rfl trivial ?_
     refine WL.done rfl (WX.next ?_)
     refine WC.ret ?_
     injection hl9 with hl9
     subst hl9
     injection hf with hf
     subst hf
     exact WX.blockR (WX.thenR (WX.thenR (WX.blockR (WX.thenR (WX.ret_ [] (iv x3) [] (fun fb => by kernel_rfl) trivial ⟨_, rfl, rfl, hS16.keep⟩)))))
    refine WC.condF2 (fun fb => by kernel_rfl) h17 ?_
    refine WC.skip ?_
    refine WX.blockN (WX.next ?_)
    refine WC.region ?_
    refine seg 2 [] [0, 1, 7, 8] [(0, (sv Aa p0 ca)), (1, (.func (.func 37) #[] #[(pt ga)])), (7, (iv (p0.length : Int))), (8, (iv (w64 (x3 + 1))))] [] (fun fb => by kernel_rfl) rfl trivial ?_
    refine WL.done rfl ?_
    exact WX.again k6 (Nat.lt_succ_self _) (w64 (x3 + 1)) [0, 1, 7, 8] rfl ⟨(hS16.subR [0, 1]).sub [] (by decide), hl9⟩
   refine WC.condF2 (fun fb => by kernel_rfl) h10 ?_
   refine WC.exit ?_
   injection hl9 with hl9
   exact WX.thenX (WX.thenX (WX.blockHere (WX.to Kx4 () [] rfl ⟨(hS8.subR [0, 1]).sub [] (by decide), hl9.symm⟩)))
 rintro y21 w18 ⟨hS19, hq20⟩
 subst hq20
 have hf := sum_inr hf
 refine WX.next (WC.seq (WC.region ?_))
 refine seg 1 [] [4] [(4, (iv (-1)))] [] (fun fb => by kernel_rfl) rfl trivial ?_
 refine WL.done rfl (WX.next ?_)
 refine WC.ret ?_
 injection hf with hf
 subst hf
 exact WX.ret_ [] (iv (-1)) [] (fun fb => by kernel_rfl) trivial ⟨_, rfl, rfl, hS19.keep⟩
theorem slices_ContainsFunc_api_Frac_api_Frac_with_weight_all_1_of_weight_Valid_1_calls (k : Nat) (p0 : List Frac) (Aa : Option Addr) (ca : Nat) (ga : Nat) (r : Bool) (w : World) (hR0 : RO NoS w (rowR enc_Frac Aa ca p0)) (hR1 : RO NoS w (blk ga (.cells #[(.func (.func 28) #[] #[])] 49 (0, 0)))) (hf : slices_ContainsFunc_api_Frac_api_Frac_with_weight_all_1_of_weight_Valid_1 k p0 = some r) :
  CallsR Tryd.prog 36 #[(sv Aa p0 ca), (.func (.func 37) #[] #[(pt ga)])] w (fun v w' => v = (bv r) ∧ Keeps NoS w w') := by
 have hS : St NoS w w [rowR enc_Frac Aa ca p0, blk ga (.cells #[(.func (.func 28) #[] #[])] 49 (0, 0))] [] := St.init (ro_cons hR0 (ro_cons hR1 (ro_nil _ _)))
 refine enter 9 Tryd.func36 rfl Tryd.ntmps36 rfl ?_
 unfold slices_ContainsFunc_api_Frac_api_Frac_with_weight_all_1_of_weight_Valid_1 at hf
 refine WC.seq (WC.region ?_)
 refine seg 1 [] [0, 1] [(0, (sv Aa p0 ca)), (1, (.func (.func 37) #[] #[(pt ga)]))] [] (fun fb => by kernel_rfl) rfl trivial ?_
 refine WL.done rfl (WX.next (WC.seq (WC.region ?_)))
 refine seg 2 [] [5, 6] [(5, (sv Aa p0 ca)), (6, (.func (.func 37) #[] #[(pt ga)]))] [] (fun fb => by kernel_rfl) rfl trivial ?_
 obtain ⟨t2, ht3, hf⟩ := bind_some hf
 refine WL.call (some 7) 47 #[(sv Aa p0 ca), (.func (.func 37) #[] #[(pt ga)])] (fun fb => by kernel_rfl) (slices_IndexFunc_api_Frac_api_Frac_with_weight_all_1_of_weight_Valid_1_calls _ p0 Aa ca ga t2 _ (hS.rd 0) (hS.rd 1) ht3) (fun v w4 hR5 => ?_)
 obtain ⟨rfl, hk_⟩ := hR5
 have hS6 := hS.keepN hk_
 refine ⟨trivial, ?_⟩
 refine seg 5 [] [4] [(4, (bv (decide (t2 ≥ 0))))] [] (fun fb => by kernel_rfl) rfl trivial ?_
 refine WL.done rfl (WX.next ?_)
 refine WC.ret ?_
 injection hf with hf
 subst hf
 exact WX.ret_ [] (bv (decide (t2 ≥ 0))) [] (fun fb => by kernel_rfl) trivial ⟨_, rfl, rfl, hS6.keep⟩
theorem weight_all_with_weight_Valid_1_calls (k : Nat) (p0 : List Frac) (Aa : Option Addr) (ca : Nat) (r : Bool) (w : World) (hR0 : RO NoS w (rowR enc_Frac Aa ca p0)) (hf : weight_all_with_weight_Valid_1 k p0 = some r) :
  CallsR Tryd.prog 17 #[(sv Aa p0 ca), (.func (.func 28) #[] #[])] w (fun v w' => v = (bv r) ∧ Keeps NoS w w') := by
 have hS : St NoS w w [rowR enc_Frac Aa ca p0] [] := St.init (ro_cons hR0 (ro_nil _ _))
 refine enter 9 Tryd.func17 rfl Tryd.ntmps17 rfl ?_
 unfold weight_all_with_weight_Valid_1 at hf
 refine WC.seq (WC.region ?_)
 refine WL.new hS 3 [] (fun g => (pt g)) (.cells #[(.func (.func 28) #[] #[])] 49 (0, 0)) [] (fun fb g => by kernel_rfl) trivial (fun g2 w3 hS4 => ?_)
 refine ⟨trivial, ?_⟩
 refine seg 2 [] [0, 3] [(0, (sv Aa p0 ca)), (3, (pt g2))] [] (fun fb => by kernel_rfl) rfl trivial ?_
 refine WL.done rfl (WX.next (WC.seq (WC.region ?_)))
 refine seg 2 [] [5, 6] [(5, (sv Aa p0 ca)), (6, (.func (.func 37) #[] #[(pt g2)]))] [] (fun fb => by kernel_rfl) rfl trivial ?_
 obtain ⟨t5, ht6, hf⟩ := bind_some hf
 refine WL.call (some 7) 36 #[(sv Aa p0 ca), (.func (.func 37) #[] #[(pt g2)])] (fun fb => by kernel_rfl) (slices_ContainsFunc_api_Frac_api_Frac_with_weight_all_1_of_weight_Valid_1_calls _ p0 Aa ca g2 t5 _ (hS4.rd 0) (hS4.ow 0) ht6) (fun v w7 hR8 => ?_)
 obtain ⟨rfl, hk_⟩ := hR8
 have hS9 := hS4.keepN hk_
 refine ⟨trivial, ?_⟩
 refine seg 5 [] [4] [(4, (bv (!t5)))] [] (fun fb => by kernel_rfl) rfl trivial ?_
 refine WL.done rfl (WX.next ?_)
 refine WC.ret ?_
 injection hf with hf
 subst hf
 exact WX.ret_ [] (bv (!t5)) [] (fun fb => by kernel_rfl) trivial ⟨_, rfl, rfl, hS9.keep⟩
theorem weight_Valid_2_calls (p0 : Fraction)  (r : Bool) (w : World)  (hf : weight_Valid_2 p0 = some r) :
  CallsR Tryd.prog 29 #[(.agg #[(iv p0.Num), (iv p0.Den)])] w (fun v w' => v = (bv r) ∧ Keeps NoS w w') := by
 have hS : St NoS w w [] [] := St.init (ro_nil _ _)
 refine enter 6 Tryd.func29 rfl Tryd.ntmps29 rfl ?_
 unfold weight_Valid_2 at hf
 refine WC.seq (WC.region ?_)
 refine WL.new hS 1 [] (fun g => (pt g)) (.cells #[(iv p0.Num), (iv p0.Den)] 47 (0, 0)) [] (fun fb g => by kernel_rfl) trivial (fun g1 w3 hS4 => ?_)
 refine ⟨trivial, ?_⟩
 refine seg 2 [] [1] [(1, (pt g1))] [] (fun fb => by kernel_rfl) rfl trivial ?_
 refine WL.done rfl (WX.next (WC.seq (WC.region ?_)))
 refine seg 4 [.v (iv p0.Num)] [2] [(2, (bv (decide (p0.Num > 0))))] [.cell ⟨g1, 0, none⟩ (iv p0.Num)] (fun fb => by kernel_rfl) rfl ⟨hS4.cell 0 rfl 0 rfl, trivial⟩ ?_
 refine WL.done rfl (WX.next ?_)
 refine WC.ret ?_
 injection hf with hf
 subst hf
 exact WX.ret_ [] (bv (decide (p0.Num > 0))) [] (fun fb => by kernel_rfl) trivial ⟨_, rfl, rfl, hS4.keep⟩
theorem weight_all_1_of_weight_Valid_2_calls (p0 : Frac) (ga : Nat) (r : Bool) (w : World) (hR0 : RO NoS w (blk ga (.cells #[(.func (.func 29) #[] #[])] 49 (0, 0)))) (hf : weight_all_1_of_weight_Valid_2 p0 = some r) :
  CallsR Tryd.prog 37 #[(.agg #[(iv p0.Num), (iv p0.Den)]), (pt ga)] w (fun v w' => v = (bv r) ∧ Keeps NoS w w') := by
 have hS : St NoS w w [blk ga (.cells #[(.func (.func 29) #[] #[])] 49 (0, 0))] [] := St.init (ro_cons hR0 (ro_nil _ _))
 refine enter 8 Tryd.func37 rfl Tryd.ntmps37 rfl ?_
 unfold weight_all_1_of_weight_Valid_2 at hf
 refine WC.seq (WC.region ?_)
 refine WL.new hS 2 [] (fun g => (pt g)) (.cells #[(iv p0.Num), (iv p0.Den)] 36 (0, 0)) [] (fun fb g => by kernel_rfl) trivial (fun g3 w4 hS5 => ?_)
 refine ⟨trivial, ?_⟩
 refine seg 2 [] [1, 2] [(1, (pt ga)), (2, (pt g3))] [] (fun fb => by kernel_rfl) rfl trivial ?_
 refine WL.done rfl (WX.next (WC.seq (WC.region ?_)))
 refine seg 2 [.v (.func (.func 29) #[] #[]), .v (iv p0.Num), .v (iv p0.Den)] [4, 5] [(4, (.func (.func 29) #[] #[])), (5, (.agg #[(iv p0.Num), (iv p0.Den)]))] [.cell ⟨ga, 0, none⟩ (.func (.func 29) #[] #[]), .cell ⟨g3, 0, none⟩ (iv p0.Num), .cell ⟨g3, 1, none⟩ (iv p0.Den)] (fun fb => by kernel_rfl) rfl ⟨blk_cell (hS5.rd 0).1 0 rfl, hS5.cell 0 rfl 0 rfl, hS5.cell 0 rfl 1 rfl, trivial⟩ ?_
 obtain ⟨t6, ht7, hf⟩ := bind_some hf
 refine WL.call (some 6) 29 #[(.agg #[(iv p0.Num), (iv p0.Den)])] (fun fb => by kernel_rfl) (weight_Valid_2_calls (Fraction.mk p0.Num p0.Den) t6 _ ht7) (fun v w8 hR9 => ?_)
 obtain ⟨rfl, hk_⟩ := hR9
 have hS10 := hS5.keepN hk_
 refine ⟨trivial, ?_⟩
 refine seg 5 [] [3] [(3, (bv (!t6)))] [] (fun fb => by kernel_rfl) rfl trivial ?_
 refine WL.done rfl (WX.next ?_)
 refine WC.ret ?_
 injection hf with hf
 subst hf
 exact WX.ret_ [] (bv (!t6)) [] (fun fb => by kernel_rfl) trivial ⟨_, rfl, rfl, hS10.keep⟩
theorem slices_IndexFunc_api_Frac_api_Frac_with_weight_all_1_of_weight_Valid_2_calls (k : Nat) (p0 : List Frac) (Aa : Option Addr) (ca : Nat) (ga : Nat) (r : Int) (w : World) (hR0 : RO NoS w (rowR enc_Frac Aa ca p0)) (hR1 : RO NoS w (blk ga (.cells #[(.func (.func 29) #[] #[])] 49 (0, 0)))) (hf : slices_IndexFunc_api_Frac_api_Frac_with_weight_all_1_of_weight_Valid_2 k p0 = some r) :
  CallsR Tryd.prog 47 #[(sv Aa p0 ca), (.func (.func 37) #[] #[(pt ga)])] w (fun v w' => v = (iv r) ∧ Keeps NoS w w') := by
 have hS : St NoS w w [rowR enc_Frac Aa ca p0, blk ga (.cells #[(.func (.func 29) #[] #[])] 49 (0, 0))] [] := St.init (ro_cons hR0 (ro_cons hR1 (ro_nil _ _)))
 refine enter 19 Tryd.func47 rfl Tryd.ntmps47 rfl ?_
 unfold slices_IndexFunc_api_Frac_api_Frac_with_weight_all_1_of_weight_Valid_2 at hf
 refine WC.seq (WC.region ?_)
 refine seg 1 [] [0, 1] [(0, (sv Aa p0 ca)), (1, (.func (.func 37) #[] #[(pt ga)]))] [] (fun fb => by kernel_rfl) rfl trivial ?_
 refine WL.done rfl (WX.next (WC.seq (WC.seq (WC.region ?_))))
 refine seg 3 [] [0, 1, 7, 8] [(0, (sv Aa p0 ca)), (1, (.func (.func 37) #[] #[(pt ga)])), (7, (iv (p0.length : Int))), (8, (iv 0))] [] (fun fb => by kernel_rfl) rfl trivial ?_
 refine WL.done rfl (WX.next ?_)
 obtain ⟨x4, hx5, hf⟩ := bind_some hf
 refine WC.cutN (T := Unit) (fun t => []) (fun t w1 => St NoS w w1 [rowR enc_Frac Aa ca p0, blk ga (.cells #[(.func (.func 29) #[] #[])] 49 (0, 0))] [] ∧ x4 = .inr t) (fun Kx4 => ?_) ?_
 ·
  refine WC.block ?_
  refine WC.loop (T := Int) (fun t => [(0, (sv Aa p0 ca)), (1, (.func (.func 37) #[] #[(pt ga)])), (7, (iv (p0.length : Int))), (8, (iv t))]) (fun n t w1 => St NoS w w1 [rowR enc_Frac Aa ca p0, blk ga (.cells #[(.func (.func 29) #[] #[])] 49 (0, 0))] [] ∧ slices_IndexFunc_api_Frac_api_Frac_with_weight_all_1_of_weight_Valid_2.l0 n t p0 = some x4) k 0 [0, 1, 7, 8] rfl ⟨(hS.subR [0, 1]).sub [] (by decide), hx5⟩ ?_
  rintro k6 x3 w7 ⟨hS8, hl9⟩
  cases k6 with
  | zero => rw [slices_IndexFunc_api_Frac_api_Frac_with_weight_all_1_of_weight_Valid_2.l0] at hl9; cases hl9
  | succ k6 =>
   rw [slices_IndexFunc_api_Frac_api_Frac_with_weight_all_1_of_weight_Valid_2.l0] at hl9
   refine WC.seq (WC.region ?_)
   refine seg 1 [] [0, 1, 7, 8, 9] [(0, (sv Aa p0 ca)), (1, (.func (.func 37) #[] #[(pt ga)])), (7, (iv (p0.length : Int))), (8, (iv x3)), (9, (bv (decide (x3 < (p0.length : Int)))))] [] (fun fb => by kernel_rfl) rfl trivial ?_
   refine WL.done rfl (WX.next (WC.seq ?_))
   rcases br_some hl9 with ⟨h10, hl9⟩ | ⟨h10, hl9⟩
   ·refine WC.condT2 (fun fb => by kernel_rfl) h10 ?_
    refine WC.skip (WX.next (WC.seq (WC.block (WC.seq (WC.region ?_)))))
    refine seg 2 [] [0, 1, 5, 7, 8] [(0, (sv Aa p0 ca)), (1, (.func (.func 37) #[] #[(pt ga)])), (5, (iv x3)), (7, (iv (p0.length : Int))), (8, (iv x3))] [] (fun fb => by kernel_rfl) rfl trivial ?_
    refine WL.done rfl (WX.next (WC.seq (WC.region ?_)))
    refine seg 3 [] [0, 1, 5, 7, 8, 11, 12, 13] [(0, (sv Aa p0 ca)), (1, (.func (.func 37) #[] #[(pt ga)])), (5, (iv x3)), (7, (iv (p0.length : Int))), (8, (iv x3)), (11, (.func (.func 37) #[] #[(pt ga)])), (12, (sv Aa p0 ca)), (13, (iv x3))] [] (fun fb => by kernel_rfl) rfl trivial ?_
    obtain ⟨h11, hl9⟩ := as_some hl9
    refine seg 5 [.v (iv ((rdD p0 x3 z_Frac).Num)), .v (iv ((rdD p0 x3 z_Frac).Den))] [0, 1, 5, 7, 8, 11, 15] [(0, (sv Aa p0 ca)), (1, (.func (.func 37) #[] #[(pt ga)])), (5, (iv x3)), (7, (iv (p0.length : Int))), (8, (iv x3)), (11, (.func (.func 37) #[] #[(pt ga)])), (15, (.agg #[(iv ((rdD p0 x3 z_Frac).Num)), (iv ((rdD p0 x3 z_Frac).Den))]))] [.idx Aa x3 p0.length, .cell ((adr Aa).add ((x3).toNat * 2)) (iv ((rdD p0 x3 z_Frac).Num)), .cell (((adr Aa).add ((x3).toNat * 2)).add 1) (iv ((rdD p0 x3 z_Frac).Den))] (fun fb => by kernel_rfl) rfl ⟨rowR.adr (hS8.rd 0).1 h11.1 h11.2, rowR.cell (hS8.rd 0).1 z_Frac h11.1 h11.2 0 rfl, rowR.cell (hS8.rd 0).1 z_Frac h11.1 h11.2 1 rfl, trivial⟩ ?_
    obtain ⟨t12, ht13, hl9⟩ := bind_some hl9
    refine WL.call (some 16) 37 #[(.agg #[(iv ((rdD p0 x3 z_Frac).Num)), (iv ((rdD p0 x3 z_Frac).Den))]), (pt ga)] (fun fb => by kernel_rfl) (weight_all_1_of_weight_Valid_2_calls (rdD p0 x3 z_Frac) ga t12 _ (hS8.rd 1) ht13) (fun v w14 hR15 => ?_)
    obtain ⟨rfl, hk_⟩ := hR15
    have hS16 := hS8.keepN hk_
    refine ⟨trivial, ?_⟩
    refine WL.done rfl (WX.next ?_)
    rcases br_some hl9 with ⟨h17, hl9⟩ | ⟨h17, hl9⟩
    ·refine WC.condT2 (fun fb => by kernel_rfl) h17 ?_
     refine WC.seq (WC.region ?_)
     refine seg 2 [] [4] [(4, (iv x3))] [] (fun fb => by kernel_rfl) rfl trivial ?_
     refine WL.done rfl (WX.next ?_)
     refine WC.ret ?_
     injection hl9 with hl9
     subst hl9
     injection hf with hf
     subst hf
     exact WX.blockR (WX.thenR (WX.thenR (WX.blockR (WX.thenR (WX.ret_ [] (iv x3) [] (fun fb => by kernel_rfl) trivial ⟨_, rfl, rfl, hS16.keep⟩)))))
    refine WC.condF2 (fun fb => by kernel_rfl) h17 ?_
    refine WC.skip ?_
    refine WX.blockN (WX.next ?_)
    refine WC.region ?_
    refine seg 2 [] [0, 1, 7, 8] [(0, (sv Aa p0 ca)), (1, (.func (.func 37) #[] #[(pt ga)])), (7, (iv (p0.length : Int))), (8, (iv (w64 (x3 + 1))))] [] (fun fb => by kernel_rfl) rfl trivial ?_
    refine WL.done rfl ?_
    exact WX.again k6 (Nat.lt_succ_self _) (w64 (x3 + 1)) [0, 1, 7, 8] rfl ⟨(hS16.subR [0, 1]).sub [] (by decide), hl9⟩
   refine WC.condF2 (fun fb => by kernel_rfl) h10 ?_
   refine WC.exit ?_
   injection hl9 with hl9
   exact WX.thenX (WX.thenX (WX.blockHere (WX.to Kx4 () [] rfl ⟨(hS8.subR [0, 1]).sub [] (by decide), hl9.symm⟩)))
 rintro y21 w18 ⟨hS19, hq20⟩
 subst hq20
 have hf := sum_inr hf
 refine WX.next (WC.seq (WC.region ?_))
 refine seg 1 [] [4] [(4, (iv (-1)))] [] (fun fb => by kernel_rfl) rfl trivial ?_
 refine WL.done rfl (WX.next ?_)
 refine WC.ret ?_
 injection hf with hf
 subst hf
 exact WX.ret_ [] (iv (-1)) [] (fun fb => by kernel_rfl) trivial ⟨_, rfl, rfl, hS19.keep⟩
theorem slices_ContainsFunc_api_Frac_api_Frac_with_weight_all_1_of_weight_Valid_2_calls (k : Nat) (p0 : List Frac) (Aa : Option Addr) (ca : Nat) (ga : Nat) (r : Bool) (w : World) (hR0 : RO NoS w (rowR enc_Frac Aa ca p0)) (hR1 : RO NoS w (blk ga (.cells #[(.func (.func 29) #[] #[])] 49 (0, 0)))) (hf : slices_ContainsFunc_api_Frac_api_Frac_with_weight_all_1_of_weight_Valid_2 k p0 = some r) :
  CallsR Tryd.prog 36 #[(sv Aa p0 ca), (.func (.func 37) #[] #[(pt ga)])] w (fun v w' => v = (bv r) ∧ Keeps NoS w w') := by
 have hS : St NoS w w [rowR enc_Frac Aa ca p0, blk ga (.cells #[(.func (.func 29) #[] #[])] 49 (0, 0))] [] := St.init (ro_cons hR0 (ro_cons hR1 (ro_nil _ _)))
 refine enter 9 Tryd.func36 rfl Tryd.ntmps36 rfl ?_
 unfold slices_ContainsFunc_api_Frac_api_Frac_with_weight_all_1_of_weight_Valid_2 at hf
 refine WC.seq (WC.region ?_)
 refine seg 1 [] [0, 1] [(0, (sv Aa p0 ca)), (1, (.func (.func 37) #[] #[(pt ga)]))] [] (fun fb => by kernel_rfl) rfl trivial ?_
 refine WL.done rfl (WX.next (WC.seq (WC.region ?_)))
 refine seg 2 [] [5, 6] [(5, (sv Aa p0 ca)), (6, (.func (.func 37) #[] #[(pt ga)]))] [] (fun fb => by kernel_rfl) rfl trivial ?_
 obtain ⟨t2, ht3, hf⟩ := bind_some hf
 refine WL.call (some 7) 47 #[(sv Aa p0 ca), (.func (.func 37) #[] #[(pt ga)])] (fun fb => by kernel_rfl) (slices_IndexFunc_api_Frac_api_Frac_with_weight_all_1_of_weight_Valid_2_calls _ p0 Aa ca ga t2 _ (hS.rd 0) (hS.rd 1) ht3) (fun v w4 hR5 => ?_)
 obtain ⟨rfl, hk_⟩ := hR5
 have hS6 := hS.keepN hk_
 refine ⟨trivial, ?_⟩
 refine seg 5 [] [4] [(4, (bv (decide (t2 ≥ 0))))] [] (fun fb => by kernel_rfl) rfl trivial ?_
 refine WL.done rfl (WX.next ?_)
 refine WC.ret ?_
 injection hf with hf
 subst hf
 exact WX.ret_ [] (bv (decide (t2 ≥ 0))) [] (fun fb => by kernel_rfl) trivial ⟨_, rfl, rfl, hS6.keep⟩
theorem weight_all_with_weight_Valid_2_calls (k : Nat) (p0 : List Frac) (Aa : Option Addr) (ca : Nat) (r : Bool) (w : World) (hR0 : RO NoS w (rowR enc_Frac Aa ca p0)) (hf : weight_all_with_weight_Valid_2 k p0 = some r) :
  CallsR Tryd.prog 17 #[(sv Aa p0 ca), (.func (.func 29) #[] #[])] w (fun v w' => v = (bv r) ∧ Keeps NoS w w') := by
 have hS : St NoS w w [rowR enc_Frac Aa ca p0] [] := St.init (ro_cons hR0 (ro_nil _ _))
 refine enter 9 Tryd.func17 rfl Tryd.ntmps17 rfl ?_
 unfold weight_all_with_weight_Valid_2 at hf
 refine WC.seq (WC.region ?_)
 refine WL.new hS 3 [] (fun g => (pt g)) (.cells #[(.func (.func 29) #[] #[])] 49 (0, 0)) [] (fun fb g => by kernel_rfl) trivial (fun g3 w4 hS5 => ?_)
 refine ⟨trivial, ?_⟩
 refine seg 2 [] [0, 3] [(0, (sv Aa p0 ca)), (3, (pt g3))] [] (fun fb => by kernel_rfl) rfl trivial ?_
 refine WL.done rfl (WX.next (WC.seq (WC.region ?_)))
 refine seg 2 [] [5, 6] [(5, (sv Aa p0 ca)), (6, (.func (.func 37) #[] #[(pt g3)]))] [] (fun fb => by kernel_rfl) rfl trivial ?_
 obtain ⟨t6, ht7, hf⟩ := bind_some hf
 refine WL.call (some 7) 36 #[(sv Aa p0 ca), (.func (.func 37) #[] #[(pt g3)])] (fun fb => by kernel_rfl) (slices_ContainsFunc_api_Frac_api_Frac_with_weight_all_1_of_weight_Valid_2_calls _ p0 Aa ca g3 t6 _ (hS5.rd 0) (hS5.ow 0) ht7) (fun v w8 hR9 => ?_)
 obtain ⟨rfl, hk_⟩ := hR9
 have hS10 := hS5.keepN hk_
 refine ⟨trivial, ?_⟩
 refine seg 5 [] [4] [(4, (bv (!t6)))] [] (fun fb => by kernel_rfl) rfl trivial ?_
 refine WL.done rfl (WX.next ?_)
 refine WC.ret ?_
 injection hf with hf
 subst hf
 exact WX.ret_ [] (bv (!t6)) [] (fun fb => by kernel_rfl) trivial ⟨_, rfl, rfl, hS10.keep⟩
theorem weight_prime_calls (k : Nat) (p0 : Int)  (r : Bool) (w : World)  (hf : weight_prime k p0 = some r) :
  CallsR Tryd.prog 30 #[(iv p0)] w (fun v w' => v = (bv r) ∧ Keeps NoS w w') := by
 have hS : St NoS w w [] [] := St.init (ro_nil _ _)
 refine enter 17 Tryd.func30 rfl Tryd.ntmps30 rfl ?_
 unfold weight_prime at hf
 refine WC.seq (WC.region ?_)
 refine seg 1 [] [0] [(0, (iv p0))] [] (fun fb => by kernel_rfl) rfl trivial ?_
 refine WL.done rfl (WX.next (WC.seq (WC.seq (WC.region ?_))))
 refine seg 1 [] [0, 3] [(0, (iv p0)), (3, (iv 2))] [] (fun fb => by kernel_rfl) rfl trivial ?_
 refine WL.done rfl (WX.next ?_)
 obtain ⟨x4, hx5, hf⟩ := bind_some hf
 refine WC.cutN (T := Unit) (fun t => [(0, (iv p0))]) (fun t w1 => St NoS w w1 [] [] ∧ x4 = .inr t) (fun Kx4 => ?_) ?_
 ·
  refine WC.block ?_
  refine WC.loop (T := Int) (fun t => [(0, (iv p0)), (3, (iv t))]) (fun n t w1 => St NoS w w1 [] [] ∧ weight_prime.l0 n t p0 = some x4) k 2 [0, 3] rfl ⟨(hS.subR []).sub [] (by decide), hx5⟩ ?_
  rintro k6 x3 w7 ⟨hS8, hl9⟩
  cases k6 with
  | zero => rw [weight_prime.l0] at hl9; cases hl9
  | succ k6 =>
   rw [weight_prime.l0] at hl9
   refine WC.seq (WC.seq (WC.region ?_))
   refine seg 5 [] [0, 3, 8] [(0, (iv p0)), (3, (iv x3)), (8, (bv (decide (w64 (x3 * x3) ≤ p0))))] [] (fun fb => by kernel_rfl) rfl trivial ?_
   refine WL.done rfl (WX.next ?_)
   rcases br_some hl9 with ⟨h10, hl9⟩ | ⟨h10, hl9⟩
   ·refine WC.condT2 (fun fb => by kernel_rfl) h10 ?_
    refine WC.skip (WX.next (WC.seq (WC.block (WC.seq (WC.region ?_)))))
    refine seg 2 [] [0, 3, 11, 12] [(0, (iv p0)), (3, (iv x3)), (11, (iv p0)), (12, (iv x3))] [] (fun fb => by kernel_rfl) rfl trivial ?_
    obtain ⟨h11, hl9⟩ := as_some hl9
    refine seg 4 [] [0, 3, 14] [(0, (iv p0)), (3, (iv x3)), (14, (bv ((Int.tmod p0 x3) == 0)))] [.ne x3] (fun fb => by kernel_rfl) rfl ⟨h11, trivial⟩ ?_
    refine WL.done rfl (WX.next ?_)
    rcases br_some hl9 with ⟨h12, hl9⟩ | ⟨h12, hl9⟩
    ·refine WC.condT2 (fun fb => by kernel_rfl) h12 ?_
     refine WC.seq (WC.region ?_)
     refine seg 1 [] [2] [(2, (bv false))] [] (fun fb => by kernel_rfl) rfl trivial ?_
     refine WL.done rfl (WX.next ?_)
     refine WC.ret ?_
     injection hl9 with hl9
     subst hl9
     injection hf with hf
     subst hf
     exact WX.blockR (WX.thenR (WX.thenR (WX.blockR (WX.thenR (WX.ret_ [] (bv false) [] (fun fb => by kernel_rfl) trivial ⟨_, rfl, rfl, hS8.keep⟩)))))
    refine WC.condF2 (fun fb => by kernel_rfl) h12 ?_
    refine WC.skip ?_
    refine WX.blockN (WX.next ?_)
    refine WC.region ?_
    refine seg 3 [] [0, 3] [(0, (iv p0)), (3, (iv (w64 (x3 + 1))))] [] (fun fb => by kernel_rfl) rfl trivial ?_
    refine WL.done rfl ?_
    exact WX.again k6 (Nat.lt_succ_self _) (w64 (x3 + 1)) [0, 3] rfl ⟨(hS8.subR []).sub [] (by decide), hl9⟩
   refine WC.condF2 (fun fb => by kernel_rfl) h10 ?_
   refine WC.exit ?_
   injection hl9 with hl9
   exact WX.thenX (WX.thenX (WX.blockHere (WX.to Kx4 () [0] rfl ⟨(hS8.subR []).sub [] (by decide), hl9.symm⟩)))
 rintro y16 w13 ⟨hS14, hq15⟩
 subst hq15
 have hf := sum_inr hf
 refine WX.next (WC.seq (WC.region ?_))
 refine seg 3 [] [2] [(2, (bv (decide (p0 ≥ 2))))] [] (fun fb => by kernel_rfl) rfl trivial ?_
 refine WL.done rfl (WX.next ?_)
 refine WC.ret ?_
 injection hf with hf
 subst hf
 exact WX.ret_ [] (bv (decide (p0 ≥ 2))) [] (fun fb => by kernel_rfl) trivial ⟨_, rfl, rfl, hS14.keep⟩
theorem slices_Index_int_int_calls (k : Nat) (p0 : List Int) (p1 : Int) (Aa : Option Addr) (ca : Nat) (r : Int) (w : World) (hR0 : RO NoS w (rowR encInt Aa ca p0)) (hf : slices_Index_int_int k p0 p1 = some r) :
  CallsR Tryd.prog 43 #[(sv Aa p0 ca), (iv p1)] w (fun v w' => v = (iv r) ∧ Keeps NoS w w') := by
 have hS : St NoS w w [rowR encInt Aa ca p0] [] := St.init (ro_cons hR0 (ro_nil _ _))
 refine enter 19 Tryd.func43 rfl Tryd.ntmps43 rfl ?_
 unfold slices_Index_int_int at hf
 refine WC.seq (WC.region ?_)
 refine seg 1 [] [0, 1] [(0, (sv Aa p0 ca)), (1, (iv p1))] [] (fun fb => by kernel_rfl) rfl trivial ?_
 refine WL.done rfl (WX.next (WC.seq (WC.seq (WC.region ?_))))
 refine seg 3 [] [0, 1, 7, 8] [(0, (sv Aa p0 ca)), (1, (iv p1)), (7, (iv (p0.length : Int))), (8, (iv 0))] [] (fun fb => by kernel_rfl) rfl trivial ?_
 refine WL.done rfl (WX.next ?_)
 obtain ⟨x4, hx5, hf⟩ := bind_some hf
 refine WC.cutN (T := Unit) (fun t => []) (fun t w1 => St NoS w w1 [rowR encInt Aa ca p0] [] ∧ x4 = .inr t) (fun Kx4 => ?_) ?_
 ·
  refine WC.block ?_
  refine WC.loop (T := Int) (fun t => [(0, (sv Aa p0 ca)), (1, (iv p1)), (7, (iv (p0.length : Int))), (8, (iv t))]) (fun n t w1 => St NoS w w1 [rowR encInt Aa ca p0] [] ∧ slices_Index_int_int.l0 n t p0 p1 = some x4) k 0 [0, 1, 7, 8] rfl ⟨(hS.subR [0]).sub [] (by decide), hx5⟩ ?_
  rintro k6 x3 w7 ⟨hS8, hl9⟩
  cases k6 with
  | zero => rw [slices_Index_int_int.l0] at hl9; cases hl9
  | succ k6 =>
   rw [slices_Index_int_int.l0] at hl9
   refine WC.seq (WC.region ?_)
   refine seg 1 [] [0, 1, 7, 8, 9] [(0, (sv Aa p0 ca)), (1, (iv p1)), (7, (iv (p0.length : Int))), (8, (iv x3)), (9, (bv (decide (x3 < (p0.length : Int)))))] [] (fun fb => by kernel_rfl) rfl trivial ?_
   refine WL.done rfl (WX.next (WC.seq ?_))
   rcases br_some hl9 with ⟨h10, hl9⟩ | ⟨h10, hl9⟩
   ·refine WC.condT2 (fun fb => by kernel_rfl) h10 ?_
    refine WC.skip (WX.next (WC.seq (WC.block (WC.seq (WC.region ?_)))))
    refine seg 2 [] [0, 1, 5, 7, 8] [(0, (sv Aa p0 ca)), (1, (iv p1)), (5, (iv x3)), (7, (iv (p0.length : Int))), (8, (iv x3))] [] (fun fb => by kernel_rfl) rfl trivial ?_
    refine WL.done rfl (WX.next (WC.seq (WC.region ?_)))
    refine seg 3 [] [0, 1, 5, 7, 8, 11, 12, 13] [(0, (sv Aa p0 ca)), (1, (iv p1)), (5, (iv x3)), (7, (iv (p0.length : Int))), (8, (iv x3)), (11, (iv p1)), (12, (sv Aa p0 ca)), (13, (iv x3))] [] (fun fb => by kernel_rfl) rfl trivial ?_
    obtain ⟨h11, hl9⟩ := as_some hl9
    refine seg 6 [.v (iv (rdD p0 x3 0))] [0, 1, 5, 7, 8, 16] [(0, (sv Aa p0 ca)), (1, (iv p1)), (5, (iv x3)), (7, (iv (p0.length : Int))), (8, (iv x3)), (16, (bv (p1 == (rdD p0 x3 0))))] [.idx Aa x3 p0.length, .cell ((adr Aa).add ((x3).toNat * 1)) (iv (rdD p0 x3 0))] (fun fb => by kernel_rfl) rfl ⟨rowR.adr (hS8.rd 0).1 h11.1 h11.2, rowR.cell (hS8.rd 0).1 0 h11.1 h11.2 0 rfl, trivial⟩ ?_
    refine WL.done rfl (WX.next ?_)
    rcases br_some hl9 with ⟨h12, hl9⟩ | ⟨h12, hl9⟩
    ·refine WC.condT2 (fun fb => by kernel_rfl) h12 ?_
     refine WC.seq (WC.region ?_)
     refine seg 2 [] [4] [(4, (iv x3))] [] (fun fb => by kernel_rfl) rfl trivial ?_
     refine WL.done rfl (WX.next ?_)
     refine WC.ret ?_
     injection hl9 with hl9
     subst hl9
     injection hf with hf
     subst hf
     exact WX.blockR (WX.thenR (WX.thenR (WX.blockR (WX.thenR (WX.ret_ [] (iv x3) [] (fun fb => by kernel_rfl) trivial ⟨_, rfl, rfl, hS8.keep⟩)))))
    refine WC.condF2 (fun fb => by kernel_rfl) h12 ?_
    refine WC.skip ?_
    refine WX.blockN (WX.next ?_)
    refine WC.region ?_
    refine seg 2 [] [0, 1, 7, 8] [(0, (sv Aa p0 ca)), (1, (iv p1)), (7, (iv (p0.length : Int))), (8, (iv (w64 (x3 + 1))))] [] (fun fb => by kernel_rfl) rfl trivial ?_
    refine WL.done rfl ?_
    exact WX.again k6 (Nat.lt_succ_self _) (w64 (x3 + 1)) [0, 1, 7, 8] rfl ⟨(hS8.subR [0]).sub [] (by decide), hl9⟩
   refine WC.condF2 (fun fb => by kernel_rfl) h10 ?_
   refine WC.exit ?_
   injection hl9 with hl9
   exact WX.thenX (WX.thenX (WX.blockHere (WX.to Kx4 () [] rfl ⟨(hS8.subR [0]).sub [] (by decide), hl9.symm⟩)))
 rintro y16 w13 ⟨hS14, hq15⟩
 subst hq15
 have hf := sum_inr hf
 refine WX.next (WC.seq (WC.region ?_))
 refine seg 1 [] [4] [(4, (iv (-1)))] [] (fun fb => by kernel_rfl) rfl trivial ?_
 refine WL.done rfl (WX.next ?_)
 refine WC.ret ?_
 injection hf with hf
 subst hf
 exact WX.ret_ [] (iv (-1)) [] (fun fb => by kernel_rfl) trivial ⟨_, rfl, rfl, hS14.keep⟩
theorem slices_Contains_int_int_calls (k : Nat) (p0 : List Int) (p1 : Int) (Aa : Option Addr) (ca : Nat) (r : Bool) (w : World) (hR0 : RO NoS w (rowR encInt Aa ca p0)) (hf : slices_Contains_int_int k p0 p1 = some r) :
  CallsR Tryd.prog 31 #[(sv Aa p0 ca), (iv p1)] w (fun v w' => v = (bv r) ∧ Keeps NoS w w') := by
 have hS : St NoS w w [rowR encInt Aa ca p0] [] := St.init (ro_cons hR0 (ro_nil _ _))
 refine enter 9 Tryd.func31 rfl Tryd.ntmps31 rfl ?_
 unfold slices_Contains_int_int at hf
 refine WC.seq (WC.region ?_)
 refine seg 1 [] [0, 1] [(0, (sv Aa p0 ca)), (1, (iv p1))] [] (fun fb => by kernel_rfl) rfl trivial ?_
 refine WL.done rfl (WX.next (WC.seq (WC.region ?_)))
 refine seg 2 [] [5, 6] [(5, (sv Aa p0 ca)), (6, (iv p1))] [] (fun fb => by kernel_rfl) rfl trivial ?_
 obtain ⟨t2, ht3, hf⟩ := bind_some hf
 refine WL.call (some 7) 43 #[(sv Aa p0 ca), (iv p1)] (fun fb => by kernel_rfl) (slices_Index_int_int_calls _ p0 p1 Aa ca t2 _ (hS.rd 0) ht3) (fun v w4 hR5 => ?_)
 obtain ⟨rfl, hk_⟩ := hR5
 have hS6 := hS.keepN hk_
 refine ⟨trivial, ?_⟩
 refine seg 5 [] [4] [(4, (bv (decide (t2 ≥ 0))))] [] (fun fb => by kernel_rfl) rfl trivial ?_
 refine WL.done rfl (WX.next ?_)
 refine WC.ret ?_
 injection hf with hf
 subst hf
 exact WX.ret_ [] (bv (decide (t2 ≥ 0))) [] (fun fb => by kernel_rfl) trivial ⟨_, rfl, rfl, hS6.keep⟩
theorem weight_Valid_calls (k : Nat) (p0 : List Tile) (p1 : Weights) (Aa : Option Addr) (ca : Nat) (Ab : Option Addr) (cb : Nat) (Ac : Option Addr) (cc : Nat) (Ad : Option Addr) (cd : Nat) (Ae : Option Addr) (ce : Nat) (Af : Option Addr) (cf : Nat) (r : Bool) (w : World) (hR0 : RO NoS w (rowR enc_Tile Aa ca p0)) (hR1 : RO NoS w (rowR enc_Frac Ab cb p1.Values)) (hR2 : RO NoS w (rowR enc_Frac Ac cc p1.Carries)) (hR3 : RO NoS w (rowR enc_Frac Ad cd p1.Factors)) (hR4 : RO NoS w (rowR encInt Ae ce p1.Primes)) (hR5 : RO NoS w (rowR encInt Af cf p1.Logs)) (hf : weight_Valid k p0 p1 = some r) :
  CallsR Tryd.prog 9 #[(sv Aa p0 ca), (.agg #[(sv Ab p1.Values cb), (sv Ac p1.Carries cc), (sv Ad p1.Factors cd), (sv Ae p1.Primes ce), (sv Af p1.Logs cf)])] w (fun v w' => v = (bv r) ∧ Keeps NoS w w') := by
 have hS : St NoS w w [rowR enc_Tile Aa ca p0, rowR enc_Frac Ab cb p1.Values, rowR enc_Frac Ac cc p1.Carries, rowR enc_Frac Ad cd p1.Factors, rowR encInt Ae ce p1.Primes, rowR encInt Af cf p1.Logs] [] := St.init (ro_cons hR0 (ro_cons hR1 (ro_cons hR2 (ro_cons hR3 (ro_cons hR4 (ro_cons hR5 (ro_nil _ _)))))))
 refine enter 122 Tryd.func9 rfl Tryd.ntmps9 rfl ?_
 unfold weight_Valid at hf
 refine WC.seq (WC.region ?_)
 refine WL.new hS 3 [] (fun g => (pt g)) (.cells #[(sv Ab p1.Values cb), (sv Ac p1.Carries cc), (sv Ad p1.Factors cd), (sv Ae p1.Primes ce), (sv Af p1.Logs cf)] 26 (0, 0)) [] (fun fb g => by kernel_rfl) trivial (fun g87 w88 hS89 => ?_)
 refine ⟨trivial, ?_⟩
 refine seg 2 [] [0, 3] [(0, (sv Aa p0 ca)), (3, (pt g87))] [] (fun fb => by kernel_rfl) rfl trivial ?_
 refine WL.done rfl (WX.next (WC.seq (WC.seq (WC.region ?_))))
 refine seg 1 [] [0, 3, 9] [(0, (sv Aa p0 ca)), (3, (pt g87)), (9, (sv Aa p0 ca))] [] (fun fb => by kernel_rfl) rfl trivial ?_
 obtain ⟨t6, ht7, hf⟩ := bind_some hf
 refine WL.call (some 10) 25 #[(sv Aa p0 ca)] (fun fb => by kernel_rfl) (tile_Valid_calls _ p0 Aa ca t6 _ (hS89.rd 0) ht7) (fun v w8 hR10 => ?_)
 obtain ⟨rfl, hk_⟩ := hR10
 have hS11 := hS89.keepN hk_
 refine ⟨trivial, ?_⟩
 refine seg 3 [] [0, 3, 11] [(0, (sv Aa p0 ca)), (3, (pt g87)), (11, (bv (!t6)))] [] (fun fb => by kernel_rfl) rfl trivial ?_
 refine WL.done rfl (WX.next ?_)
 rcases br_some hf with ⟨h12, hf⟩ | ⟨h12, hf⟩
 ·refine WC.condT2 (fun fb => by kernel_rfl) h12 ?_
  refine WC.seq (WC.region ?_)
  refine seg 1 [] [4] [(4, (bv false))] [] (fun fb => by kernel_rfl) rfl trivial ?_
  refine WL.done rfl (WX.next ?_)
  refine WC.ret ?_
  injection hf with hf
  subst hf
  exact WX.thenR (WX.ret_ [] (bv false) [] (fun fb => by kernel_rfl) trivial ⟨_, rfl, rfl, hS11.keep⟩)
 refine WC.condF2 (fun fb => by kernel_rfl) h12 ?_
 refine WC.skip (WX.next (WC.seq (WC.region ?_)))
 refine seg 1 [] [0, 3, 13] [(0, (sv Aa p0 ca)), (3, (pt g87)), (13, (sv Aa p0 ca))] [] (fun fb => by kernel_rfl) rfl trivial ?_
 obtain ⟨t13, ht14, hf⟩ := bind_some hf
 refine WL.call (some 14) 26 #[(sv Aa p0 ca)] (fun fb => by kernel_rfl) (weight_needed_calls _ p0 Aa ca t13 _ (hS11.rd 0) ht14) (fun v w15 hR16 => ?_)
 obtain ⟨rfl, hk_⟩ := hR16
 have hS17 := hS11.keepN hk_
 refine ⟨trivial, ?_⟩
 refine seg 7 [] [0, 3, 5, 6] [(0, (sv Aa p0 ca)), (3, (pt g87)), (5, (iv t13.1)), (6, (iv t13.2))] [] (fun fb => by kernel_rfl) rfl trivial ?_
 refine WL.done rfl (WX.next (WC.seq (WC.seq (WC.region ?_))))
 refine seg 6 [.v (sv Ab p1.Values cb)] [0, 3, 6, 22] [(0, (sv Aa p0 ca)), (3, (pt g87)), (6, (iv t13.2)), (22, (bv ((p1.Values.length : Int) != t13.1)))] [.cell ⟨g87, 0, none⟩ (sv Ab p1.Values cb)] (fun fb => by kernel_rfl) rfl ⟨hS17.cell 0 rfl 0 rfl, trivial⟩ ?_
 refine WL.cutV (T := Bool) 12 (fun t => [(28, (bv t)), (0, (sv Aa p0 ca)), (3, (pt g87))]) (fun t => (((p1.Values.length : Int) != t13.1) || ((p1.Carries.length : Int) != t13.2)) = t) (fun K => ?_) ?_
 ·
  rcases Bool.eq_false_or_eq_true ((p1.Values.length : Int) != t13.1) with h18 | h18
  ·
   refine WL.setB 22 h18 rfl ?_
   refine seg 12 [] [0, 3, 28] [(0, (sv Aa p0 ca)), (3, (pt g87)), (28, (bv true))] [] (fun fb => by kernel_rfl) rfl trivial ?_
   exact WL.toV K true [28, 0, 3] rfl (by first | (rw [h18]; done) | (rw [h18]; rfl))
  refine WL.setB 22 h18 rfl ?_
  refine seg 12 [.v (sv Ac p1.Carries cc)] [0, 3, 28] [(0, (sv Aa p0 ca)), (3, (pt g87)), (28, (bv ((p1.Carries.length : Int) != t13.2)))] [.cell ⟨g87, 1, none⟩ (sv Ac p1.Carries cc)] (fun fb => by kernel_rfl) rfl ⟨hS17.cell 0 rfl 1 rfl, trivial⟩ ?_
  exact WL.toV K ((p1.Carries.length : Int) != t13.2) [28, 0, 3] rfl (by first | (rw [h18]; done) | (rw [h18]; rfl))
 rintro b19 rfl
 refine seg 13 [] [0, 3, 29] [(0, (sv Aa p0 ca)), (3, (pt g87)), (29, (bv (((p1.Values.length : Int) != t13.1) || ((p1.Carries.length : Int) != t13.2))))] [] (fun fb => by kernel_rfl) rfl trivial ?_
 refine WL.cutV (T := Bool) 20 (fun t => [(36, (bv t)), (3, (pt g87))]) (fun t => ((((p1.Values.length : Int) != t13.1) || ((p1.Carries.length : Int) != t13.2)) || ((p1.Factors.length : Int) != (p0.length : Int))) = t) (fun K => ?_) ?_
 ·
  rcases Bool.eq_false_or_eq_true (((p1.Values.length : Int) != t13.1) || ((p1.Carries.length : Int) != t13.2)) with h20 | h20
  ·
   refine WL.setB 29 h20 rfl ?_
   refine seg 20 [] [3, 36] [(3, (pt g87)), (36, (bv true))] [] (fun fb => by kernel_rfl) rfl trivial ?_
   exact WL.toV K true [36, 3] rfl (by first | (rw [h20]; done) | (rw [h20]; rfl))
  refine WL.setB 29 h20 rfl ?_
  refine seg 20 [.v (sv Ad p1.Factors cd)] [3, 36] [(3, (pt g87)), (36, (bv ((p1.Factors.length : Int) != (p0.length : Int))))] [.cell ⟨g87, 2, none⟩ (sv Ad p1.Factors cd)] (fun fb => by kernel_rfl) rfl ⟨hS17.cell 0 rfl 2 rfl, trivial⟩ ?_
  exact WL.toV K ((p1.Factors.length : Int) != (p0.length : Int)) [36, 3] rfl (by first | (rw [h20]; done) | (rw [h20]; rfl))
 rintro b21 rfl
 refine seg 21 [] [3, 37] [(3, (pt g87)), (37, (bv ((((p1.Values.length : Int) != t13.1) || ((p1.Carries.length : Int) != t13.2)) || ((p1.Factors.length : Int) != (p0.length : Int)))))] [] (fun fb => by kernel_rfl) rfl trivial ?_
 refine WL.cutV (T := Bool) 26 (fun t => [(42, (bv t)), (3, (pt g87))]) (fun t => (((((p1.Values.length : Int) != t13.1) || ((p1.Carries.length : Int) != t13.2)) || ((p1.Factors.length : Int) != (p0.length : Int))) || (decide ((p1.Primes.length : Int) > 12))) = t) (fun K => ?_) ?_
 ·
  rcases Bool.eq_false_or_eq_true ((((p1.Values.length : Int) != t13.1) || ((p1.Carries.length : Int) != t13.2)) || ((p1.Factors.length : Int) != (p0.length : Int))) with h22 | h22
  ·
   refine WL.setB 37 h22 rfl ?_
   refine seg 26 [] [3, 42] [(3, (pt g87)), (42, (bv true))] [] (fun fb => by kernel_rfl) rfl trivial ?_
   exact WL.toV K true [42, 3] rfl (by first | (rw [h22]; done) | (rw [h22]; rfl))
  refine WL.setB 37 h22 rfl ?_
  refine seg 26 [.v (sv Ae p1.Primes ce)] [3, 42] [(3, (pt g87)), (42, (bv (decide ((p1.Primes.length : Int) > 12))))] [.cell ⟨g87, 3, none⟩ (sv Ae p1.Primes ce)] (fun fb => by kernel_rfl) rfl ⟨hS17.cell 0 rfl 3 rfl, trivial⟩ ?_
  exact WL.toV K (decide ((p1.Primes.length : Int) > 12)) [42, 3] rfl (by first | (rw [h22]; done) | (rw [h22]; rfl))
 rintro b23 rfl
 refine seg 27 [] [3, 43] [(3, (pt g87)), (43, (bv (((((p1.Values.length : Int) != t13.1) || ((p1.Carries.length : Int) != t13.2)) || ((p1.Factors.length : Int) != (p0.length : Int))) || (decide ((p1.Primes.length : Int) > 12)))))] [] (fun fb => by kernel_rfl) rfl trivial ?_
 refine WL.cutV (T := Bool) 35 (fun t => [(51, (bv t)), (3, (pt g87))]) (fun t => ((((((p1.Values.length : Int) != t13.1) || ((p1.Carries.length : Int) != t13.2)) || ((p1.Factors.length : Int) != (p0.length : Int))) || (decide ((p1.Primes.length : Int) > 12))) || ((p1.Logs.length : Int) != (p1.Primes.length : Int))) = t) (fun K => ?_) ?_
 ·
  rcases Bool.eq_false_or_eq_true (((((p1.Values.length : Int) != t13.1) || ((p1.Carries.length : Int) != t13.2)) || ((p1.Factors.length : Int) != (p0.length : Int))) || (decide ((p1.Primes.length : Int) > 12))) with h24 | h24
  ·
   refine WL.setB 43 h24 rfl ?_
   refine seg 35 [] [3, 51] [(3, (pt g87)), (51, (bv true))] [] (fun fb => by kernel_rfl) rfl trivial ?_
   exact WL.toV K true [51, 3] rfl (by first | (rw [h24]; done) | (rw [h24]; rfl))
  refine WL.setB 43 h24 rfl ?_
  refine seg 35 [.v (sv Af p1.Logs cf), .v (sv Ae p1.Primes ce)] [3, 51] [(3, (pt g87)), (51, (bv ((p1.Logs.length : Int) != (p1.Primes.length : Int))))] [.cell ⟨g87, 4, none⟩ (sv Af p1.Logs cf), .cell ⟨g87, 3, none⟩ (sv Ae p1.Primes ce)] (fun fb => by kernel_rfl) rfl ⟨hS17.cell 0 rfl 4 rfl, hS17.cell 0 rfl 3 rfl, trivial⟩ ?_
  exact WL.toV K ((p1.Logs.length : Int) != (p1.Primes.length : Int)) [51, 3] rfl (by first | (rw [h24]; done) | (rw [h24]; rfl))
 rintro b25 rfl
 refine WL.done rfl (WX.next ?_)
 rcases br_some hf with ⟨h26, hf⟩ | ⟨h26, hf⟩
 ·refine WC.condT2 (fun fb => by kernel_rfl) h26 ?_
  refine WC.seq (WC.region ?_)
  refine seg 1 [] [4] [(4, (bv false))] [] (fun fb => by kernel_rfl) rfl trivial ?_
  refine WL.done rfl (WX.next ?_)
  refine WC.ret ?_
  injection hf with hf
  subst hf
  exact WX.thenR (WX.ret_ [] (bv false) [] (fun fb => by kernel_rfl) trivial ⟨_, rfl, rfl, hS17.keep⟩)
 refine WC.condF2 (fun fb => by kernel_rfl) h26 ?_
 refine WC.skip (WX.next (WC.seq (WC.seq (WC.region ?_))))
 refine seg 2 [.v (sv Ab p1.Values cb)] [3, 53] [(3, (pt g87)), (53, (sv Ab p1.Values cb))] [.cell ⟨g87, 0, none⟩ (sv Ab p1.Values cb)] (fun fb => by kernel_rfl) rfl ⟨hS17.cell 0 rfl 0 rfl, trivial⟩ ?_
 obtain ⟨t27, ht28, hf⟩ := bind_some hf
 refine WL.call (some 54) 17 #[(sv Ab p1.Values cb), (.func (.func 27) #[] #[])] (fun fb => by kernel_rfl) (weight_all_with_weight_fraction_valid_calls _ p1.Values Ab cb t27 _ (hS17.rd 1) ht28) (fun v w29 hR30 => ?_)
 obtain ⟨rfl, hk_⟩ := hR30
 have hS31 := hS17.keepN hk_
 refine ⟨trivial, ?_⟩
 refine seg 5 [] [3, 56] [(3, (pt g87)), (56, (bv (!t27)))] [] (fun fb => by kernel_rfl) rfl trivial ?_
 obtain ⟨x32, hx33, hf⟩ := bind_some hf
 refine WL.cutW (T := Bool) 10 (fun t => [(3, (pt g87)), (61, (bv t))]) (fun t w1 => (St NoS w w1 [rowR enc_Tile Aa ca p0, rowR enc_Frac Ab cb p1.Values, rowR enc_Frac Ac cc p1.Carries, rowR enc_Frac Ad cd p1.Factors, rowR encInt Ae ce p1.Primes, rowR encInt Af cf p1.Logs] [blk g87 (.cells #[(sv Ab p1.Values cb), (sv Ac p1.Carries cc), (sv Ad p1.Factors cd), (sv Ae p1.Primes ce), (sv Af p1.Logs cf)] 26 (0, 0))] ∧ x32 = t) ∧ CellsOK [] w1) (fun K => ?_) ?_
 ·
  rcases br_some hx33 with ⟨h34, hx33⟩ | ⟨h34, hx33⟩
  ·
   refine WL.setB 56 h34 rfl ?_
   refine seg 10 [] [3, 61] [(3, (pt g87)), (61, (bv true))] [] (fun fb => by kernel_rfl) rfl trivial ?_
   injection hx33 with hx33
   exact WL.to K true [3, 61] rfl ⟨⟨(hS31.subR [0, 1, 2, 3, 4, 5]).sub [0] (by decide), hx33.symm⟩, trivial⟩
  refine WL.setB 56 h34 rfl ?_
  refine seg 7 [.v (sv Ac p1.Carries cc)] [3, 56, 58] [(3, (pt g87)), (56, (bv false)), (58, (sv Ac p1.Carries cc))] [.cell ⟨g87, 1, none⟩ (sv Ac p1.Carries cc)] (fun fb => by kernel_rfl) rfl ⟨hS31.cell 0 rfl 1 rfl, trivial⟩ ?_
  obtain ⟨t35, ht36, hx33⟩ := bind_some hx33
  refine WL.call (some 59) 17 #[(sv Ac p1.Carries cc), (.func (.func 27) #[] #[])] (fun fb => by kernel_rfl) (weight_all_with_weight_fraction_valid_calls _ p1.Carries Ac cc t35 _ (hS31.rd 2) ht36) (fun v w37 hR38 => ?_)
  obtain ⟨rfl, hk_⟩ := hR38
  have hS39 := hS31.keepN hk_
  refine ⟨trivial, ?_⟩
  refine seg 10 [] [3, 61] [(3, (pt g87)), (61, (bv (!t35)))] [] (fun fb => by kernel_rfl) rfl trivial ?_
  injection hx33 with hx33
  exact WL.to K (!t35) [3, 61] rfl ⟨⟨(hS39.subR [0, 1, 2, 3, 4, 5]).sub [0] (by decide), hx33.symm⟩, trivial⟩
 rintro y40 w42 ⟨⟨hS43, hq41⟩, hF44⟩
 subst hq41
 refine seg 11 [] [3, 62] [(3, (pt g87)), (62, (bv x32))] [] (fun fb => by kernel_rfl) rfl trivial ?_
 obtain ⟨x45, hx46, hf⟩ := bind_some hf
 refine WL.cutW (T := Bool) 16 (fun t => [(3, (pt g87)), (67, (bv t))]) (fun t w1 => (St NoS w w1 [rowR enc_Tile Aa ca p0, rowR enc_Frac Ab cb p1.Values, rowR enc_Frac Ac cc p1.Carries, rowR enc_Frac Ad cd p1.Factors, rowR encInt Ae ce p1.Primes, rowR encInt Af cf p1.Logs] [blk g87 (.cells #[(sv Ab p1.Values cb), (sv Ac p1.Carries cc), (sv Ad p1.Factors cd), (sv Ae p1.Primes ce), (sv Af p1.Logs cf)] 26 (0, 0))] ∧ x45 = t) ∧ CellsOK [] w1) (fun K => ?_) ?_
 ·
  rcases br_some hx46 with ⟨h47, hx46⟩ | ⟨h47, hx46⟩
  ·
   refine WL.setB 62 h47 rfl ?_
   refine seg 16 [] [3, 67] [(3, (pt g87)), (67, (bv true))] [] (fun fb => by kernel_rfl) rfl trivial ?_
   injection hx46 with hx46
   exact WL.to K true [3, 67] rfl ⟨⟨(hS43.subR [0, 1, 2, 3, 4, 5]).sub [0] (by decide), hx46.symm⟩, trivial⟩
  refine WL.setB 62 h47 rfl ?_
  refine seg 13 [.v (sv Ad p1.Factors cd)] [3, 62, 64] [(3, (pt g87)), (62, (bv false)), (64, (sv Ad p1.Factors cd))] [.cell ⟨g87, 2, none⟩ (sv Ad p1.Factors cd)] (fun fb => by kernel_rfl) rfl ⟨hS43.cell 0 rfl 2 rfl, trivial⟩ ?_
  obtain ⟨t48, ht49, hx46⟩ := bind_some hx46
  refine WL.call (some 65) 17 #[(sv Ad p1.Factors cd), (.func (.func 27) #[] #[])] (fun fb => by kernel_rfl) (weight_all_with_weight_fraction_valid_calls _ p1.Factors Ad cd t48 _ (hS43.rd 3) ht49) (fun v w50 hR51 => ?_)
  obtain ⟨rfl, hk_⟩ := hR51
  have hS52 := hS43.keepN hk_
  refine ⟨trivial, ?_⟩
  refine seg 16 [] [3, 67] [(3, (pt g87)), (67, (bv (!t48)))] [] (fun fb => by kernel_rfl) rfl trivial ?_
  injection hx46 with hx46
  exact WL.to K (!t48) [3, 67] rfl ⟨⟨(hS52.subR [0, 1, 2, 3, 4, 5]).sub [0] (by decide), hx46.symm⟩, trivial⟩
 rintro y53 w55 ⟨⟨hS56, hq54⟩, hF57⟩
 subst hq54
 refine WL.done rfl (WX.next ?_)
 rcases br_some hf with ⟨h58, hf⟩ | ⟨h58, hf⟩
 ·refine WC.condT2 (fun fb => by kernel_rfl) h58 ?_
  refine WC.seq (WC.region ?_)
  refine seg 1 [] [4] [(4, (bv false))] [] (fun fb => by kernel_rfl) rfl trivial ?_
  refine WL.done rfl (WX.next ?_)
  refine WC.ret ?_
  injection hf with hf
  subst hf
  exact WX.thenR (WX.ret_ [] (bv false) [] (fun fb => by kernel_rfl) trivial ⟨_, rfl, rfl, hS56.keep⟩)
 refine WC.condF2 (fun fb => by kernel_rfl) h58 ?_
 refine WC.skip (WX.next (WC.seq (WC.seq (WC.region ?_))))
 refine seg 2 [.v (sv Ab p1.Values cb)] [3, 69] [(3, (pt g87)), (69, (sv Ab p1.Values cb))] [.cell ⟨g87, 0, none⟩ (sv Ab p1.Values cb)] (fun fb => by kernel_rfl) rfl ⟨hS56.cell 0 rfl 0 rfl, trivial⟩ ?_
 obtain ⟨t59, ht60, hf⟩ := bind_some hf
 refine WL.call (some 70) 17 #[(sv Ab p1.Values cb), (.func (.func 28) #[] #[])] (fun fb => by kernel_rfl) (weight_all_with_weight_Valid_1_calls _ p1.Values Ab cb t59 _ (hS56.rd 1) ht60) (fun v w61 hR62 => ?_)
 obtain ⟨rfl, hk_⟩ := hR62
 have hS63 := hS56.keepN hk_
 refine ⟨trivial, ?_⟩
 refine seg 5 [] [3, 72] [(3, (pt g87)), (72, (bv (!t59)))] [] (fun fb => by kernel_rfl) rfl trivial ?_
 obtain ⟨x65, hx66, hf⟩ := bind_some hf
 refine WL.cutW (T := Bool) 10 (fun t => [(3, (pt g87)), (77, (bv t))]) (fun t w1 => (St NoS w w1 [rowR enc_Tile Aa ca p0, rowR enc_Frac Ab cb p1.Values, rowR enc_Frac Ac cc p1.Carries, rowR enc_Frac Ad cd p1.Factors, rowR encInt Ae ce p1.Primes, rowR encInt Af cf p1.Logs] [blk g87 (.cells #[(sv Ab p1.Values cb), (sv Ac p1.Carries cc), (sv Ad p1.Factors cd), (sv Ae p1.Primes ce), (sv Af p1.Logs cf)] 26 (0, 0))] ∧ x65 = t) ∧ CellsOK [] w1) (fun K => ?_) ?_
 ·
  rcases br_some hx66 with ⟨h67, hx66⟩ | ⟨h67, hx66⟩
  ·
   refine WL.setB 72 h67 rfl ?_
   refine seg 10 [] [3, 77] [(3, (pt g87)), (77, (bv true))] [] (fun fb => by kernel_rfl) rfl trivial ?_
   injection hx66 with hx66
   exact WL.to K true [3, 77] rfl ⟨⟨(hS63.subR [0, 1, 2, 3, 4, 5]).sub [0] (by decide), hx66.symm⟩, trivial⟩
  refine WL.setB 72 h67 rfl ?_
  refine seg 7 [.v (sv Ad p1.Factors cd)] [3, 72, 74] [(3, (pt g87)), (72, (bv false)), (74, (sv Ad p1.Factors cd))] [.cell ⟨g87, 2, none⟩ (sv Ad p1.Factors cd)] (fun fb => by kernel_rfl) rfl ⟨hS63.cell 0 rfl 2 rfl, trivial⟩ ?_
  obtain ⟨t68, ht69, hx66⟩ := bind_some hx66
  refine WL.call (some 75) 17 #[(sv Ad p1.Factors cd), (.func (.func 29) #[] #[])] (fun fb => by kernel_rfl) (weight_all_with_weight_Valid_2_calls _ p1.Factors Ad cd t68 _ (hS63.rd 3) ht69) (fun v w70 hR71 => ?_)
  obtain ⟨rfl, hk_⟩ := hR71
  have hS72 := hS63.keepN hk_
  refine ⟨trivial, ?_⟩
  refine seg 10 [] [3, 77] [(3, (pt g87)), (77, (bv (!t68)))] [] (fun fb => by kernel_rfl) rfl trivial ?_
  injection hx66 with hx66
  exact WL.to K (!t68) [3, 77] rfl ⟨⟨(hS72.subR [0, 1, 2, 3, 4, 5]).sub [0] (by decide), hx66.symm⟩, trivial⟩
 rintro y73 w75 ⟨⟨hS76, hq74⟩, hF77⟩
 subst hq74
 refine WL.done rfl (WX.next ?_)
 rcases br_some hf with ⟨h78, hf⟩ | ⟨h78, hf⟩
 ·refine WC.condT2 (fun fb => by kernel_rfl) h78 ?_
  refine WC.seq (WC.region ?_)
  refine seg 1 [] [4] [(4, (bv false))] [] (fun fb => by kernel_rfl) rfl trivial ?_
  refine WL.done rfl (WX.next ?_)
  refine WC.ret ?_
  injection hf with hf
  subst hf
  exact WX.thenR (WX.ret_ [] (bv false) [] (fun fb => by kernel_rfl) trivial ⟨_, rfl, rfl, hS76.keep⟩)
 refine WC.condF2 (fun fb => by kernel_rfl) h78 ?_
 refine WC.skip (WX.next (WC.seq (WC.seq (WC.region ?_))))
 refine seg 4 [.v (sv Ae p1.Primes ce)] [3, 79, 80, 81] [(3, (pt g87)), (79, (sv Ae p1.Primes ce)), (80, (iv (p1.Primes.length : Int))), (81, (iv 0))] [.cell ⟨g87, 3, none⟩ (sv Ae p1.Primes ce)] (fun fb => by kernel_rfl) rfl ⟨hS76.cell 0 rfl 3 rfl, trivial⟩ ?_
 refine WL.done rfl (WX.next ?_)
 obtain ⟨x80, hx81, hf⟩ := bind_some hf
 refine WC.cutN (T := Unit) (fun t => []) (fun t w1 => St NoS w w1 [rowR enc_Tile Aa ca p0, rowR enc_Frac Ab cb p1.Values, rowR enc_Frac Ac cc p1.Carries, rowR enc_Frac Ad cd p1.Factors, rowR encInt Ae ce p1.Primes, rowR encInt Af cf p1.Logs] [] ∧ x80 = .inr t) (fun Kx80 => ?_) ?_
 ·
  refine WC.block ?_
  refine WC.loop (T := Int) (fun t => [(3, (pt g87)), (79, (sv Ae p1.Primes ce)), (80, (iv (p1.Primes.length : Int))), (81, (iv t))]) (fun n t w1 => St NoS w w1 [rowR enc_Tile Aa ca p0, rowR enc_Frac Ab cb p1.Values, rowR enc_Frac Ac cc p1.Carries, rowR enc_Frac Ad cd p1.Factors, rowR encInt Ae ce p1.Primes, rowR encInt Af cf p1.Logs] [blk g87 (.cells #[(sv Ab p1.Values cb), (sv Ac p1.Carries cc), (sv Ad p1.Factors cd), (sv Ae p1.Primes ce), (sv Af p1.Logs cf)] 26 (0, 0))] ∧ weight_Valid.l0 n t p1 = some x80) k 0 [3, 79, 80, 81] rfl ⟨(hS76.subR [0, 1, 2, 3, 4, 5]).sub [0] (by decide), hx81⟩ ?_
  rintro k82 x79 w83 ⟨hS84, hl85⟩
  cases k82 with
  | zero => rw [weight_Valid.l0] at hl85; cases hl85
  | succ k82 =>
   rw [weight_Valid.l0] at hl85
   refine WC.seq (WC.region ?_)
   refine seg 1 [] [3, 79, 80, 81, 82] [(3, (pt g87)), (79, (sv Ae p1.Primes ce)), (80, (iv (p1.Primes.length : Int))), (81, (iv x79)), (82, (bv (decide (x79 < (p1.Primes.length : Int)))))] [] (fun fb => by kernel_rfl) rfl trivial ?_
   refine WL.done rfl (WX.next (WC.seq ?_))
   rcases br_some hl85 with ⟨h86, hl85⟩ | ⟨h86, hl85⟩
   ·refine WC.condT2 (fun fb => by kernel_rfl) h86 ?_
    refine WC.skip (WX.next (WC.seq (WC.block (WC.seq (WC.region ?_)))))
    refine seg 1 [] [3, 79, 80, 81, 83] [(3, (pt g87)), (79, (sv Ae p1.Primes ce)), (80, (iv (p1.Primes.length : Int))), (81, (iv x79)), (83, (iv x79))] [] (fun fb => by kernel_rfl) rfl trivial ?_
    obtain ⟨h90, hl85⟩ := as_some hl85
    refine seg 5 [.v (iv (rdD p1.Primes x79 0))] [3, 7, 8, 79, 80, 81] [(3, (pt g87)), (7, (iv x79)), (8, (iv (rdD p1.Primes x79 0))), (79, (sv Ae p1.Primes ce)), (80, (iv (p1.Primes.length : Int))), (81, (iv x79))] [.idx Ae x79 p1.Primes.length, .cell ((adr Ae).add ((x79).toNat * 1)) (iv (rdD p1.Primes x79 0))] (fun fb => by kernel_rfl) rfl ⟨rowR.adr (hS84.rd 4).1 h90.1 h90.2, rowR.cell (hS84.rd 4).1 0 h90.1 h90.2 0 rfl, trivial⟩ ?_
    refine WL.done rfl (WX.next (WC.seq (WC.region ?_)))
    refine seg 3 [] [3, 7, 8, 79, 80, 81, 88] [(3, (pt g87)), (7, (iv x79)), (8, (iv (rdD p1.Primes x79 0))), (79, (sv Ae p1.Primes ce)), (80, (iv (p1.Primes.length : Int))), (81, (iv x79)), (88, (bv (decide ((rdD p1.Primes x79 0) < 2))))] [] (fun fb => by kernel_rfl) rfl trivial ?_
    refine WL.cutV (T := Bool) 6 (fun t => [(91, (bv t)), (3, (pt g87)), (7, (iv x79)), (8, (iv (rdD p1.Primes x79 0))), (79, (sv Ae p1.Primes ce)), (80, (iv (p1.Primes.length : Int))), (81, (iv x79))]) (fun t => ((decide ((rdD p1.Primes x79 0) < 2)) || (decide ((rdD p1.Primes x79 0) > 1000000))) = t) (fun K => ?_) ?_
    ·
     rcases Bool.eq_false_or_eq_true (decide ((rdD p1.Primes x79 0) < 2)) with h91 | h91
     ·
      refine WL.setB 88 h91 rfl ?_
      refine seg 6 [] [3, 7, 8, 79, 80, 81, 91] [(3, (pt g87)), (7, (iv x79)), (8, (iv (rdD p1.Primes x79 0))), (79, (sv Ae p1.Primes ce)), (80, (iv (p1.Primes.length : Int))), (81, (iv x79)), (91, (bv true))] [] (fun fb => by kernel_rfl) rfl trivial ?_
      exact WL.toV K true [91, 3, 7, 8, 79, 80, 81] rfl (by first | (rw [h91]; done) | (rw [h91]; rfl))
     refine WL.setB 88 h91 rfl ?_
     refine seg 6 [] [3, 7, 8, 79, 80, 81, 91] [(3, (pt g87)), (7, (iv x79)), (8, (iv (rdD p1.Primes x79 0))), (79, (sv Ae p1.Primes ce)), (80, (iv (p1.Primes.length : Int))), (81, (iv x79)), (91, (bv (decide ((rdD p1.Primes x79 0) > 1000000))))] [] (fun fb => by kernel_rfl) rfl trivial ?_
     exact WL.toV K (decide ((rdD p1.Primes x79 0) > 1000000)) [91, 3, 7, 8, 79, 80, 81] rfl (by first | (rw [h91]; done) | (rw [h91]; rfl))
    rintro b92 rfl
    refine seg 7 [] [3, 7, 8, 79, 80, 81, 92] [(3, (pt g87)), (7, (iv x79)), (8, (iv (rdD p1.Primes x79 0))), (79, (sv Ae p1.Primes ce)), (80, (iv (p1.Primes.length : Int))), (81, (iv x79)), (92, (bv ((decide ((rdD p1.Primes x79 0) < 2)) || (decide ((rdD p1.Primes x79 0) > 1000000)))))] [] (fun fb => by kernel_rfl) rfl trivial ?_
    obtain ⟨x93, hx94, hl85⟩ := bind_some hl85
    refine WL.cutW (T := Bool) 11 (fun t => [(3, (pt g87)), (7, (iv x79)), (8, (iv (rdD p1.Primes x79 0))), (79, (sv Ae p1.Primes ce)), (80, (iv (p1.Primes.length : Int))), (81, (iv x79)), (96, (bv t))]) (fun t w1 => (St NoS w w1 [rowR enc_Tile Aa ca p0, rowR enc_Frac Ab cb p1.Values, rowR enc_Frac Ac cc p1.Carries, rowR enc_Frac Ad cd p1.Factors, rowR encInt Ae ce p1.Primes, rowR encInt Af cf p1.Logs] [blk g87 (.cells #[(sv Ab p1.Values cb), (sv Ac p1.Carries cc), (sv Ad p1.Factors cd), (sv Ae p1.Primes ce), (sv Af p1.Logs cf)] 26 (0, 0))] ∧ x93 = t) ∧ CellsOK [] w1) (fun K => ?_) ?_
    ·
     rcases br_some hx94 with ⟨h95, hx94⟩ | ⟨h95, hx94⟩
     ·
      refine WL.setB 92 h95 rfl ?_
      refine seg 11 [] [3, 7, 8, 79, 80, 81, 96] [(3, (pt g87)), (7, (iv x79)), (8, (iv (rdD p1.Primes x79 0))), (79, (sv Ae p1.Primes ce)), (80, (iv (p1.Primes.length : Int))), (81, (iv x79)), (96, (bv true))] [] (fun fb => by kernel_rfl) rfl trivial ?_
      injection hx94 with hx94
      exact WL.to K true [3, 7, 8, 79, 80, 81, 96] rfl ⟨⟨(hS84.subR [0, 1, 2, 3, 4, 5]).sub [0] (by decide), hx94.symm⟩, trivial⟩
     refine WL.setB 92 h95 rfl ?_
     refine seg 8 [] [3, 7, 8, 79, 80, 81, 92, 93] [(3, (pt g87)), (7, (iv x79)), (8, (iv (rdD p1.Primes x79 0))), (79, (sv Ae p1.Primes ce)), (80, (iv (p1.Primes.length : Int))), (81, (iv x79)), (92, (bv false)), (93, (iv (rdD p1.Primes x79 0)))] [] (fun fb => by kernel_rfl) rfl trivial ?_
     obtain ⟨t96, ht97, hx94⟩ := bind_some hx94
     refine WL.call (some 94) 30 #[(iv (rdD p1.Primes x79 0))] (fun fb => by kernel_rfl) (weight_prime_calls _ (rdD p1.Primes x79 0) t96 _ ht97) (fun v w98 hR99 => ?_)
     obtain ⟨rfl, hk_⟩ := hR99
     have hS100 := hS84.keepN hk_
     refine ⟨trivial, ?_⟩
     refine seg 11 [] [3, 7, 8, 79, 80, 81, 96] [(3, (pt g87)), (7, (iv x79)), (8, (iv (rdD p1.Primes x79 0))), (79, (sv Ae p1.Primes ce)), (80, (iv (p1.Primes.length : Int))), (81, (iv x79)), (96, (bv (!t96)))] [] (fun fb => by kernel_rfl) rfl trivial ?_
     injection hx94 with hx94
     exact WL.to K (!t96) [3, 7, 8, 79, 80, 81, 96] rfl ⟨⟨(hS100.subR [0, 1, 2, 3, 4, 5]).sub [0] (by decide), hx94.symm⟩, trivial⟩
    rintro y101 w103 ⟨⟨hS104, hq102⟩, hF105⟩
    subst hq102
    refine seg 12 [] [3, 7, 8, 79, 80, 81, 97] [(3, (pt g87)), (7, (iv x79)), (8, (iv (rdD p1.Primes x79 0))), (79, (sv Ae p1.Primes ce)), (80, (iv (p1.Primes.length : Int))), (81, (iv x79)), (97, (bv x93))] [] (fun fb => by kernel_rfl) rfl trivial ?_
    obtain ⟨x106, hx107, hl85⟩ := bind_some hl85
    refine WL.cutW (T := Bool) 19 (fun t => [(3, (pt g87)), (7, (iv x79)), (79, (sv Ae p1.Primes ce)), (80, (iv (p1.Primes.length : Int))), (81, (iv x79)), (104, (bv t))]) (fun t w1 => (St NoS w w1 [rowR enc_Tile Aa ca p0, rowR enc_Frac Ab cb p1.Values, rowR enc_Frac Ac cc p1.Carries, rowR enc_Frac Ad cd p1.Factors, rowR encInt Ae ce p1.Primes, rowR encInt Af cf p1.Logs] [blk g87 (.cells #[(sv Ab p1.Values cb), (sv Ac p1.Carries cc), (sv Ad p1.Factors cd), (sv Ae p1.Primes ce), (sv Af p1.Logs cf)] 26 (0, 0))] ∧ x106 = t) ∧ CellsOK [] w1) (fun K => ?_) ?_
    ·
     rcases br_some hx107 with ⟨h108, hx107⟩ | ⟨h108, hx107⟩
     ·
      refine WL.setB 97 h108 rfl ?_
      refine seg 19 [] [3, 7, 79, 80, 81, 104] [(3, (pt g87)), (7, (iv x79)), (79, (sv Ae p1.Primes ce)), (80, (iv (p1.Primes.length : Int))), (81, (iv x79)), (104, (bv true))] [] (fun fb => by kernel_rfl) rfl trivial ?_
      injection hx107 with hx107
      exact WL.to K true [3, 7, 79, 80, 81, 104] rfl ⟨⟨(hS104.subR [0, 1, 2, 3, 4, 5]).sub [0] (by decide), hx107.symm⟩, trivial⟩
     refine WL.setB 97 h108 rfl ?_
     refine seg 15 [.v (sv Ae p1.Primes ce)] [3, 7, 8, 79, 80, 81, 97, 99, 100] [(3, (pt g87)), (7, (iv x79)), (8, (iv (rdD p1.Primes x79 0))), (79, (sv Ae p1.Primes ce)), (80, (iv (p1.Primes.length : Int))), (81, (iv x79)), (97, (bv false)), (99, (sv Ae p1.Primes ce)), (100, (iv x79))] [.cell ⟨g87, 3, none⟩ (sv Ae p1.Primes ce)] (fun fb => by kernel_rfl) rfl ⟨hS104.cell 0 rfl 3 rfl, trivial⟩ ?_
     obtain ⟨h109, hx107⟩ := as_some hx107
     refine seg 16 [] [3, 7, 8, 79, 80, 81, 97, 101] [(3, (pt g87)), (7, (iv x79)), (8, (iv (rdD p1.Primes x79 0))), (79, (sv Ae p1.Primes ce)), (80, (iv (p1.Primes.length : Int))), (81, (iv x79)), (97, (bv false)), (101, (.slice (subA Ae ce (0 : Int).toNat 1) (x79.toNat - (0 : Int).toNat) (ce - (0 : Int).toNat)))] [.idx (some ⟨0, 0, none⟩) (0 : Int) (x79.toNat + 1), .idx (some ⟨0, 0, none⟩) x79 (ce + 1)] (fun fb => by kernel_rfl) rfl ⟨cut1 h109.1 h109.2.1, cut2 h109.1 h109.2.1 h109.2.2 (hS104.rd 4).1.2, trivial⟩ ?_
     refine WL.reE [3, 7, 8, 79, 80, 81, 97, 101] [(3, (pt g87)), (7, (iv x79)), (8, (iv (rdD p1.Primes x79 0))), (79, (.slice Ae p1.Primes.length ce)), (80, (iv (p1.Primes.length : Int))), (81, (iv x79)), (97, (.bool false)), (101, (.slice (subA Ae ce (0 : Int).toNat 1) (x79.toNat - (0 : Int).toNat) (ce - (0 : Int).toNat)))] [(3, (pt g87)), (7, (iv x79)), (8, (iv (rdD p1.Primes x79 0))), (79, (.slice Ae p1.Primes.length ce)), (80, (iv (p1.Primes.length : Int))), (81, (iv x79)), (97, (.bool false)), (101, (.slice (subA Ae ce (0 : Int).toNat 1) (cut p1.Primes (0 : Int) x79).length (ce - (0 : Int).toNat)))] rfl (by rw [cut_length h109.1 h109.2.1 h109.2.2]) ?_
     have hS110 := hS104.cutR 4 rfl h109.1 h109.2.1 h109.2.2
     refine seg 17 [] [3, 7, 79, 80, 81, 97, 101, 102] [(3, (pt g87)), (7, (iv x79)), (79, (sv Ae p1.Primes ce)), (80, (iv (p1.Primes.length : Int))), (81, (iv x79)), (97, (bv false)), (101, (sv (subA Ae ce (0 : Int).toNat 1) (cut p1.Primes (0 : Int) x79) (ce - (0 : Int).toNat))), (102, (iv (rdD p1.Primes x79 0)))] [] (fun fb => by kernel_rfl) rfl trivial ?_
     obtain ⟨t111, ht112, hx107⟩ := bind_some hx107
     refine WL.call (some 103) 31 #[(sv (subA Ae ce (0 : Int).toNat 1) (cut p1.Primes (0 : Int) x79) (ce - (0 : Int).toNat)), (iv (rdD p1.Primes x79 0))] (fun fb => by kernel_rfl) (slices_Contains_int_int_calls _ (cut p1.Primes (0 : Int) x79) (rdD p1.Primes x79 0) (subA Ae ce (0 : Int).toNat 1) (ce - (0 : Int).toNat) t111 _ (hS110.rd 0) ht112) (fun v w113 hR114 => ?_)
     obtain ⟨rfl, hk_⟩ := hR114
     have hS115 := hS110.keepN hk_
     refine ⟨trivial, ?_⟩
     refine seg 19 [] [3, 7, 79, 80, 81, 104] [(3, (pt g87)), (7, (iv x79)), (79, (sv Ae p1.Primes ce)), (80, (iv (p1.Primes.length : Int))), (81, (iv x79)), (104, (bv t111))] [] (fun fb => by kernel_rfl) rfl trivial ?_
     injection hx107 with hx107
     exact WL.to K t111 [3, 7, 79, 80, 81, 104] rfl ⟨⟨(hS115.subR [1, 2, 3, 4, 5, 6]).sub [0] (by decide), hx107.symm⟩, trivial⟩
    rintro y116 w118 ⟨⟨hS119, hq117⟩, hF120⟩
    subst hq117
    refine seg 20 [] [3, 7, 79, 80, 81, 105] [(3, (pt g87)), (7, (iv x79)), (79, (sv Ae p1.Primes ce)), (80, (iv (p1.Primes.length : Int))), (81, (iv x79)), (105, (bv x106))] [] (fun fb => by kernel_rfl) rfl trivial ?_
    obtain ⟨b121, hv122, hl85⟩ := bind_some hl85
    refine WL.cutV (T := Unit) 27 (fun t => [(112, (bv b121)), (3, (pt g87)), (7, (iv x79)), (79, (sv Ae p1.Primes ce)), (80, (iv (p1.Primes.length : Int))), (81, (iv x79))]) (fun t => True) (fun K => ?_) ?_
    ·
     rcases br_some hv122 with ⟨h123, hv122⟩ | ⟨h123, hv122⟩
     ·
      refine WL.setB 105 h123 rfl ?_
      refine seg 27 [] [3, 7, 79, 80, 81, 112] [(3, (pt g87)), (7, (iv x79)), (79, (sv Ae p1.Primes ce)), (80, (iv (p1.Primes.length : Int))), (81, (iv x79)), (112, (bv true))] [] (fun fb => by kernel_rfl) rfl trivial ?_
      injection hv122 with hv122
      subst hv122
      exact WL.toV K () [112, 3, 7, 79, 80, 81] rfl trivial
     refine WL.setB 105 h123 rfl ?_
     refine seg 23 [.v (sv Af p1.Logs cf)] [3, 7, 79, 80, 81, 105, 107, 108] [(3, (pt g87)), (7, (iv x79)), (79, (sv Ae p1.Primes ce)), (80, (iv (p1.Primes.length : Int))), (81, (iv x79)), (105, (bv false)), (107, (sv Af p1.Logs cf)), (108, (iv x79))] [.cell ⟨g87, 4, none⟩ (sv Af p1.Logs cf)] (fun fb => by kernel_rfl) rfl ⟨hS119.cell 0 rfl 4 rfl, trivial⟩ ?_
     obtain ⟨h124, hv122⟩ := as_some hv122
     refine seg 27 [.v (iv (rdD p1.Logs x79 0))] [3, 7, 79, 80, 81, 112] [(3, (pt g87)), (7, (iv x79)), (79, (sv Ae p1.Primes ce)), (80, (iv (p1.Primes.length : Int))), (81, (iv x79)), (112, (bv (decide ((rdD p1.Logs x79 0) < (-1000)))))] [.idx Af x79 p1.Logs.length, .cell ((adr Af).add ((x79).toNat * 1)) (iv (rdD p1.Logs x79 0))] (fun fb => by kernel_rfl) rfl ⟨rowR.adr (hS119.rd 5).1 h124.1 h124.2, rowR.cell (hS119.rd 5).1 0 h124.1 h124.2 0 rfl, trivial⟩ ?_
     injection hv122 with hv122
     subst hv122
     exact WL.toV K () [112, 3, 7, 79, 80, 81] rfl trivial
    rintro _ _
    refine seg 28 [] [3, 7, 79, 80, 81, 113] [(3, (pt g87)), (7, (iv x79)), (79, (sv Ae p1.Primes ce)), (80, (iv (p1.Primes.length : Int))), (81, (iv x79)), (113, (bv b121))] [] (fun fb => by kernel_rfl) rfl trivial ?_
    obtain ⟨b125, hv126, hl85⟩ := bind_some hl85
    refine WL.cutV (T := Unit) 35 (fun t => [(120, (bv b125)), (3, (pt g87)), (79, (sv Ae p1.Primes ce)), (80, (iv (p1.Primes.length : Int))), (81, (iv x79))]) (fun t => True) (fun K => ?_) ?_
    ·
     rcases br_some hv126 with ⟨h127, hv126⟩ | ⟨h127, hv126⟩
     ·
      refine WL.setB 113 h127 rfl ?_
      refine seg 35 [] [3, 79, 80, 81, 120] [(3, (pt g87)), (79, (sv Ae p1.Primes ce)), (80, (iv (p1.Primes.length : Int))), (81, (iv x79)), (120, (bv true))] [] (fun fb => by kernel_rfl) rfl trivial ?_
      injection hv126 with hv126
      subst hv126
      exact WL.toV K () [120, 3, 79, 80, 81] rfl trivial
     refine WL.setB 113 h127 rfl ?_
     refine seg 31 [.v (sv Af p1.Logs cf)] [3, 79, 80, 81, 113, 115, 116] [(3, (pt g87)), (79, (sv Ae p1.Primes ce)), (80, (iv (p1.Primes.length : Int))), (81, (iv x79)), (113, (bv false)), (115, (sv Af p1.Logs cf)), (116, (iv x79))] [.cell ⟨g87, 4, none⟩ (sv Af p1.Logs cf)] (fun fb => by kernel_rfl) rfl ⟨hS119.cell 0 rfl 4 rfl, trivial⟩ ?_
     obtain ⟨h128, hv126⟩ := as_some hv126
     refine seg 35 [.v (iv (rdD p1.Logs x79 0))] [3, 79, 80, 81, 120] [(3, (pt g87)), (79, (sv Ae p1.Primes ce)), (80, (iv (p1.Primes.length : Int))), (81, (iv x79)), (120, (bv (decide ((rdD p1.Logs x79 0) > 1000))))] [.idx Af x79 p1.Logs.length, .cell ((adr Af).add ((x79).toNat * 1)) (iv (rdD p1.Logs x79 0))] (fun fb => by kernel_rfl) rfl ⟨rowR.adr (hS119.rd 5).1 h128.1 h128.2, rowR.cell (hS119.rd 5).1 0 h128.1 h128.2 0 rfl, trivial⟩ ?_
     injection hv126 with hv126
     subst hv126
     exact WL.toV K () [120, 3, 79, 80, 81] rfl trivial
    rintro _ _
    refine WL.done rfl (WX.next ?_)
    rcases br_some hl85 with ⟨h129, hl85⟩ | ⟨h129, hl85⟩
    ·refine WC.condT2 (fun fb => by kernel_rfl) h129 ?_
     refine WC.seq (WC.region ?_)
     refine seg 1 [] [4] [(4, (bv false))] [] (fun fb => by kernel_rfl) rfl trivial ?_
     refine WL.done rfl (WX.next ?_)
     refine WC.ret ?_
     injection hl85 with hl85
     subst hl85
     injection hf with hf
     subst hf
     exact WX.blockR (WX.thenR (WX.thenR (WX.blockR (WX.thenR (WX.ret_ [] (bv false) [] (fun fb => by kernel_rfl) trivial ⟨_, rfl, rfl, hS119.keep⟩)))))
    refine WC.condF2 (fun fb => by kernel_rfl) h129 ?_
    refine WC.skip ?_
    refine WX.blockN (WX.next ?_)
    refine WC.region ?_
    refine seg 2 [] [3, 79, 80, 81] [(3, (pt g87)), (79, (sv Ae p1.Primes ce)), (80, (iv (p1.Primes.length : Int))), (81, (iv (w64 (x79 + 1))))] [] (fun fb => by kernel_rfl) rfl trivial ?_
    refine WL.done rfl ?_
    exact WX.again k82 (Nat.lt_succ_self _) (w64 (x79 + 1)) [3, 79, 80, 81] rfl ⟨(hS119.subR [0, 1, 2, 3, 4, 5]).sub [0] (by decide), hl85⟩
   refine WC.condF2 (fun fb => by kernel_rfl) h86 ?_
   refine WC.exit ?_
   injection hl85 with hl85
   exact WX.thenX (WX.thenX (WX.blockHere (WX.to Kx80 () [] rfl ⟨(hS84.subR [0, 1, 2, 3, 4, 5]).sub [] (by decide), hl85.symm⟩)))
 rintro y133 w130 ⟨hS131, hq132⟩
 subst hq132
 have hf := sum_inr hf
 refine WX.next (WC.seq (WC.region ?_))
 refine seg 1 [] [4] [(4, (bv true))] [] (fun fb => by kernel_rfl) rfl trivial ?_
 refine WL.done rfl (WX.next ?_)
 refine WC.ret ?_
 injection hf with hf
 subst hf
 exact WX.ret_ [] (bv true) [] (fun fb => by kernel_rfl) trivial ⟨_, rfl, rfl, hS131.keep⟩
theorem bits_Mul64_calls (p0 : Int) (p1 : Int)  (r : Int × Int) (w : World)  (hf : bits_Mul64 p0 p1 = some r) :
  CallsR Tryd.prog 44 #[(.int .u64 p0), (.int .u64 p1)] w (fun v w' => v = (.tuple #[(.int .u64 r.1), (.int .u64 r.2)]) ∧ Keeps NoS w w') := by
 have hS : St NoS w w [] [] := St.init (ro_nil _ _)
 refine enter 51 Tryd.func44 rfl Tryd.ntmps44 rfl ?_
 unfold bits_Mul64 at hf
 refine WC.seq (WC.region ?_)
 refine seg 2 [] [0, 1] [(0, (.int .u64 p0)), (1, (.int .u64 p1))] [] (fun fb => by kernel_rfl) rfl trivial ?_
 refine WL.done rfl (WX.next (WC.seq (WC.region ?_)))
 refine seg 3 [] [0, 1, 6] [(0, (.int .u64 p0)), (1, (.int .u64 p1)), (6, (.int .u64 (andV p0 4294967295)))] [] (fun fb => by kernel_rfl) rfl trivial ?_
 refine WL.done rfl (WX.next (WC.seq (WC.region ?_)))
 refine seg 3 [] [0, 1, 6, 7] [(0, (.int .u64 p0)), (1, (.int .u64 p1)), (6, (.int .u64 (andV p0 4294967295))), (7, (.int .u64 (shrV p0 32)))] [.idx (some ⟨0, 0, none⟩) 32 64] (fun fb => by kernel_rfl) rfl ⟨⟨by decide, by decide, rfl⟩, trivial⟩ ?_
 refine WL.done rfl (WX.next (WC.seq (WC.region ?_)))
 refine seg 3 [] [0, 1, 6, 7, 8] [(0, (.int .u64 p0)), (1, (.int .u64 p1)), (6, (.int .u64 (andV p0 4294967295))), (7, (.int .u64 (shrV p0 32))), (8, (.int .u64 (andV p1 4294967295)))] [] (fun fb => by kernel_rfl) rfl trivial ?_
 refine WL.done rfl (WX.next (WC.seq (WC.region ?_)))
 refine seg 3 [] [0, 1, 6, 7, 8, 9] [(0, (.int .u64 p0)), (1, (.int .u64 p1)), (6, (.int .u64 (andV p0 4294967295))), (7, (.int .u64 (shrV p0 32))), (8, (.int .u64 (andV p1 4294967295))), (9, (.int .u64 (shrV p1 32)))] [.idx (some ⟨0, 0, none⟩) 32 64] (fun fb => by kernel_rfl) rfl ⟨⟨by decide, by decide, rfl⟩, trivial⟩ ?_
 refine WL.done rfl (WX.next (WC.seq (WC.region ?_)))
 refine seg 4 [] [0, 1, 6, 7, 8, 9, 10] [(0, (.int .u64 p0)), (1, (.int .u64 p1)), (6, (.int .u64 (andV p0 4294967295))), (7, (.int .u64 (shrV p0 32))), (8, (.int .u64 (andV p1 4294967295))), (9, (.int .u64 (shrV p1 32))), (10, (.int .u64 (IntKind.wrap .u64 ((andV p0 4294967295) * (andV p1 4294967295)))))] [] (fun fb => by kernel_rfl) rfl trivial ?_
 refine WL.done rfl (WX.next (WC.seq (WC.region ?_)))
 refine seg 7 [] [0, 1, 6, 7, 9, 11] [(0, (.int .u64 p0)), (1, (.int .u64 p1)), (6, (.int .u64 (andV p0 4294967295))), (7, (.int .u64 (shrV p0 32))), (9, (.int .u64 (shrV p1 32))), (11, (.int .u64 (IntKind.wrap .u64 ((IntKind.wrap .u64 ((shrV p0 32) * (andV p1 4294967295))) + (shrV (IntKind.wrap .u64 ((andV p0 4294967295) * (andV p1 4294967295))) 32)))))] [.idx (some ⟨0, 0, none⟩) 32 64] (fun fb => by kernel_rfl) rfl ⟨⟨by decide, by decide, rfl⟩, trivial⟩ ?_
 refine WL.done rfl (WX.next (WC.seq (WC.region ?_)))
 refine seg 3 [] [0, 1, 6, 7, 9, 11, 12] [(0, (.int .u64 p0)), (1, (.int .u64 p1)), (6, (.int .u64 (andV p0 4294967295))), (7, (.int .u64 (shrV p0 32))), (9, (.int .u64 (shrV p1 32))), (11, (.int .u64 (IntKind.wrap .u64 ((IntKind.wrap .u64 ((shrV p0 32) * (andV p1 4294967295))) + (shrV (IntKind.wrap .u64 ((andV p0 4294967295) * (andV p1 4294967295))) 32))))), (12, (.int .u64 (andV (IntKind.wrap .u64 ((IntKind.wrap .u64 ((shrV p0 32) * (andV p1 4294967295))) + (shrV (IntKind.wrap .u64 ((andV p0 4294967295) * (andV p1 4294967295))) 32))) 4294967295)))] [] (fun fb => by kernel_rfl) rfl trivial ?_
 refine WL.done rfl (WX.next (WC.seq (WC.region ?_)))
 refine seg 3 [] [0, 1, 6, 7, 9, 12, 13] [(0, (.int .u64 p0)), (1, (.int .u64 p1)), (6, (.int .u64 (andV p0 4294967295))), (7, (.int .u64 (shrV p0 32))), (9, (.int .u64 (shrV p1 32))), (12, (.int .u64 (andV (IntKind.wrap .u64 ((IntKind.wrap .u64 ((shrV p0 32) * (andV p1 4294967295))) + (shrV (IntKind.wrap .u64 ((andV p0 4294967295) * (andV p1 4294967295))) 32))) 4294967295))), (13, (.int .u64 (shrV (IntKind.wrap .u64 ((IntKind.wrap .u64 ((shrV p0 32) * (andV p1 4294967295))) + (shrV (IntKind.wrap .u64 ((andV p0 4294967295) * (andV p1 4294967295))) 32))) 32)))] [.idx (some ⟨0, 0, none⟩) 32 64] (fun fb => by kernel_rfl) rfl ⟨⟨by decide, by decide, rfl⟩, trivial⟩ ?_
 refine WL.done rfl (WX.next (WC.seq (WC.region ?_)))
 refine seg 6 [] [0, 1, 7, 9, 12, 13] [(0, (.int .u64 p0)), (1, (.int .u64 p1)), (7, (.int .u64 (shrV p0 32))), (9, (.int .u64 (shrV p1 32))), (12, (.int .u64 (IntKind.wrap .u64 ((andV (IntKind.wrap .u64 ((IntKind.wrap .u64 ((shrV p0 32) * (andV p1 4294967295))) + (shrV (IntKind.wrap .u64 ((andV p0 4294967295) * (andV p1 4294967295))) 32))) 4294967295) + (IntKind.wrap .u64 ((andV p0 4294967295) * (shrV p1 32))))))), (13, (.int .u64 (shrV (IntKind.wrap .u64 ((IntKind.wrap .u64 ((shrV p0 32) * (andV p1 4294967295))) + (shrV (IntKind.wrap .u64 ((andV p0 4294967295) * (andV p1 4294967295))) 32))) 32)))] [] (fun fb => by kernel_rfl) rfl trivial ?_
 refine WL.done rfl (WX.next (WC.seq (WC.region ?_)))
 refine seg 9 [] [0, 1, 4] [(0, (.int .u64 p0)), (1, (.int .u64 p1)), (4, (.int .u64 (IntKind.wrap .u64 ((IntKind.wrap .u64 ((IntKind.wrap .u64 ((shrV p0 32) * (shrV p1 32))) + (shrV (IntKind.wrap .u64 ((IntKind.wrap .u64 ((shrV p0 32) * (andV p1 4294967295))) + (shrV (IntKind.wrap .u64 ((andV p0 4294967295) * (andV p1 4294967295))) 32))) 32))) + (shrV (IntKind.wrap .u64 ((andV (IntKind.wrap .u64 ((IntKind.wrap .u64 ((shrV p0 32) * (andV p1 4294967295))) + (shrV (IntKind.wrap .u64 ((andV p0 4294967295) * (andV p1 4294967295))) 32))) 4294967295) + (IntKind.wrap .u64 ((andV p0 4294967295) * (shrV p1 32))))) 32)))))] [.idx (some ⟨0, 0, none⟩) 32 64] (fun fb => by kernel_rfl) rfl ⟨⟨by decide, by decide, rfl⟩, trivial⟩ ?_
 refine WL.done rfl (WX.next (WC.seq (WC.region ?_)))
 refine seg 4 [] [4, 5] [(4, (.int .u64 (IntKind.wrap .u64 ((IntKind.wrap .u64 ((IntKind.wrap .u64 ((shrV p0 32) * (shrV p1 32))) + (shrV (IntKind.wrap .u64 ((IntKind.wrap .u64 ((shrV p0 32) * (andV p1 4294967295))) + (shrV (IntKind.wrap .u64 ((andV p0 4294967295) * (andV p1 4294967295))) 32))) 32))) + (shrV (IntKind.wrap .u64 ((andV (IntKind.wrap .u64 ((IntKind.wrap .u64 ((shrV p0 32) * (andV p1 4294967295))) + (shrV (IntKind.wrap .u64 ((andV p0 4294967295) * (andV p1 4294967295))) 32))) 4294967295) + (IntKind.wrap .u64 ((andV p0 4294967295) * (shrV p1 32))))) 32))))), (5, (.int .u64 (IntKind.wrap .u64 (p0 * p1))))] [] (fun fb => by kernel_rfl) rfl trivial ?_
 refine WL.done rfl (WX.next ?_)
 refine WC.ret ?_
 injection hf with hf
 subst hf
 exact WX.ret_ [] (.tuple #[(.int .u64 (IntKind.wrap .u64 ((IntKind.wrap .u64 ((IntKind.wrap .u64 ((shrV p0 32) * (shrV p1 32))) + (shrV (IntKind.wrap .u64 ((IntKind.wrap .u64 ((shrV p0 32) * (andV p1 4294967295))) + (shrV (IntKind.wrap .u64 ((andV p0 4294967295) * (andV p1 4294967295))) 32))) 32))) + (shrV (IntKind.wrap .u64 ((andV (IntKind.wrap .u64 ((IntKind.wrap .u64 ((shrV p0 32) * (andV p1 4294967295))) + (shrV (IntKind.wrap .u64 ((andV p0 4294967295) * (andV p1 4294967295))) 32))) 4294967295) + (IntKind.wrap .u64 ((andV p0 4294967295) * (shrV p1 32))))) 32)))), (.int .u64 (IntKind.wrap .u64 (p0 * p1)))]) [] (fun fb => by kernel_rfl) trivial ⟨_, rfl, rfl, hS.keep⟩
theorem bits_Len64_calls (p0 : Int)  (r : Int) (w : World)  (hf : bits_Len64 p0 = some r) :
  CallsR Tryd.prog 54 #[(.int .u64 p0)] w (fun v w' => v = (iv r) ∧ Keeps NoS w w') := by
 have hS : St NoS w w [] [] := St.init (ro_nil _ _)
 refine enter 25 Tryd.func54 rfl Tryd.ntmps54 rfl ?_
 unfold bits_Len64 at hf
 refine WC.seq (WC.region ?_)
 refine seg 1 [] [0, 2] [(0, (.int .u64 p0)), (2, (iv 0))] [] (fun fb => by kernel_rfl) rfl trivial ?_
 refine WL.done rfl (WX.next (WC.seq (WC.seq (WC.region ?_))))
 refine seg 2 [] [0, 2, 4] [(0, (.int .u64 p0)), (2, (iv 0)), (4, (bv (decide (p0 ≥ 4294967296))))] [] (fun fb => by kernel_rfl) rfl trivial ?_
 refine WL.done rfl (WX.next ?_)
 obtain ⟨x3, hx4, hf⟩ := bind_some hf
 refine WC.cutN (T := Int × Int) (fun t => [(0, (.int .u64 t.1)), (2, (iv t.2))]) (fun t w1 => St NoS w w1 [] [] ∧ x3 = t) (fun Kx3 => ?_) ?_
 ·
  rcases br_some hx4 with ⟨h5, hx4⟩ | ⟨h5, hx4⟩
  ·refine WC.condT2 (fun fb => by kernel_rfl) h5 ?_
   refine WC.seq (WC.region ?_)
   refine seg 3 [] [0] [(0, (.int .u64 (shrV p0 32)))] [.idx (some ⟨0, 0, none⟩) 32 64] (fun fb => by kernel_rfl) rfl ⟨⟨by decide, by decide, rfl⟩, trivial⟩ ?_
   refine WL.done rfl (WX.next (WC.region ?_))
   refine seg 1 [] [0, 2] [(0, (.int .u64 (shrV p0 32))), (2, (iv 32))] [] (fun fb => by kernel_rfl) rfl trivial ?_
   refine WL.done rfl ?_
   injection hx4 with hx4
   exact WX.to Kx3 (shrV p0 32, 32) [0, 2] rfl ⟨(hS.subR []).sub [] (by decide), hx4.symm⟩
  refine WC.condF2 (fun fb => by kernel_rfl) h5 ?_
  refine WC.skip ?_
  injection hx4 with hx4
  exact WX.to Kx3 (p0, 0) [0, 2] rfl ⟨(hS.subR []).sub [] (by decide), hx4.symm⟩
 rintro y10 w6 ⟨hS7, hq9⟩
 subst hq9
 refine WX.next (WC.seq (WC.seq (WC.region ?_)))
 refine seg 2 [] [0, 2, 8] [(0, (.int .u64 x3.1)), (2, (iv x3.2)), (8, (bv (decide (x3.1 ≥ 65536))))] [] (fun fb => by kernel_rfl) rfl trivial ?_
 refine WL.done rfl (WX.next ?_)
 obtain ⟨x11, hx12, hf⟩ := bind_some hf
 refine WC.cutN (T := Int × Int) (fun t => [(0, (.int .u64 t.1)), (2, (iv t.2))]) (fun t w1 => St NoS w w1 [] [] ∧ x11 = t) (fun Kx11 => ?_) ?_
 ·
  rcases br_some hx12 with ⟨h13, hx12⟩ | ⟨h13, hx12⟩
  ·refine WC.condT2 (fun fb => by kernel_rfl) h13 ?_
   refine WC.seq (WC.region ?_)
   refine seg 3 [] [0, 2] [(0, (.int .u64 (shrV x3.1 16))), (2, (iv x3.2))] [.idx (some ⟨0, 0, none⟩) 16 64] (fun fb => by kernel_rfl) rfl ⟨⟨by decide, by decide, rfl⟩, trivial⟩ ?_
   refine WL.done rfl (WX.next (WC.region ?_))
   refine seg 3 [] [0, 2] [(0, (.int .u64 (shrV x3.1 16))), (2, (iv (w64 (x3.2 + 16))))] [] (fun fb => by kernel_rfl) rfl trivial ?_
   refine WL.done rfl ?_
   injection hx12 with hx12
   exact WX.to Kx11 (shrV x3.1 16, w64 (x3.2 + 16)) [0, 2] rfl ⟨(hS7.subR []).sub [] (by decide), hx12.symm⟩
  refine WC.condF2 (fun fb => by kernel_rfl) h13 ?_
  refine WC.skip ?_
  injection hx12 with hx12
  exact WX.to Kx11 (x3.1, x3.2) [0, 2] rfl ⟨(hS7.subR []).sub [] (by decide), hx12.symm⟩
 rintro y17 w14 ⟨hS15, hq16⟩
 subst hq16
 refine WX.next (WC.seq (WC.seq (WC.region ?_)))
 refine seg 2 [] [0, 2, 14] [(0, (.int .u64 x11.1)), (2, (iv x11.2)), (14, (bv (decide (x11.1 ≥ 256))))] [] (fun fb => by kernel_rfl) rfl trivial ?_
 refine WL.done rfl (WX.next ?_)
 obtain ⟨x18, hx19, hf⟩ := bind_some hf
 refine WC.cutN (T := Int × Int) (fun t => [(0, (.int .u64 t.1)), (2, (iv t.2))]) (fun t w1 => St NoS w w1 [] [] ∧ x18 = t) (fun Kx18 => ?_) ?_
 ·
  rcases br_some hx19 with ⟨h20, hx19⟩ | ⟨h20, hx19⟩
  ·refine WC.condT2 (fun fb => by kernel_rfl) h20 ?_
   refine WC.seq (WC.region ?_)
   refine seg 3 [] [0, 2] [(0, (.int .u64 (shrV x11.1 8))), (2, (iv x11.2))] [.idx (some ⟨0, 0, none⟩) 8 64] (fun fb => by kernel_rfl) rfl ⟨⟨by decide, by decide, rfl⟩, trivial⟩ ?_
   refine WL.done rfl (WX.next (WC.region ?_))
   refine seg 3 [] [0, 2] [(0, (.int .u64 (shrV x11.1 8))), (2, (iv (w64 (x11.2 + 8))))] [] (fun fb => by kernel_rfl) rfl trivial ?_
   refine WL.done rfl ?_
   injection hx19 with hx19
   exact WX.to Kx18 (shrV x11.1 8, w64 (x11.2 + 8)) [0, 2] rfl ⟨(hS15.subR []).sub [] (by decide), hx19.symm⟩
  refine WC.condF2 (fun fb => by kernel_rfl) h20 ?_
  refine WC.skip ?_
  injection hx19 with hx19
  exact WX.to Kx18 (x11.1, x11.2) [0, 2] rfl ⟨(hS15.subR []).sub [] (by decide), hx19.symm⟩
 rintro y24 w21 ⟨hS22, hq23⟩
 subst hq23
 refine WX.next (WC.seq (WC.region ?_))
 refine seg 3 [] [19, 21] [(19, (iv x18.2)), (21, (.int .u8 (IntKind.wrap .u8 (x18.1))))] [] (fun fb => by kernel_rfl) rfl trivial ?_
 obtain ⟨h25, hf⟩ := as_some hf
 refine seg 7 [] [2] [(2, (iv (w64 (x18.2 + (w64 (strAt (⟨#[0, 1, 2, 2, 3, 3, 3, 3, 4, 4, 4, 4, 4, 4, 4, 4, 5, 5, 5, 5, 5, 5, 5, 5, 5, 5, 5, 5, 5, 5, 5, 5, 6, 6, 6, 6, 6, 6, 6, 6, 6, 6, 6, 6, 6, 6, 6, 6, 6, 6, 6, 6, 6, 6, 6, 6, 6, 6, 6, 6, 6, 6, 6, 6, 7, 7, 7, 7, 7, 7, 7, 7, 7, 7, 7, 7, 7, 7, 7, 7, 7, 7, 7, 7, 7, 7, 7, 7, 7, 7, 7, 7, 7, 7, 7, 7, 7, 7, 7, 7, 7, 7, 7, 7, 7, 7, 7, 7, 7, 7, 7, 7, 7, 7, 7, 7, 7, 7, 7, 7, 7, 7, 7, 7, 7, 7, 7, 7, 8, 8, 8, 8, 8, 8, 8, 8, 8, 8, 8, 8, 8, 8, 8, 8, 8, 8, 8, 8, 8, 8, 8, 8, 8, 8, 8, 8, 8, 8, 8, 8, 8, 8, 8, 8, 8, 8, 8, 8, 8, 8, 8, 8, 8, 8, 8, 8, 8, 8, 8, 8, 8, 8, 8, 8, 8, 8, 8, 8, 8, 8, 8, 8, 8, 8, 8, 8, 8, 8, 8, 8, 8, 8, 8, 8, 8, 8, 8, 8, 8, 8, 8, 8, 8, 8, 8, 8, 8, 8, 8, 8, 8, 8, 8, 8, 8, 8, 8, 8, 8, 8, 8, 8, 8, 8, 8, 8, 8, 8, 8, 8, 8, 8, 8, 8, 8, 8, 8, 8, 8, 8, 8, 8, 8, 8, 8, 8]⟩ : ByteArray) (IntKind.wrap .u8 (x18.1))))))))] [.idx (some ⟨0, 0, none⟩) (IntKind.wrap .u8 (x18.1)) (⟨#[0, 1, 2, 2, 3, 3, 3, 3, 4, 4, 4, 4, 4, 4, 4, 4, 5, 5, 5, 5, 5, 5, 5, 5, 5, 5, 5, 5, 5, 5, 5, 5, 6, 6, 6, 6, 6, 6, 6, 6, 6, 6, 6, 6, 6, 6, 6, 6, 6, 6, 6, 6, 6, 6, 6, 6, 6, 6, 6, 6, 6, 6, 6, 6, 7, 7, 7, 7, 7, 7, 7, 7, 7, 7, 7, 7, 7, 7, 7, 7, 7, 7, 7, 7, 7, 7, 7, 7, 7, 7, 7, 7, 7, 7, 7, 7, 7, 7, 7, 7, 7, 7, 7, 7, 7, 7, 7, 7, 7, 7, 7, 7, 7, 7, 7, 7, 7, 7, 7, 7, 7, 7, 7, 7, 7, 7, 7, 7, 8, 8, 8, 8, 8, 8, 8, 8, 8, 8, 8, 8, 8, 8, 8, 8, 8, 8, 8, 8, 8, 8, 8, 8, 8, 8, 8, 8, 8, 8, 8, 8, 8, 8, 8, 8, 8, 8, 8, 8, 8, 8, 8, 8, 8, 8, 8, 8, 8, 8, 8, 8, 8, 8, 8, 8, 8, 8, 8, 8, 8, 8, 8, 8, 8, 8, 8, 8, 8, 8, 8, 8, 8, 8, 8, 8, 8, 8, 8, 8, 8, 8, 8, 8, 8, 8, 8, 8, 8, 8, 8, 8, 8, 8, 8, 8, 8, 8, 8, 8, 8, 8, 8, 8, 8, 8, 8, 8, 8, 8, 8, 8, 8, 8, 8, 8, 8, 8, 8, 8, 8, 8, 8, 8, 8, 8, 8, 8]⟩ : ByteArray).size] (fun fb => by kernel_rfl) rfl ⟨⟨h25.1, h25.2, rfl⟩, trivial⟩ ?_
 refine WL.done rfl (WX.next ?_)
 refine WC.ret ?_
 injection hf with hf
 subst hf
 exact WX.ret_ [] (iv (w64 (x18.2 + (w64 (strAt (⟨#[0, 1, 2, 2, 3, 3, 3, 3, 4, 4, 4, 4, 4, 4, 4, 4, 5, 5, 5, 5, 5, 5, 5, 5, 5, 5, 5, 5, 5, 5, 5, 5, 6, 6, 6, 6, 6, 6, 6, 6, 6, 6, 6, 6, 6, 6, 6, 6, 6, 6, 6, 6, 6, 6, 6, 6, 6, 6, 6, 6, 6, 6, 6, 6, 7, 7, 7, 7, 7, 7, 7, 7, 7, 7, 7, 7, 7, 7, 7, 7, 7, 7, 7, 7, 7, 7, 7, 7, 7, 7, 7, 7, 7, 7, 7, 7, 7, 7, 7, 7, 7, 7, 7, 7, 7, 7, 7, 7, 7, 7, 7, 7, 7, 7, 7, 7, 7, 7, 7, 7, 7, 7, 7, 7, 7, 7, 7, 7, 8, 8, 8, 8, 8, 8, 8, 8, 8, 8, 8, 8, 8, 8, 8, 8, 8, 8, 8, 8, 8, 8, 8, 8, 8, 8, 8, 8, 8, 8, 8, 8, 8, 8, 8, 8, 8, 8, 8, 8, 8, 8, 8, 8, 8, 8, 8, 8, 8, 8, 8, 8, 8, 8, 8, 8, 8, 8, 8, 8, 8, 8, 8, 8, 8, 8, 8, 8, 8, 8, 8, 8, 8, 8, 8, 8, 8, 8, 8, 8, 8, 8, 8, 8, 8, 8, 8, 8, 8, 8, 8, 8, 8, 8, 8, 8, 8, 8, 8, 8, 8, 8, 8, 8, 8, 8, 8, 8, 8, 8, 8, 8, 8, 8, 8, 8, 8, 8, 8, 8, 8, 8, 8, 8, 8, 8, 8, 8]⟩ : ByteArray) (IntKind.wrap .u8 (x18.1))))))) [] (fun fb => by kernel_rfl) trivial ⟨_, rfl, rfl, hS22.keep⟩
theorem bits_LeadingZeros64_calls (p0 : Int)  (r : Int) (w : World)  (hf : bits_LeadingZeros64 p0 = some r) :
  CallsR Tryd.prog 52 #[(.int .u64 p0)] w (fun v w' => v = (iv r) ∧ Keeps NoS w w') := by
 have hS : St NoS w w [] [] := St.init (ro_nil _ _)
 refine enter 6 Tryd.func52 rfl Tryd.ntmps52 rfl ?_
 unfold bits_LeadingZeros64 at hf
 refine WC.seq (WC.region ?_)
 refine seg 1 [] [0] [(0, (.int .u64 p0))] [] (fun fb => by kernel_rfl) rfl trivial ?_
 refine WL.done rfl (WX.next (WC.seq (WC.region ?_)))
 refine seg 1 [] [3] [(3, (.int .u64 p0))] [] (fun fb => by kernel_rfl) rfl trivial ?_
 obtain ⟨t1, ht2, hf⟩ := bind_some hf
 refine WL.call (some 4) 54 #[(.int .u64 p0)] (fun fb => by kernel_rfl) (bits_Len64_calls p0 t1 _ ht2) (fun v w3 hR4 => ?_)
 obtain ⟨rfl, hk_⟩ := hR4
 have hS5 := hS.keepN hk_
 refine ⟨trivial, ?_⟩
 refine seg 4 [] [2] [(2, (iv (w64 (64 - t1))))] [] (fun fb => by kernel_rfl) rfl trivial ?_
 refine WL.done rfl (WX.next ?_)
 refine WC.ret ?_
 injection hf with hf
 subst hf
 exact WX.ret_ [] (iv (w64 (64 - t1))) [] (fun fb => by kernel_rfl) trivial ⟨_, rfl, rfl, hS5.keep⟩
theorem bits_Div64_calls (k : Nat) (p0 : Int) (p1 : Int) (p2 : Int)  (r : Int × Int) (w : World)  (hf : bits_Div64 k p0 p1 p2 = some r) :
  CallsR Tryd.prog 45 #[(.int .u64 p0), (.int .u64 p1), (.int .u64 p2)] w (fun v w' => v = (.tuple #[(.int .u64 r.1), (.int .u64 r.2)]) ∧ Keeps NoS w w') := by
 have hS : St NoS w w [] [] := St.init (ro_nil _ _)
 refine enter 135 Tryd.func45 rfl Tryd.ntmps45 rfl ?_
 unfold bits_Div64 at hf
 refine WC.seq (WC.region ?_)
 refine seg 2 [] [0, 1, 2] [(0, (.int .u64 p0)), (1, (.int .u64 p1)), (2, (.int .u64 p2))] [] (fun fb => by kernel_rfl) rfl trivial ?_
 refine WL.done rfl (WX.next (WC.seq (WC.seq (WC.region ?_))))
 refine seg 2 [] [0, 1, 2, 20] [(0, (.int .u64 p0)), (1, (.int .u64 p1)), (2, (.int .u64 p2)), (20, (bv (p2 == 0)))] [] (fun fb => by kernel_rfl) rfl trivial ?_
 refine WL.done rfl (WX.next ?_)
 rcases br_some hf with ⟨h3, hf⟩ | ⟨h3, hf⟩
 ·refine WC.condT2 (fun fb => by kernel_rfl) h3 ?_
  cases hf
 refine WC.condF2 (fun fb => by kernel_rfl) h3 ?_
 refine WC.skip (WX.next (WC.seq (WC.seq (WC.region ?_))))
 refine seg 3 [] [0, 1, 2, 24] [(0, (.int .u64 p0)), (1, (.int .u64 p1)), (2, (.int .u64 p2)), (24, (bv (decide (p2 ≤ p0))))] [] (fun fb => by kernel_rfl) rfl trivial ?_
 refine WL.done rfl (WX.next ?_)
 rcases br_some hf with ⟨h4, hf⟩ | ⟨h4, hf⟩
 ·refine WC.condT2 (fun fb => by kernel_rfl) h4 ?_
  cases hf
 refine WC.condF2 (fun fb => by kernel_rfl) h4 ?_
 refine WC.skip (WX.next (WC.seq (WC.seq (WC.region ?_))))
 refine seg 2 [] [0, 1, 2, 27] [(0, (.int .u64 p0)), (1, (.int .u64 p1)), (2, (.int .u64 p2)), (27, (bv (p0 == 0)))] [] (fun fb => by kernel_rfl) rfl trivial ?_
 refine WL.done rfl (WX.next ?_)
 rcases br_some hf with ⟨h5, hf⟩ | ⟨h5, hf⟩
 ·refine WC.condT2 (fun fb => by kernel_rfl) h5 ?_
  refine WC.seq ?_
  obtain ⟨h8, hf⟩ := as_some hf
  refine WC.regionD ([], [0, 1, 2, 3, 4, 5, 6, 7], [[], [], [0, 1], [], [], [3, 4], [0, 1, 2], [0, 1, 2, 3, 4, 5, 6]]) [[0, 1, 2, 3, 4, 5, 6, 7]] (by kernel_rfl) (by kernel_rfl) (NoPanic.seq (NoPanic.seq (NoPanic.body))) ?_
  have hS7 := hS.drew
  revert hS7
  generalize World.drew w = w6
  intro hS7
  refine ⟨trivial, forallC ?_ (forallN)⟩
  refine seg 8 [] [6, 7] [(6, (.int .u64 (IntKind.wrap .u64 (Int.tdiv p1 p2)))), (7, (.int .u64 (Int.tmod p1 p2)))] [.ne p2, .ne p2] (fun fb => by kernel_rfl) rfl ⟨h8, h8, trivial⟩ ?_
  refine WL.done rfl (WX.next ?_)
  refine WC.ret ?_
  injection hf with hf
  subst hf
  exact WX.thenR (WX.ret_ [] (.tuple #[(.int .u64 (IntKind.wrap .u64 (Int.tdiv p1 p2))), (.int .u64 (Int.tmod p1 p2))]) [] (fun fb => by kernel_rfl) trivial ⟨_, rfl, rfl, hS7.keep⟩)
 refine WC.condF2 (fun fb => by kernel_rfl) h5 ?_
 refine WC.skip (WX.next (WC.seq (WC.region ?_)))
 refine seg 1 [] [0, 1, 2, 34] [(0, (.int .u64 p0)), (1, (.int .u64 p1)), (2, (.int .u64 p2)), (34, (.int .u64 p2))] [] (fun fb => by kernel_rfl) rfl trivial ?_
 obtain ⟨t9, ht10, hf⟩ := bind_some hf
 refine WL.call (some 35) 52 #[(.int .u64 p2)] (fun fb => by kernel_rfl) (bits_LeadingZeros64_calls p2 t9 _ ht10) (fun v w11 hR12 => ?_)
 obtain ⟨rfl, hk_⟩ := hR12
 have hS13 := hS.keepN hk_
 refine ⟨trivial, ?_⟩
 refine seg 4 [] [0, 1, 2, 8] [(0, (.int .u64 p0)), (1, (.int .u64 p1)), (2, (.int .u64 p2)), (8, (.int .u64 (IntKind.wrap .u64 (t9))))] [] (fun fb => by kernel_rfl) rfl trivial ?_
 refine WL.done rfl (WX.next (WC.seq (WC.region ?_)))
 refine seg 2 [] [0, 1, 8, 37, 38] [(0, (.int .u64 p0)), (1, (.int .u64 p1)), (8, (.int .u64 (IntKind.wrap .u64 (t9)))), (37, (.int .u64 p2)), (38, (.int .u64 (IntKind.wrap .u64 (t9))))] [] (fun fb => by kernel_rfl) rfl trivial ?_
 obtain ⟨h14, hf⟩ := as_some hf
 refine seg 4 [] [0, 1, 2, 8] [(0, (.int .u64 p0)), (1, (.int .u64 p1)), (2, (.int .u64 (shlV p2 (IntKind.wrap .u64 (t9))))), (8, (.int .u64 (IntKind.wrap .u64 (t9))))] [.idx (some ⟨0, 0, none⟩) (IntKind.wrap .u64 (t9)) 64] (fun fb => by kernel_rfl) rfl ⟨⟨h14.1, h14.2, rfl⟩, trivial⟩ ?_
 refine WL.done rfl (WX.next (WC.seq (WC.region ?_)))
 refine seg 3 [] [0, 1, 2, 8, 9] [(0, (.int .u64 p0)), (1, (.int .u64 p1)), (2, (.int .u64 (shlV p2 (IntKind.wrap .u64 (t9))))), (8, (.int .u64 (IntKind.wrap .u64 (t9)))), (9, (.int .u64 (shrV (shlV p2 (IntKind.wrap .u64 (t9))) 32)))] [.idx (some ⟨0, 0, none⟩) 32 64] (fun fb => by kernel_rfl) rfl ⟨⟨by decide, by decide, rfl⟩, trivial⟩ ?_
 refine WL.done rfl (WX.next (WC.seq (WC.region ?_)))
 refine seg 3 [] [0, 1, 2, 8, 9, 10] [(0, (.int .u64 p0)), (1, (.int .u64 p1)), (2, (.int .u64 (shlV p2 (IntKind.wrap .u64 (t9))))), (8, (.int .u64 (IntKind.wrap .u64 (t9)))), (9, (.int .u64 (shrV (shlV p2 (IntKind.wrap .u64 (t9))) 32))), (10, (.int .u64 (andV (shlV p2 (IntKind.wrap .u64 (t9))) 4294967295)))] [] (fun fb => by kernel_rfl) rfl trivial ?_
 refine WL.done rfl (WX.next (WC.seq (WC.region ?_)))
 refine seg 6 [] [1, 2, 8, 9, 10, 46, 47, 49] [(1, (.int .u64 p1)), (2, (.int .u64 (shlV p2 (IntKind.wrap .u64 (t9))))), (8, (.int .u64 (IntKind.wrap .u64 (t9)))), (9, (.int .u64 (shrV (shlV p2 (IntKind.wrap .u64 (t9))) 32))), (10, (.int .u64 (andV (shlV p2 (IntKind.wrap .u64 (t9))) 4294967295))), (46, (.int .u64 (shlV p0 (IntKind.wrap .u64 (t9))))), (47, (.int .u64 p1)), (49, (.int .u64 (IntKind.wrap .u64 (64 - (IntKind.wrap .u64 (t9))))))] [.idx (some ⟨0, 0, none⟩) (IntKind.wrap .u64 (t9)) 64] (fun fb => by kernel_rfl) rfl ⟨⟨h14.1, h14.2, rfl⟩, trivial⟩ ?_
 obtain ⟨h15, hf⟩ := as_some hf
 refine seg 9 [] [1, 2, 8, 9, 10, 11] [(1, (.int .u64 p1)), (2, (.int .u64 (shlV p2 (IntKind.wrap .u64 (t9))))), (8, (.int .u64 (IntKind.wrap .u64 (t9)))), (9, (.int .u64 (shrV (shlV p2 (IntKind.wrap .u64 (t9))) 32))), (10, (.int .u64 (andV (shlV p2 (IntKind.wrap .u64 (t9))) 4294967295))), (11, (.int .u64 (orV (shlV p0 (IntKind.wrap .u64 (t9))) (shrV p1 (IntKind.wrap .u64 (64 - (IntKind.wrap .u64 (t9))))))))] [.idx (some ⟨0, 0, none⟩) (IntKind.wrap .u64 (64 - (IntKind.wrap .u64 (t9)))) 64] (fun fb => by kernel_rfl) rfl ⟨⟨h15.1, h15.2, rfl⟩, trivial⟩ ?_
 refine WL.done rfl (WX.next (WC.seq (WC.region ?_)))
 refine seg 4 [] [2, 8, 9, 10, 11, 12] [(2, (.int .u64 (shlV p2 (IntKind.wrap .u64 (t9))))), (8, (.int .u64 (IntKind.wrap .u64 (t9)))), (9, (.int .u64 (shrV (shlV p2 (IntKind.wrap .u64 (t9))) 32))), (10, (.int .u64 (andV (shlV p2 (IntKind.wrap .u64 (t9))) 4294967295))), (11, (.int .u64 (orV (shlV p0 (IntKind.wrap .u64 (t9))) (shrV p1 (IntKind.wrap .u64 (64 - (IntKind.wrap .u64 (t9)))))))), (12, (.int .u64 (shlV p1 (IntKind.wrap .u64 (t9)))))] [.idx (some ⟨0, 0, none⟩) (IntKind.wrap .u64 (t9)) 64] (fun fb => by kernel_rfl) rfl ⟨⟨h14.1, h14.2, rfl⟩, trivial⟩ ?_
 refine WL.done rfl (WX.next (WC.seq (WC.region ?_)))
 refine seg 3 [] [2, 8, 9, 10, 11, 12, 13] [(2, (.int .u64 (shlV p2 (IntKind.wrap .u64 (t9))))), (8, (.int .u64 (IntKind.wrap .u64 (t9)))), (9, (.int .u64 (shrV (shlV p2 (IntKind.wrap .u64 (t9))) 32))), (10, (.int .u64 (andV (shlV p2 (IntKind.wrap .u64 (t9))) 4294967295))), (11, (.int .u64 (orV (shlV p0 (IntKind.wrap .u64 (t9))) (shrV p1 (IntKind.wrap .u64 (64 - (IntKind.wrap .u64 (t9)))))))), (12, (.int .u64 (shlV p1 (IntKind.wrap .u64 (t9))))), (13, (.int .u64 (shrV (shlV p1 (IntKind.wrap .u64 (t9))) 32)))] [.idx (some ⟨0, 0, none⟩) 32 64] (fun fb => by kernel_rfl) rfl ⟨⟨by decide, by decide, rfl⟩, trivial⟩ ?_
 refine WL.done rfl (WX.next (WC.seq (WC.region ?_)))
 refine seg 3 [] [2, 8, 9, 10, 11, 13, 14] [(2, (.int .u64 (shlV p2 (IntKind.wrap .u64 (t9))))), (8, (.int .u64 (IntKind.wrap .u64 (t9)))), (9, (.int .u64 (shrV (shlV p2 (IntKind.wrap .u64 (t9))) 32))), (10, (.int .u64 (andV (shlV p2 (IntKind.wrap .u64 (t9))) 4294967295))), (11, (.int .u64 (orV (shlV p0 (IntKind.wrap .u64 (t9))) (shrV p1 (IntKind.wrap .u64 (64 - (IntKind.wrap .u64 (t9)))))))), (13, (.int .u64 (shrV (shlV p1 (IntKind.wrap .u64 (t9))) 32))), (14, (.int .u64 (andV (shlV p1 (IntKind.wrap .u64 (t9))) 4294967295)))] [] (fun fb => by kernel_rfl) rfl trivial ?_
 refine WL.done rfl (WX.next (WC.seq (WC.region ?_)))
 refine seg 2 [] [2, 8, 9, 10, 11, 13, 14, 59, 60] [(2, (.int .u64 (shlV p2 (IntKind.wrap .u64 (t9))))), (8, (.int .u64 (IntKind.wrap .u64 (t9)))), (9, (.int .u64 (shrV (shlV p2 (IntKind.wrap .u64 (t9))) 32))), (10, (.int .u64 (andV (shlV p2 (IntKind.wrap .u64 (t9))) 4294967295))), (11, (.int .u64 (orV (shlV p0 (IntKind.wrap .u64 (t9))) (shrV p1 (IntKind.wrap .u64 (64 - (IntKind.wrap .u64 (t9)))))))), (13, (.int .u64 (shrV (shlV p1 (IntKind.wrap .u64 (t9))) 32))), (14, (.int .u64 (andV (shlV p1 (IntKind.wrap .u64 (t9))) 4294967295))), (59, (.int .u64 (orV (shlV p0 (IntKind.wrap .u64 (t9))) (shrV p1 (IntKind.wrap .u64 (64 - (IntKind.wrap .u64 (t9)))))))), (60, (.int .u64 (shrV (shlV p2 (IntKind.wrap .u64 (t9))) 32)))] [] (fun fb => by kernel_rfl) rfl trivial ?_
 obtain ⟨h16, hf⟩ := as_some hf
 refine seg 4 [] [2, 8, 9, 10, 11, 13, 14, 15] [(2, (.int .u64 (shlV p2 (IntKind.wrap .u64 (t9))))), (8, (.int .u64 (IntKind.wrap .u64 (t9)))), (9, (.int .u64 (shrV (shlV p2 (IntKind.wrap .u64 (t9))) 32))), (10, (.int .u64 (andV (shlV p2 (IntKind.wrap .u64 (t9))) 4294967295))), (11, (.int .u64 (orV (shlV p0 (IntKind.wrap .u64 (t9))) (shrV p1 (IntKind.wrap .u64 (64 - (IntKind.wrap .u64 (t9)))))))), (13, (.int .u64 (shrV (shlV p1 (IntKind.wrap .u64 (t9))) 32))), (14, (.int .u64 (andV (shlV p1 (IntKind.wrap .u64 (t9))) 4294967295))), (15, (.int .u64 (IntKind.wrap .u64 (Int.tdiv (orV (shlV p0 (IntKind.wrap .u64 (t9))) (shrV p1 (IntKind.wrap .u64 (64 - (IntKind.wrap .u64 (t9)))))) (shrV (shlV p2 (IntKind.wrap .u64 (t9))) 32)))))] [.ne (shrV (shlV p2 (IntKind.wrap .u64 (t9))) 32)] (fun fb => by kernel_rfl) rfl ⟨h16, trivial⟩ ?_
 refine WL.done rfl (WX.next (WC.seq (WC.region ?_)))
 refine seg 6 [] [2, 8, 9, 10, 11, 13, 14, 15, 16] [(2, (.int .u64 (shlV p2 (IntKind.wrap .u64 (t9))))), (8, (.int .u64 (IntKind.wrap .u64 (t9)))), (9, (.int .u64 (shrV (shlV p2 (IntKind.wrap .u64 (t9))) 32))), (10, (.int .u64 (andV (shlV p2 (IntKind.wrap .u64 (t9))) 4294967295))), (11, (.int .u64 (orV (shlV p0 (IntKind.wrap .u64 (t9))) (shrV p1 (IntKind.wrap .u64 (64 - (IntKind.wrap .u64 (t9)))))))), (13, (.int .u64 (shrV (shlV p1 (IntKind.wrap .u64 (t9))) 32))), (14, (.int .u64 (andV (shlV p1 (IntKind.wrap .u64 (t9))) 4294967295))), (15, (.int .u64 (IntKind.wrap .u64 (Int.tdiv (orV (shlV p0 (IntKind.wrap .u64 (t9))) (shrV p1 (IntKind.wrap .u64 (64 - (IntKind.wrap .u64 (t9)))))) (shrV (shlV p2 (IntKind.wrap .u64 (t9))) 32))))), (16, (.int .u64 (IntKind.wrap .u64 ((orV (shlV p0 (IntKind.wrap .u64 (t9))) (shrV p1 (IntKind.wrap .u64 (64 - (IntKind.wrap .u64 (t9)))))) - (IntKind.wrap .u64 ((IntKind.wrap .u64 (Int.tdiv (orV (shlV p0 (IntKind.wrap .u64 (t9))) (shrV p1 (IntKind.wrap .u64 (64 - (IntKind.wrap .u64 (t9)))))) (shrV (shlV p2 (IntKind.wrap .u64 (t9))) 32))) * (shrV (shlV p2 (IntKind.wrap .u64 (t9))) 32)))))))] [] (fun fb => by kernel_rfl) rfl trivial ?_
 refine WL.done rfl (WX.next (WC.seq ?_))
 obtain ⟨x19, hx20, hf⟩ := bind_some hf
 refine WC.cutN (T := Int) (fun t => [(2, (.int .u64 (shlV p2 (IntKind.wrap .u64 (t9))))), (8, (.int .u64 (IntKind.wrap .u64 (t9)))), (9, (.int .u64 (shrV (shlV p2 (IntKind.wrap .u64 (t9))) 32))), (10, (.int .u64 (andV (shlV p2 (IntKind.wrap .u64 (t9))) 4294967295))), (11, (.int .u64 (orV (shlV p0 (IntKind.wrap .u64 (t9))) (shrV p1 (IntKind.wrap .u64 (64 - (IntKind.wrap .u64 (t9)))))))), (13, (.int .u64 (shrV (shlV p1 (IntKind.wrap .u64 (t9))) 32))), (14, (.int .u64 (andV (shlV p1 (IntKind.wrap .u64 (t9))) 4294967295))), (15, (.int .u64 t))]) (fun t w1 => St NoS w w1 [] [] ∧ x19 = t) (fun Kx19 => ?_) ?_
 ·
  refine WC.block ?_
  refine WC.loop (T := Int × Int) (fun t => [(2, (.int .u64 (shlV p2 (IntKind.wrap .u64 (t9))))), (8, (.int .u64 (IntKind.wrap .u64 (t9)))), (9, (.int .u64 (shrV (shlV p2 (IntKind.wrap .u64 (t9))) 32))), (10, (.int .u64 (andV (shlV p2 (IntKind.wrap .u64 (t9))) 4294967295))), (11, (.int .u64 (orV (shlV p0 (IntKind.wrap .u64 (t9))) (shrV p1 (IntKind.wrap .u64 (64 - (IntKind.wrap .u64 (t9)))))))), (13, (.int .u64 (shrV (shlV p1 (IntKind.wrap .u64 (t9))) 32))), (14, (.int .u64 (andV (shlV p1 (IntKind.wrap .u64 (t9))) 4294967295))), (15, (.int .u64 t.1)), (16, (.int .u64 t.2))]) (fun n t w1 => St NoS w w1 [] [] ∧ bits_Div64.l0 n t.1 t.2 p1 p2 t9 = some x19) k (IntKind.wrap .u64 (Int.tdiv (orV (shlV p0 (IntKind.wrap .u64 (t9))) (shrV p1 (IntKind.wrap .u64 (64 - (IntKind.wrap .u64 (t9)))))) (shrV (shlV p2 (IntKind.wrap .u64 (t9))) 32)), IntKind.wrap .u64 ((orV (shlV p0 (IntKind.wrap .u64 (t9))) (shrV p1 (IntKind.wrap .u64 (64 - (IntKind.wrap .u64 (t9)))))) - (IntKind.wrap .u64 ((IntKind.wrap .u64 (Int.tdiv (orV (shlV p0 (IntKind.wrap .u64 (t9))) (shrV p1 (IntKind.wrap .u64 (64 - (IntKind.wrap .u64 (t9)))))) (shrV (shlV p2 (IntKind.wrap .u64 (t9))) 32))) * (shrV (shlV p2 (IntKind.wrap .u64 (t9))) 32))))) [2, 8, 9, 10, 11, 13, 14, 15, 16] rfl ⟨(hS13.subR []).sub [] (by decide), hx20⟩ ?_
  rintro k21 ⟨x17, x18⟩ w22 ⟨hS23, hl24⟩
  cases k21 with
  | zero => rw [bits_Div64.l0] at hl24; cases hl24
  | succ k21 =>
   rw [bits_Div64.l0] at hl24
   refine WC.seq (WC.seq (WC.region ?_))
   refine seg 3 [] [2, 8, 9, 10, 11, 13, 14, 15, 16, 69] [(2, (.int .u64 (shlV p2 (IntKind.wrap .u64 (t9))))), (8, (.int .u64 (IntKind.wrap .u64 (t9)))), (9, (.int .u64 (shrV (shlV p2 (IntKind.wrap .u64 (t9))) 32))), (10, (.int .u64 (andV (shlV p2 (IntKind.wrap .u64 (t9))) 4294967295))), (11, (.int .u64 (orV (shlV p0 (IntKind.wrap .u64 (t9))) (shrV p1 (IntKind.wrap .u64 (64 - (IntKind.wrap .u64 (t9)))))))), (13, (.int .u64 (shrV (shlV p1 (IntKind.wrap .u64 (t9))) 32))), (14, (.int .u64 (andV (shlV p1 (IntKind.wrap .u64 (t9))) 4294967295))), (15, (.int .u64 x17)), (16, (.int .u64 x18)), (69, (bv (decide (x17 ≥ 4294967296))))] [] (fun fb => by kernel_rfl) rfl trivial ?_
   refine WL.cutV (T := Bool) 12 (fun t => [(78, (bv t)), (2, (.int .u64 (shlV p2 (IntKind.wrap .u64 (t9))))), (8, (.int .u64 (IntKind.wrap .u64 (t9)))), (9, (.int .u64 (shrV (shlV p2 (IntKind.wrap .u64 (t9))) 32))), (10, (.int .u64 (andV (shlV p2 (IntKind.wrap .u64 (t9))) 4294967295))), (11, (.int .u64 (orV (shlV p0 (IntKind.wrap .u64 (t9))) (shrV p1 (IntKind.wrap .u64 (64 - (IntKind.wrap .u64 (t9)))))))), (13, (.int .u64 (shrV (shlV p1 (IntKind.wrap .u64 (t9))) 32))), (14, (.int .u64 (andV (shlV p1 (IntKind.wrap .u64 (t9))) 4294967295))), (15, (.int .u64 x17)), (16, (.int .u64 x18))]) (fun t => ((decide (x17 ≥ 4294967296)) || (decide (IntKind.wrap .u64 (x17 * (andV (shlV p2 (IntKind.wrap .u64 (t9))) 4294967295)) > IntKind.wrap .u64 ((IntKind.wrap .u64 (4294967296 * x18)) + (shrV (shlV p1 (IntKind.wrap .u64 (t9))) 32))))) = t) (fun K => ?_) ?_
   ·
    rcases Bool.eq_false_or_eq_true (decide (x17 ≥ 4294967296)) with h25 | h25
    ·
     refine WL.setB 69 h25 rfl ?_
     refine seg 12 [] [2, 8, 9, 10, 11, 13, 14, 15, 16, 78] [(2, (.int .u64 (shlV p2 (IntKind.wrap .u64 (t9))))), (8, (.int .u64 (IntKind.wrap .u64 (t9)))), (9, (.int .u64 (shrV (shlV p2 (IntKind.wrap .u64 (t9))) 32))), (10, (.int .u64 (andV (shlV p2 (IntKind.wrap .u64 (t9))) 4294967295))), (11, (.int .u64 (orV (shlV p0 (IntKind.wrap .u64 (t9))) (shrV p1 (IntKind.wrap .u64 (64 - (IntKind.wrap .u64 (t9)))))))), (13, (.int .u64 (shrV (shlV p1 (IntKind.wrap .u64 (t9))) 32))), (14, (.int .u64 (andV (shlV p1 (IntKind.wrap .u64 (t9))) 4294967295))), (15, (.int .u64 x17)), (16, (.int .u64 x18)), (78, (bv true))] [] (fun fb => by kernel_rfl) rfl trivial ?_
     exact WL.toV K true [78, 2, 8, 9, 10, 11, 13, 14, 15, 16] rfl (by first | (rw [h25]; done) | (rw [h25]; rfl))
    refine WL.setB 69 h25 rfl ?_
    refine seg 12 [] [2, 8, 9, 10, 11, 13, 14, 15, 16, 78] [(2, (.int .u64 (shlV p2 (IntKind.wrap .u64 (t9))))), (8, (.int .u64 (IntKind.wrap .u64 (t9)))), (9, (.int .u64 (shrV (shlV p2 (IntKind.wrap .u64 (t9))) 32))), (10, (.int .u64 (andV (shlV p2 (IntKind.wrap .u64 (t9))) 4294967295))), (11, (.int .u64 (orV (shlV p0 (IntKind.wrap .u64 (t9))) (shrV p1 (IntKind.wrap .u64 (64 - (IntKind.wrap .u64 (t9)))))))), (13, (.int .u64 (shrV (shlV p1 (IntKind.wrap .u64 (t9))) 32))), (14, (.int .u64 (andV (shlV p1 (IntKind.wrap .u64 (t9))) 4294967295))), (15, (.int .u64 x17)), (16, (.int .u64 x18)), (78, (bv (decide (IntKind.wrap .u64 (x17 * (andV (shlV p2 (IntKind.wrap .u64 (t9))) 4294967295)) > IntKind.wrap .u64 ((IntKind.wrap .u64 (4294967296 * x18)) + (shrV (shlV p1 (IntKind.wrap .u64 (t9))) 32))))))] [] (fun fb => by kernel_rfl) rfl trivial ?_
    exact WL.toV K (decide (IntKind.wrap .u64 (x17 * (andV (shlV p2 (IntKind.wrap .u64 (t9))) 4294967295)) > IntKind.wrap .u64 ((IntKind.wrap .u64 (4294967296 * x18)) + (shrV (shlV p1 (IntKind.wrap .u64 (t9))) 32)))) [78, 2, 8, 9, 10, 11, 13, 14, 15, 16] rfl (by first | (rw [h25]; done) | (rw [h25]; rfl))
   rintro b26 rfl
   refine WL.done rfl (WX.next ?_)
   rcases br_some hl24 with ⟨h27, hl24⟩ | ⟨h27, hl24⟩
   ·refine WC.condT2 (fun fb => by kernel_rfl) h27 ?_
    refine WC.skip (WX.next (WC.block (WC.seq (WC.region ?_))))
    refine seg 3 [] [2, 8, 9, 10, 11, 13, 14, 15, 16] [(2, (.int .u64 (shlV p2 (IntKind.wrap .u64 (t9))))), (8, (.int .u64 (IntKind.wrap .u64 (t9)))), (9, (.int .u64 (shrV (shlV p2 (IntKind.wrap .u64 (t9))) 32))), (10, (.int .u64 (andV (shlV p2 (IntKind.wrap .u64 (t9))) 4294967295))), (11, (.int .u64 (orV (shlV p0 (IntKind.wrap .u64 (t9))) (shrV p1 (IntKind.wrap .u64 (64 - (IntKind.wrap .u64 (t9)))))))), (13, (.int .u64 (shrV (shlV p1 (IntKind.wrap .u64 (t9))) 32))), (14, (.int .u64 (andV (shlV p1 (IntKind.wrap .u64 (t9))) 4294967295))), (15, (.int .u64 (IntKind.wrap .u64 (x17 - 1)))), (16, (.int .u64 x18))] [] (fun fb => by kernel_rfl) rfl trivial ?_
    refine WL.done rfl (WX.next (WC.seq (WC.region ?_)))
    refine seg 4 [] [2, 8, 9, 10, 11, 13, 14, 15, 16] [(2, (.int .u64 (shlV p2 (IntKind.wrap .u64 (t9))))), (8, (.int .u64 (IntKind.wrap .u64 (t9)))), (9, (.int .u64 (shrV (shlV p2 (IntKind.wrap .u64 (t9))) 32))), (10, (.int .u64 (andV (shlV p2 (IntKind.wrap .u64 (t9))) 4294967295))), (11, (.int .u64 (orV (shlV p0 (IntKind.wrap .u64 (t9))) (shrV p1 (IntKind.wrap .u64 (64 - (IntKind.wrap .u64 (t9)))))))), (13, (.int .u64 (shrV (shlV p1 (IntKind.wrap .u64 (t9))) 32))), (14, (.int .u64 (andV (shlV p1 (IntKind.wrap .u64 (t9))) 4294967295))), (15, (.int .u64 (IntKind.wrap .u64 (x17 - 1)))), (16, (.int .u64 (IntKind.wrap .u64 (x18 + (shrV (shlV p2 (IntKind.wrap .u64 (t9))) 32)))))] [] (fun fb => by kernel_rfl) rfl trivial ?_
    refine WL.done rfl (WX.next (WC.seq (WC.region ?_)))
    refine seg 2 [] [2, 8, 9, 10, 11, 13, 14, 15, 16, 85] [(2, (.int .u64 (shlV p2 (IntKind.wrap .u64 (t9))))), (8, (.int .u64 (IntKind.wrap .u64 (t9)))), (9, (.int .u64 (shrV (shlV p2 (IntKind.wrap .u64 (t9))) 32))), (10, (.int .u64 (andV (shlV p2 (IntKind.wrap .u64 (t9))) 4294967295))), (11, (.int .u64 (orV (shlV p0 (IntKind.wrap .u64 (t9))) (shrV p1 (IntKind.wrap .u64 (64 - (IntKind.wrap .u64 (t9)))))))), (13, (.int .u64 (shrV (shlV p1 (IntKind.wrap .u64 (t9))) 32))), (14, (.int .u64 (andV (shlV p1 (IntKind.wrap .u64 (t9))) 4294967295))), (15, (.int .u64 (IntKind.wrap .u64 (x17 - 1)))), (16, (.int .u64 (IntKind.wrap .u64 (x18 + (shrV (shlV p2 (IntKind.wrap .u64 (t9))) 32))))), (85, (bv (decide (IntKind.wrap .u64 (x18 + (shrV (shlV p2 (IntKind.wrap .u64 (t9))) 32)) ≥ 4294967296))))] [] (fun fb => by kernel_rfl) rfl trivial ?_
    refine WL.done rfl (WX.next ?_)
    rcases br_some hl24 with ⟨h28, hl24⟩ | ⟨h28, hl24⟩
    ·refine WC.condT2 (fun fb => by kernel_rfl) h28 ?_
     refine WC.exit ?_
     injection hl24 with hl24
     exact WX.blockPast (by decide) (WX.thenX (WX.blockHere (WX.to Kx19 (IntKind.wrap .u64 (x17 - 1)) [2, 8, 9, 10, 11, 13, 14, 15] rfl ⟨(hS23.subR []).sub [] (by decide), hl24.symm⟩)))
    refine WC.condF2 (fun fb => by kernel_rfl) h28 ?_
    refine WC.skip ?_
    exact WX.blockN (WX.again k21 (Nat.lt_succ_self _) (IntKind.wrap .u64 (x17 - 1), IntKind.wrap .u64 (x18 + (shrV (shlV p2 (IntKind.wrap .u64 (t9))) 32))) [2, 8, 9, 10, 11, 13, 14, 15, 16] rfl ⟨(hS23.subR []).sub [] (by decide), hl24⟩)
   refine WC.condF2 (fun fb => by kernel_rfl) h27 ?_
   refine WC.exit ?_
   injection hl24 with hl24
   exact WX.thenX (WX.thenX (WX.blockHere (WX.to Kx19 x17 [2, 8, 9, 10, 11, 13, 14, 15] rfl ⟨(hS23.subR []).sub [] (by decide), hl24.symm⟩)))
 rintro y32 w29 ⟨hS30, hq31⟩
 subst hq31
 refine WX.next (WC.seq (WC.region ?_))
 refine seg 9 [] [2, 8, 9, 10, 14, 15, 17] [(2, (.int .u64 (shlV p2 (IntKind.wrap .u64 (t9))))), (8, (.int .u64 (IntKind.wrap .u64 (t9)))), (9, (.int .u64 (shrV (shlV p2 (IntKind.wrap .u64 (t9))) 32))), (10, (.int .u64 (andV (shlV p2 (IntKind.wrap .u64 (t9))) 4294967295))), (14, (.int .u64 (andV (shlV p1 (IntKind.wrap .u64 (t9))) 4294967295))), (15, (.int .u64 x19)), (17, (.int .u64 (IntKind.wrap .u64 ((IntKind.wrap .u64 ((IntKind.wrap .u64 ((orV (shlV p0 (IntKind.wrap .u64 (t9))) (shrV p1 (IntKind.wrap .u64 (64 - (IntKind.wrap .u64 (t9)))))) * 4294967296)) + (shrV (shlV p1 (IntKind.wrap .u64 (t9))) 32))) - (IntKind.wrap .u64 (x19 * (shlV p2 (IntKind.wrap .u64 (t9)))))))))] [] (fun fb => by kernel_rfl) rfl trivial ?_
 refine WL.done rfl (WX.next (WC.seq (WC.region ?_)))
 refine seg 4 [] [2, 8, 9, 10, 14, 15, 17, 18] [(2, (.int .u64 (shlV p2 (IntKind.wrap .u64 (t9))))), (8, (.int .u64 (IntKind.wrap .u64 (t9)))), (9, (.int .u64 (shrV (shlV p2 (IntKind.wrap .u64 (t9))) 32))), (10, (.int .u64 (andV (shlV p2 (IntKind.wrap .u64 (t9))) 4294967295))), (14, (.int .u64 (andV (shlV p1 (IntKind.wrap .u64 (t9))) 4294967295))), (15, (.int .u64 x19)), (17, (.int .u64 (IntKind.wrap .u64 ((IntKind.wrap .u64 ((IntKind.wrap .u64 ((orV (shlV p0 (IntKind.wrap .u64 (t9))) (shrV p1 (IntKind.wrap .u64 (64 - (IntKind.wrap .u64 (t9)))))) * 4294967296)) + (shrV (shlV p1 (IntKind.wrap .u64 (t9))) 32))) - (IntKind.wrap .u64 (x19 * (shlV p2 (IntKind.wrap .u64 (t9))))))))), (18, (.int .u64 (IntKind.wrap .u64 (Int.tdiv (IntKind.wrap .u64 ((IntKind.wrap .u64 ((IntKind.wrap .u64 ((orV (shlV p0 (IntKind.wrap .u64 (t9))) (shrV p1 (IntKind.wrap .u64 (64 - (IntKind.wrap .u64 (t9)))))) * 4294967296)) + (shrV (shlV p1 (IntKind.wrap .u64 (t9))) 32))) - (IntKind.wrap .u64 (x19 * (shlV p2 (IntKind.wrap .u64 (t9))))))) (shrV (shlV p2 (IntKind.wrap .u64 (t9))) 32)))))] [.ne (shrV (shlV p2 (IntKind.wrap .u64 (t9))) 32)] (fun fb => by kernel_rfl) rfl ⟨h16, trivial⟩ ?_
 refine WL.done rfl (WX.next (WC.seq (WC.region ?_)))
 refine seg 6 [] [2, 8, 9, 10, 14, 15, 16, 17, 18] [(2, (.int .u64 (shlV p2 (IntKind.wrap .u64 (t9))))), (8, (.int .u64 (IntKind.wrap .u64 (t9)))), (9, (.int .u64 (shrV (shlV p2 (IntKind.wrap .u64 (t9))) 32))), (10, (.int .u64 (andV (shlV p2 (IntKind.wrap .u64 (t9))) 4294967295))), (14, (.int .u64 (andV (shlV p1 (IntKind.wrap .u64 (t9))) 4294967295))), (15, (.int .u64 x19)), (16, (.int .u64 (IntKind.wrap .u64 ((IntKind.wrap .u64 ((IntKind.wrap .u64 ((IntKind.wrap .u64 ((orV (shlV p0 (IntKind.wrap .u64 (t9))) (shrV p1 (IntKind.wrap .u64 (64 - (IntKind.wrap .u64 (t9)))))) * 4294967296)) + (shrV (shlV p1 (IntKind.wrap .u64 (t9))) 32))) - (IntKind.wrap .u64 (x19 * (shlV p2 (IntKind.wrap .u64 (t9))))))) - (IntKind.wrap .u64 ((IntKind.wrap .u64 (Int.tdiv (IntKind.wrap .u64 ((IntKind.wrap .u64 ((IntKind.wrap .u64 ((orV (shlV p0 (IntKind.wrap .u64 (t9))) (shrV p1 (IntKind.wrap .u64 (64 - (IntKind.wrap .u64 (t9)))))) * 4294967296)) + (shrV (shlV p1 (IntKind.wrap .u64 (t9))) 32))) - (IntKind.wrap .u64 (x19 * (shlV p2 (IntKind.wrap .u64 (t9))))))) (shrV (shlV p2 (IntKind.wrap .u64 (t9))) 32))) * (shrV (shlV p2 (IntKind.wrap .u64 (t9))) 32))))))), (17, (.int .u64 (IntKind.wrap .u64 ((IntKind.wrap .u64 ((IntKind.wrap .u64 ((orV (shlV p0 (IntKind.wrap .u64 (t9))) (shrV p1 (IntKind.wrap .u64 (64 - (IntKind.wrap .u64 (t9)))))) * 4294967296)) + (shrV (shlV p1 (IntKind.wrap .u64 (t9))) 32))) - (IntKind.wrap .u64 (x19 * (shlV p2 (IntKind.wrap .u64 (t9))))))))), (18, (.int .u64 (IntKind.wrap .u64 (Int.tdiv (IntKind.wrap .u64 ((IntKind.wrap .u64 ((IntKind.wrap .u64 ((orV (shlV p0 (IntKind.wrap .u64 (t9))) (shrV p1 (IntKind.wrap .u64 (64 - (IntKind.wrap .u64 (t9)))))) * 4294967296)) + (shrV (shlV p1 (IntKind.wrap .u64 (t9))) 32))) - (IntKind.wrap .u64 (x19 * (shlV p2 (IntKind.wrap .u64 (t9))))))) (shrV (shlV p2 (IntKind.wrap .u64 (t9))) 32)))))] [] (fun fb => by kernel_rfl) rfl trivial ?_
 refine WL.done rfl (WX.next (WC.seq ?_))
 obtain ⟨x35, hx36, hf⟩ := bind_some hf
 refine WC.cutN (T := Int) (fun t => [(2, (.int .u64 (shlV p2 (IntKind.wrap .u64 (t9))))), (8, (.int .u64 (IntKind.wrap .u64 (t9)))), (14, (.int .u64 (andV (shlV p1 (IntKind.wrap .u64 (t9))) 4294967295))), (15, (.int .u64 x19)), (17, (.int .u64 (IntKind.wrap .u64 ((IntKind.wrap .u64 ((IntKind.wrap .u64 ((orV (shlV p0 (IntKind.wrap .u64 (t9))) (shrV p1 (IntKind.wrap .u64 (64 - (IntKind.wrap .u64 (t9)))))) * 4294967296)) + (shrV (shlV p1 (IntKind.wrap .u64 (t9))) 32))) - (IntKind.wrap .u64 (x19 * (shlV p2 (IntKind.wrap .u64 (t9))))))))), (18, (.int .u64 t))]) (fun t w1 => St NoS w w1 [] [] ∧ x35 = t) (fun Kx35 => ?_) ?_
 ·
  refine WC.block ?_
  refine WC.loop (T := Int × Int) (fun t => [(2, (.int .u64 (shlV p2 (IntKind.wrap .u64 (t9))))), (8, (.int .u64 (IntKind.wrap .u64 (t9)))), (9, (.int .u64 (shrV (shlV p2 (IntKind.wrap .u64 (t9))) 32))), (10, (.int .u64 (andV (shlV p2 (IntKind.wrap .u64 (t9))) 4294967295))), (14, (.int .u64 (andV (shlV p1 (IntKind.wrap .u64 (t9))) 4294967295))), (15, (.int .u64 x19)), (16, (.int .u64 t.1)), (17, (.int .u64 (IntKind.wrap .u64 ((IntKind.wrap .u64 ((IntKind.wrap .u64 ((orV (shlV p0 (IntKind.wrap .u64 (t9))) (shrV p1 (IntKind.wrap .u64 (64 - (IntKind.wrap .u64 (t9)))))) * 4294967296)) + (shrV (shlV p1 (IntKind.wrap .u64 (t9))) 32))) - (IntKind.wrap .u64 (x19 * (shlV p2 (IntKind.wrap .u64 (t9))))))))), (18, (.int .u64 t.2))]) (fun n t w1 => St NoS w w1 [] [] ∧ bits_Div64.l1 n t.1 t.2 p1 p2 t9 = some x35) k (IntKind.wrap .u64 ((IntKind.wrap .u64 ((IntKind.wrap .u64 ((IntKind.wrap .u64 ((orV (shlV p0 (IntKind.wrap .u64 (t9))) (shrV p1 (IntKind.wrap .u64 (64 - (IntKind.wrap .u64 (t9)))))) * 4294967296)) + (shrV (shlV p1 (IntKind.wrap .u64 (t9))) 32))) - (IntKind.wrap .u64 (x19 * (shlV p2 (IntKind.wrap .u64 (t9))))))) - (IntKind.wrap .u64 ((IntKind.wrap .u64 (Int.tdiv (IntKind.wrap .u64 ((IntKind.wrap .u64 ((IntKind.wrap .u64 ((orV (shlV p0 (IntKind.wrap .u64 (t9))) (shrV p1 (IntKind.wrap .u64 (64 - (IntKind.wrap .u64 (t9)))))) * 4294967296)) + (shrV (shlV p1 (IntKind.wrap .u64 (t9))) 32))) - (IntKind.wrap .u64 (x19 * (shlV p2 (IntKind.wrap .u64 (t9))))))) (shrV (shlV p2 (IntKind.wrap .u64 (t9))) 32))) * (shrV (shlV p2 (IntKind.wrap .u64 (t9))) 32)))), IntKind.wrap .u64 (Int.tdiv (IntKind.wrap .u64 ((IntKind.wrap .u64 ((IntKind.wrap .u64 ((orV (shlV p0 (IntKind.wrap .u64 (t9))) (shrV p1 (IntKind.wrap .u64 (64 - (IntKind.wrap .u64 (t9)))))) * 4294967296)) + (shrV (shlV p1 (IntKind.wrap .u64 (t9))) 32))) - (IntKind.wrap .u64 (x19 * (shlV p2 (IntKind.wrap .u64 (t9))))))) (shrV (shlV p2 (IntKind.wrap .u64 (t9))) 32))) [2, 8, 9, 10, 14, 15, 16, 17, 18] rfl ⟨(hS30.subR []).sub [] (by decide), hx36⟩ ?_
  rintro k37 ⟨x33, x34⟩ w38 ⟨hS39, hl40⟩
  cases k37 with
  | zero => rw [bits_Div64.l1] at hl40; cases hl40
  | succ k37 =>
   rw [bits_Div64.l1] at hl40
   refine WC.seq (WC.seq (WC.region ?_))
   refine seg 3 [] [2, 8, 9, 10, 14, 15, 16, 17, 18, 104] [(2, (.int .u64 (shlV p2 (IntKind.wrap .u64 (t9))))), (8, (.int .u64 (IntKind.wrap .u64 (t9)))), (9, (.int .u64 (shrV (shlV p2 (IntKind.wrap .u64 (t9))) 32))), (10, (.int .u64 (andV (shlV p2 (IntKind.wrap .u64 (t9))) 4294967295))), (14, (.int .u64 (andV (shlV p1 (IntKind.wrap .u64 (t9))) 4294967295))), (15, (.int .u64 x19)), (16, (.int .u64 x33)), (17, (.int .u64 (IntKind.wrap .u64 ((IntKind.wrap .u64 ((IntKind.wrap .u64 ((orV (shlV p0 (IntKind.wrap .u64 (t9))) (shrV p1 (IntKind.wrap .u64 (64 - (IntKind.wrap .u64 (t9)))))) * 4294967296)) + (shrV (shlV p1 (IntKind.wrap .u64 (t9))) 32))) - (IntKind.wrap .u64 (x19 * (shlV p2 (IntKind.wrap .u64 (t9))))))))), (18, (.int .u64 x34)), (104, (bv (decide (x34 ≥ 4294967296))))] [] (fun fb => by kernel_rfl) rfl trivial ?_
   refine WL.cutV (T := Bool) 12 (fun t => [(113, (bv t)), (2, (.int .u64 (shlV p2 (IntKind.wrap .u64 (t9))))), (8, (.int .u64 (IntKind.wrap .u64 (t9)))), (9, (.int .u64 (shrV (shlV p2 (IntKind.wrap .u64 (t9))) 32))), (10, (.int .u64 (andV (shlV p2 (IntKind.wrap .u64 (t9))) 4294967295))), (14, (.int .u64 (andV (shlV p1 (IntKind.wrap .u64 (t9))) 4294967295))), (15, (.int .u64 x19)), (16, (.int .u64 x33)), (17, (.int .u64 (IntKind.wrap .u64 ((IntKind.wrap .u64 ((IntKind.wrap .u64 ((orV (shlV p0 (IntKind.wrap .u64 (t9))) (shrV p1 (IntKind.wrap .u64 (64 - (IntKind.wrap .u64 (t9)))))) * 4294967296)) + (shrV (shlV p1 (IntKind.wrap .u64 (t9))) 32))) - (IntKind.wrap .u64 (x19 * (shlV p2 (IntKind.wrap .u64 (t9))))))))), (18, (.int .u64 x34))]) (fun t => ((decide (x34 ≥ 4294967296)) || (decide (IntKind.wrap .u64 (x34 * (andV (shlV p2 (IntKind.wrap .u64 (t9))) 4294967295)) > IntKind.wrap .u64 ((IntKind.wrap .u64 (4294967296 * x33)) + (andV (shlV p1 (IntKind.wrap .u64 (t9))) 4294967295))))) = t) (fun K => ?_) ?_
   ·
    rcases Bool.eq_false_or_eq_true (decide (x34 ≥ 4294967296)) with h41 | h41
    ·
     refine WL.setB 104 h41 rfl ?_
     refine seg 12 [] [2, 8, 9, 10, 14, 15, 16, 17, 18, 113] [(2, (.int .u64 (shlV p2 (IntKind.wrap .u64 (t9))))), (8, (.int .u64 (IntKind.wrap .u64 (t9)))), (9, (.int .u64 (shrV (shlV p2 (IntKind.wrap .u64 (t9))) 32))), (10, (.int .u64 (andV (shlV p2 (IntKind.wrap .u64 (t9))) 4294967295))), (14, (.int .u64 (andV (shlV p1 (IntKind.wrap .u64 (t9))) 4294967295))), (15, (.int .u64 x19)), (16, (.int .u64 x33)), (17, (.int .u64 (IntKind.wrap .u64 ((IntKind.wrap .u64 ((IntKind.wrap .u64 ((orV (shlV p0 (IntKind.wrap .u64 (t9))) (shrV p1 (IntKind.wrap .u64 (64 - (IntKind.wrap .u64 (t9)))))) * 4294967296)) + (shrV (shlV p1 (IntKind.wrap .u64 (t9))) 32))) - (IntKind.wrap .u64 (x19 * (shlV p2 (IntKind.wrap .u64 (t9))))))))), (18, (.int .u64 x34)), (113, (bv true))] [] (fun fb => by kernel_rfl) rfl trivial ?_
     exact WL.toV K true [113, 2, 8, 9, 10, 14, 15, 16, 17, 18] rfl (by first | (rw [h41]; done) | (rw [h41]; rfl))
    refine WL.setB 104 h41 rfl ?_
    refine seg 12 [] [2, 8, 9, 10, 14, 15, 16, 17, 18, 113] [(2, (.int .u64 (shlV p2 (IntKind.wrap .u64 (t9))))), (8, (.int .u64 (IntKind.wrap .u64 (t9)))), (9, (.int .u64 (shrV (shlV p2 (IntKind.wrap .u64 (t9))) 32))), (10, (.int .u64 (andV (shlV p2 (IntKind.wrap .u64 (t9))) 4294967295))), (14, (.int .u64 (andV (shlV p1 (IntKind.wrap .u64 (t9))) 4294967295))), (15, (.int .u64 x19)), (16, (.int .u64 x33)), (17, (.int .u64 (IntKind.wrap .u64 ((IntKind.wrap .u64 ((IntKind.wrap .u64 ((orV (shlV p0 (IntKind.wrap .u64 (t9))) (shrV p1 (IntKind.wrap .u64 (64 - (IntKind.wrap .u64 (t9)))))) * 4294967296)) + (shrV (shlV p1 (IntKind.wrap .u64 (t9))) 32))) - (IntKind.wrap .u64 (x19 * (shlV p2 (IntKind.wrap .u64 (t9))))))))), (18, (.int .u64 x34)), (113, (bv (decide (IntKind.wrap .u64 (x34 * (andV (shlV p2 (IntKind.wrap .u64 (t9))) 4294967295)) > IntKind.wrap .u64 ((IntKind.wrap .u64 (4294967296 * x33)) + (andV (shlV p1 (IntKind.wrap .u64 (t9))) 4294967295))))))] [] (fun fb => by kernel_rfl) rfl trivial ?_
    exact WL.toV K (decide (IntKind.wrap .u64 (x34 * (andV (shlV p2 (IntKind.wrap .u64 (t9))) 4294967295)) > IntKind.wrap .u64 ((IntKind.wrap .u64 (4294967296 * x33)) + (andV (shlV p1 (IntKind.wrap .u64 (t9))) 4294967295)))) [113, 2, 8, 9, 10, 14, 15, 16, 17, 18] rfl (by first | (rw [h41]; done) | (rw [h41]; rfl))
   rintro b42 rfl
   refine WL.done rfl (WX.next ?_)
   rcases br_some hl40 with ⟨h43, hl40⟩ | ⟨h43, hl40⟩
   ·refine WC.condT2 (fun fb => by kernel_rfl) h43 ?_
    refine WC.skip (WX.next (WC.block (WC.seq (WC.region ?_))))
    refine seg 3 [] [2, 8, 9, 10, 14, 15, 16, 17, 18] [(2, (.int .u64 (shlV p2 (IntKind.wrap .u64 (t9))))), (8, (.int .u64 (IntKind.wrap .u64 (t9)))), (9, (.int .u64 (shrV (shlV p2 (IntKind.wrap .u64 (t9))) 32))), (10, (.int .u64 (andV (shlV p2 (IntKind.wrap .u64 (t9))) 4294967295))), (14, (.int .u64 (andV (shlV p1 (IntKind.wrap .u64 (t9))) 4294967295))), (15, (.int .u64 x19)), (16, (.int .u64 x33)), (17, (.int .u64 (IntKind.wrap .u64 ((IntKind.wrap .u64 ((IntKind.wrap .u64 ((orV (shlV p0 (IntKind.wrap .u64 (t9))) (shrV p1 (IntKind.wrap .u64 (64 - (IntKind.wrap .u64 (t9)))))) * 4294967296)) + (shrV (shlV p1 (IntKind.wrap .u64 (t9))) 32))) - (IntKind.wrap .u64 (x19 * (shlV p2 (IntKind.wrap .u64 (t9))))))))), (18, (.int .u64 (IntKind.wrap .u64 (x34 - 1))))] [] (fun fb => by kernel_rfl) rfl trivial ?_
    refine WL.done rfl (WX.next (WC.seq (WC.region ?_)))
    refine seg 4 [] [2, 8, 9, 10, 14, 15, 16, 17, 18] [(2, (.int .u64 (shlV p2 (IntKind.wrap .u64 (t9))))), (8, (.int .u64 (IntKind.wrap .u64 (t9)))), (9, (.int .u64 (shrV (shlV p2 (IntKind.wrap .u64 (t9))) 32))), (10, (.int .u64 (andV (shlV p2 (IntKind.wrap .u64 (t9))) 4294967295))), (14, (.int .u64 (andV (shlV p1 (IntKind.wrap .u64 (t9))) 4294967295))), (15, (.int .u64 x19)), (16, (.int .u64 (IntKind.wrap .u64 (x33 + (shrV (shlV p2 (IntKind.wrap .u64 (t9))) 32))))), (17, (.int .u64 (IntKind.wrap .u64 ((IntKind.wrap .u64 ((IntKind.wrap .u64 ((orV (shlV p0 (IntKind.wrap .u64 (t9))) (shrV p1 (IntKind.wrap .u64 (64 - (IntKind.wrap .u64 (t9)))))) * 4294967296)) + (shrV (shlV p1 (IntKind.wrap .u64 (t9))) 32))) - (IntKind.wrap .u64 (x19 * (shlV p2 (IntKind.wrap .u64 (t9))))))))), (18, (.int .u64 (IntKind.wrap .u64 (x34 - 1))))] [] (fun fb => by kernel_rfl) rfl trivial ?_
    refine WL.done rfl (WX.next (WC.seq (WC.region ?_)))
    refine seg 2 [] [2, 8, 9, 10, 14, 15, 16, 17, 18, 120] [(2, (.int .u64 (shlV p2 (IntKind.wrap .u64 (t9))))), (8, (.int .u64 (IntKind.wrap .u64 (t9)))), (9, (.int .u64 (shrV (shlV p2 (IntKind.wrap .u64 (t9))) 32))), (10, (.int .u64 (andV (shlV p2 (IntKind.wrap .u64 (t9))) 4294967295))), (14, (.int .u64 (andV (shlV p1 (IntKind.wrap .u64 (t9))) 4294967295))), (15, (.int .u64 x19)), (16, (.int .u64 (IntKind.wrap .u64 (x33 + (shrV (shlV p2 (IntKind.wrap .u64 (t9))) 32))))), (17, (.int .u64 (IntKind.wrap .u64 ((IntKind.wrap .u64 ((IntKind.wrap .u64 ((orV (shlV p0 (IntKind.wrap .u64 (t9))) (shrV p1 (IntKind.wrap .u64 (64 - (IntKind.wrap .u64 (t9)))))) * 4294967296)) + (shrV (shlV p1 (IntKind.wrap .u64 (t9))) 32))) - (IntKind.wrap .u64 (x19 * (shlV p2 (IntKind.wrap .u64 (t9))))))))), (18, (.int .u64 (IntKind.wrap .u64 (x34 - 1)))), (120, (bv (decide (IntKind.wrap .u64 (x33 + (shrV (shlV p2 (IntKind.wrap .u64 (t9))) 32)) ≥ 4294967296))))] [] (fun fb => by kernel_rfl) rfl trivial ?_
    refine WL.done rfl (WX.next ?_)
    rcases br_some hl40 with ⟨h44, hl40⟩ | ⟨h44, hl40⟩
    ·refine WC.condT2 (fun fb => by kernel_rfl) h44 ?_
     refine WC.exit ?_
     injection hl40 with hl40
     exact WX.blockPast (by decide) (WX.thenX (WX.blockHere (WX.to Kx35 (IntKind.wrap .u64 (x34 - 1)) [2, 8, 14, 15, 17, 18] rfl ⟨(hS39.subR []).sub [] (by decide), hl40.symm⟩)))
    refine WC.condF2 (fun fb => by kernel_rfl) h44 ?_
    refine WC.skip ?_
    exact WX.blockN (WX.again k37 (Nat.lt_succ_self _) (IntKind.wrap .u64 (x33 + (shrV (shlV p2 (IntKind.wrap .u64 (t9))) 32)), IntKind.wrap .u64 (x34 - 1)) [2, 8, 9, 10, 14, 15, 16, 17, 18] rfl ⟨(hS39.subR []).sub [] (by decide), hl40⟩)
   refine WC.condF2 (fun fb => by kernel_rfl) h43 ?_
   refine WC.exit ?_
   injection hl40 with hl40
   exact WX.thenX (WX.thenX (WX.blockHere (WX.to Kx35 x34 [2, 8, 14, 15, 17, 18] rfl ⟨(hS39.subR []).sub [] (by decide), hl40.symm⟩)))
 rintro y49 w46 ⟨hS47, hq48⟩
 subst hq48
 refine WX.next (WC.seq (WC.region ?_))
 refine seg 16 [] [6, 7] [(6, (.int .u64 (IntKind.wrap .u64 ((IntKind.wrap .u64 (x19 * 4294967296)) + x35)))), (7, (.int .u64 (shrV (IntKind.wrap .u64 ((IntKind.wrap .u64 ((IntKind.wrap .u64 ((IntKind.wrap .u64 ((IntKind.wrap .u64 ((IntKind.wrap .u64 ((orV (shlV p0 (IntKind.wrap .u64 (t9))) (shrV p1 (IntKind.wrap .u64 (64 - (IntKind.wrap .u64 (t9)))))) * 4294967296)) + (shrV (shlV p1 (IntKind.wrap .u64 (t9))) 32))) - (IntKind.wrap .u64 (x19 * (shlV p2 (IntKind.wrap .u64 (t9))))))) * 4294967296)) + (andV (shlV p1 (IntKind.wrap .u64 (t9))) 4294967295))) - (IntKind.wrap .u64 (x35 * (shlV p2 (IntKind.wrap .u64 (t9))))))) (IntKind.wrap .u64 (t9)))))] [.idx (some ⟨0, 0, none⟩) (IntKind.wrap .u64 (t9)) 64] (fun fb => by kernel_rfl) rfl ⟨⟨h14.1, h14.2, rfl⟩, trivial⟩ ?_
 refine WL.done rfl (WX.next ?_)
 refine WC.ret ?_
 injection hf with hf
 subst hf
 exact WX.ret_ [] (.tuple #[(.int .u64 (IntKind.wrap .u64 ((IntKind.wrap .u64 (x19 * 4294967296)) + x35))), (.int .u64 (shrV (IntKind.wrap .u64 ((IntKind.wrap .u64 ((IntKind.wrap .u64 ((IntKind.wrap .u64 ((IntKind.wrap .u64 ((IntKind.wrap .u64 ((orV (shlV p0 (IntKind.wrap .u64 (t9))) (shrV p1 (IntKind.wrap .u64 (64 - (IntKind.wrap .u64 (t9)))))) * 4294967296)) + (shrV (shlV p1 (IntKind.wrap .u64 (t9))) 32))) - (IntKind.wrap .u64 (x19 * (shlV p2 (IntKind.wrap .u64 (t9))))))) * 4294967296)) + (andV (shlV p1 (IntKind.wrap .u64 (t9))) 4294967295))) - (IntKind.wrap .u64 (x35 * (shlV p2 (IntKind.wrap .u64 (t9))))))) (IntKind.wrap .u64 (t9))))]) [] (fun fb => by kernel_rfl) trivial ⟨_, rfl, rfl, hS47.keep⟩
theorem weight_product_calls (k : Nat) (p0 : Int) (p1 : Int) (p2 : List Int) (Aa : Option Addr) (ca : Nat) (r : Int) (w : World) (hR0 : RO NoS w (rowR encInt Aa ca p2)) (hf : weight_product k p0 p1 p2 = some r) :
  CallsR Tryd.prog 32 #[(.int .u64 p0), (iv p1), (sv Aa p2 ca)] w (fun v w' => v = (.int .u64 r) ∧ Keeps NoS w w') := by
 have hS : St NoS w w [rowR encInt Aa ca p2] [] := St.init (ro_cons hR0 (ro_nil _ _))
 refine enter 56 Tryd.func32 rfl Tryd.ntmps32 rfl ?_
 unfold weight_product at hf
 refine WC.seq (WC.region ?_)
 refine seg 1 [] [0, 1, 2] [(0, (.int .u64 p0)), (1, (iv p1)), (2, (sv Aa p2 ca))] [] (fun fb => by kernel_rfl) rfl trivial ?_
 refine WL.done rfl (WX.next (WC.seq (WC.region ?_)))
 refine seg 1 [] [0, 1, 2, 7] [(0, (.int .u64 p0)), (1, (iv p1)), (2, (sv Aa p2 ca)), (7, (.int .u64 1))] [] (fun fb => by kernel_rfl) rfl trivial ?_
 refine WL.done rfl (WX.next (WC.seq (WC.seq (WC.region ?_))))
 refine seg 3 [] [0, 1, 7, 13, 14, 15] [(0, (.int .u64 p0)), (1, (iv p1)), (7, (.int .u64 1)), (13, (sv Aa p2 ca)), (14, (iv (p2.length : Int))), (15, (iv 0))] [] (fun fb => by kernel_rfl) rfl trivial ?_
 refine WL.done rfl (WX.next ?_)
 obtain ⟨x6, hx7, hf⟩ := bind_some hf
 refine WC.cutN (T := Int × Int) (fun t => [(0, (.int .u64 p0)), (1, (iv t.1)), (7, (.int .u64 t.2))]) (fun t w1 => St NoS w w1 [rowR encInt Aa ca p2] [] ∧ x6 = t) (fun Kx6 => ?_) ?_
 ·
  refine WC.block ?_
  refine WC.loop (T := Int × Int × Int) (fun t => [(0, (.int .u64 p0)), (1, (iv t.1)), (7, (.int .u64 t.2.1)), (13, (sv Aa p2 ca)), (14, (iv (p2.length : Int))), (15, (iv t.2.2))]) (fun n t w1 => St NoS w w1 [rowR encInt Aa ca p2] [] ∧ weight_product.l0 n t.1 t.2.1 t.2.2 p0 p2 = some x6) k (p1, 1, 0) [0, 1, 7, 13, 14, 15] rfl ⟨(hS.subR [0]).sub [] (by decide), hx7⟩ ?_
  rintro k8 ⟨x3, x4, x5⟩ w9 ⟨hS10, hl11⟩
  cases k8 with
  | zero => rw [weight_product.l0] at hl11; cases hl11
  | succ k8 =>
   rw [weight_product.l0] at hl11
   refine WC.seq (WC.region ?_)
   refine seg 1 [] [0, 1, 7, 13, 14, 15, 16] [(0, (.int .u64 p0)), (1, (iv x3)), (7, (.int .u64 x4)), (13, (sv Aa p2 ca)), (14, (iv (p2.length : Int))), (15, (iv x5)), (16, (bv (decide (x5 < (p2.length : Int)))))] [] (fun fb => by kernel_rfl) rfl trivial ?_
   refine WL.done rfl (WX.next (WC.seq ?_))
   rcases br_some hl11 with ⟨h12, hl11⟩ | ⟨h12, hl11⟩
   ·refine WC.condT2 (fun fb => by kernel_rfl) h12 ?_
    refine WC.skip (WX.next (WC.seq (WC.block (WC.seq (WC.region ?_)))))
    obtain ⟨h13, hl11⟩ := as_some hl11
    refine seg 3 [.v (iv (rdD p2 x5 0))] [0, 1, 7, 9, 13, 14, 15] [(0, (.int .u64 p0)), (1, (iv x3)), (7, (.int .u64 x4)), (9, (iv (rdD p2 x5 0))), (13, (sv Aa p2 ca)), (14, (iv (p2.length : Int))), (15, (iv x5))] [.idx Aa x5 p2.length, .cell ((adr Aa).add ((x5).toNat * 1)) (iv (rdD p2 x5 0))] (fun fb => by kernel_rfl) rfl ⟨rowR.adr (hS10.rd 0).1 h13.1 h13.2, rowR.cell (hS10.rd 0).1 0 h13.1 h13.2 0 rfl, trivial⟩ ?_
    refine WL.done rfl (WX.next (WC.seq (WC.region ?_)))
    refine seg 6 [] [0, 1, 7, 9, 13, 14, 15, 23, 24] [(0, (.int .u64 p0)), (1, (iv x3)), (7, (.int .u64 x4)), (9, (iv (rdD p2 x5 0))), (13, (sv Aa p2 ca)), (14, (iv (p2.length : Int))), (15, (iv x5)), (23, (.int .u64 (IntKind.wrap .u64 (maxI (rdD p2 x5 0) (w64 (0 - (rdD p2 x5 0))))))), (24, (.int .u64 p0))] [] (fun fb => by kernel_rfl) rfl trivial ?_
    obtain ⟨h14, hl11⟩ := as_some hl11
    refine seg 8 [] [0, 1, 7, 9, 10, 13, 14, 15] [(0, (.int .u64 p0)), (1, (iv x3)), (7, (.int .u64 x4)), (9, (iv (rdD p2 x5 0))), (10, (.int .u64 (Int.tmod (IntKind.wrap .u64 (maxI (rdD p2 x5 0) (w64 (0 - (rdD p2 x5 0))))) p0))), (13, (sv Aa p2 ca)), (14, (iv (p2.length : Int))), (15, (iv x5))] [.ne p0] (fun fb => by kernel_rfl) rfl ⟨h14, trivial⟩ ?_
    refine WL.done rfl (WX.next (WC.seq (WC.seq (WC.region ?_))))
    refine seg 2 [] [0, 1, 7, 10, 13, 14, 15, 27] [(0, (.int .u64 p0)), (1, (iv x3)), (7, (.int .u64 x4)), (10, (.int .u64 (Int.tmod (IntKind.wrap .u64 (maxI (rdD p2 x5 0) (w64 (0 - (rdD p2 x5 0))))) p0))), (13, (sv Aa p2 ca)), (14, (iv (p2.length : Int))), (15, (iv x5)), (27, (bv (decide ((rdD p2 x5 0) < 0))))] [] (fun fb => by kernel_rfl) rfl trivial ?_
    refine WL.done rfl (WX.next ?_)
    obtain ⟨x15, hx16, hl11⟩ := bind_some hl11
    refine WC.cutN (T := Int) (fun t => [(0, (.int .u64 p0)), (1, (iv t)), (7, (.int .u64 x4)), (10, (.int .u64 (Int.tmod (IntKind.wrap .u64 (maxI (rdD p2 x5 0) (w64 (0 - (rdD p2 x5 0))))) p0))), (13, (sv Aa p2 ca)), (14, (iv (p2.length : Int))), (15, (iv x5))]) (fun t w1 => St NoS w w1 [rowR encInt Aa ca p2] [] ∧ x15 = t) (fun Kx15 => ?_) ?_
    ·
     rcases br_some hx16 with ⟨h17, hx16⟩ | ⟨h17, hx16⟩
     ·refine WC.condT2 (fun fb => by kernel_rfl) h17 ?_
      refine WC.region ?_
      refine seg 3 [] [0, 1, 7, 10, 13, 14, 15] [(0, (.int .u64 p0)), (1, (iv (w64 (0 - x3)))), (7, (.int .u64 x4)), (10, (.int .u64 (Int.tmod (IntKind.wrap .u64 (maxI (rdD p2 x5 0) (w64 (0 - (rdD p2 x5 0))))) p0))), (13, (sv Aa p2 ca)), (14, (iv (p2.length : Int))), (15, (iv x5))] [] (fun fb => by kernel_rfl) rfl trivial ?_
      refine WL.done rfl ?_
      injection hx16 with hx16
      exact WX.to Kx15 (w64 (0 - x3)) [0, 1, 7, 10, 13, 14, 15] rfl ⟨(hS10.subR [0]).sub [] (by decide), hx16.symm⟩
     refine WC.condF2 (fun fb => by kernel_rfl) h17 ?_
     refine WC.skip ?_
     injection hx16 with hx16
     exact WX.to Kx15 x3 [0, 1, 7, 10, 13, 14, 15] rfl ⟨(hS10.subR [0]).sub [] (by decide), hx16.symm⟩
    rintro y21 w18 ⟨hS19, hq20⟩
    subst hq20
    refine WX.next (WC.seq (WC.region ?_))
    refine seg 2 [] [0, 1, 13, 14, 15, 31, 32] [(0, (.int .u64 p0)), (1, (iv x15)), (13, (sv Aa p2 ca)), (14, (iv (p2.length : Int))), (15, (iv x5)), (31, (.int .u64 x4)), (32, (.int .u64 (Int.tmod (IntKind.wrap .u64 (maxI (rdD p2 x5 0) (w64 (0 - (rdD p2 x5 0))))) p0)))] [] (fun fb => by kernel_rfl) rfl trivial ?_
    obtain ⟨t22, ht23, hl11⟩ := bind_some hl11
    refine WL.call (some 33) 44 #[(.int .u64 x4), (.int .u64 (Int.tmod (IntKind.wrap .u64 (maxI (rdD p2 x5 0) (w64 (0 - (rdD p2 x5 0))))) p0))] (fun fb => by kernel_rfl) (bits_Mul64_calls x4 (Int.tmod (IntKind.wrap .u64 (maxI (rdD p2 x5 0) (w64 (0 - (rdD p2 x5 0))))) p0) t22 _ ht23) (fun v w24 hR25 => ?_)
    obtain ⟨rfl, hk_⟩ := hR25
    have hS26 := hS19.keepN hk_
    refine ⟨trivial, ?_⟩
    refine seg 8 [] [0, 1, 11, 12, 13, 14, 15] [(0, (.int .u64 p0)), (1, (iv x15)), (11, (.int .u64 t22.1)), (12, (.int .u64 t22.2)), (13, (sv Aa p2 ca)), (14, (iv (p2.length : Int))), (15, (iv x5))] [] (fun fb => by kernel_rfl) rfl trivial ?_
    refine WL.done rfl (WX.next (WC.region ?_))
    refine seg 5 [] [0, 1, 13, 14, 15, 39, 40, 41] [(0, (.int .u64 p0)), (1, (iv x15)), (13, (sv Aa p2 ca)), (14, (iv (p2.length : Int))), (15, (iv x5)), (39, (.int .u64 (Int.tmod t22.1 p0))), (40, (.int .u64 t22.2)), (41, (.int .u64 p0))] [.ne p0] (fun fb => by kernel_rfl) rfl ⟨h14, trivial⟩ ?_
    obtain ⟨t27, ht28, hl11⟩ := bind_some hl11
    refine WL.call (some 42) 45 #[(.int .u64 (Int.tmod t22.1 p0)), (.int .u64 t22.2), (.int .u64 p0)] (fun fb => by kernel_rfl) (bits_Div64_calls _ (Int.tmod t22.1 p0) t22.2 p0 t27 _ ht28) (fun v w29 hR30 => ?_)
    obtain ⟨rfl, hk_⟩ := hR30
    have hS31 := hS26.keepN hk_
    refine ⟨trivial, ?_⟩
    refine seg 10 [] [0, 1, 7, 13, 14, 15] [(0, (.int .u64 p0)), (1, (iv x15)), (7, (.int .u64 t27.2)), (13, (sv Aa p2 ca)), (14, (iv (p2.length : Int))), (15, (iv x5))] [] (fun fb => by kernel_rfl) rfl trivial ?_
    refine WL.done rfl ?_
    refine WX.blockN (WX.next ?_)
    refine WC.region ?_
    refine seg 2 [] [0, 1, 7, 13, 14, 15] [(0, (.int .u64 p0)), (1, (iv x15)), (7, (.int .u64 t27.2)), (13, (sv Aa p2 ca)), (14, (iv (p2.length : Int))), (15, (iv (w64 (x5 + 1))))] [] (fun fb => by kernel_rfl) rfl trivial ?_
    refine WL.done rfl ?_
    exact WX.again k8 (Nat.lt_succ_self _) (x15, t27.2, w64 (x5 + 1)) [0, 1, 7, 13, 14, 15] rfl ⟨(hS31.subR [0]).sub [] (by decide), hl11⟩
   refine WC.condF2 (fun fb => by kernel_rfl) h12 ?_
   refine WC.exit ?_
   injection hl11 with hl11
   exact WX.thenX (WX.thenX (WX.blockHere (WX.to Kx6 (x3, x4) [0, 1, 7] rfl ⟨(hS10.subR [0]).sub [] (by decide), hl11.symm⟩)))
 rintro y36 w33 ⟨hS34, hq35⟩
 subst hq35
 refine WX.next (WC.seq (WC.seq (WC.region ?_)))
 refine seg 3 [] [0, 7, 48] [(0, (.int .u64 p0)), (7, (.int .u64 x6.2)), (48, (bv (decide (x6.1 < 0))))] [] (fun fb => by kernel_rfl) rfl trivial ?_
 refine WL.cutV (T := Bool) 6 (fun t => [(51, (bv t)), (0, (.int .u64 p0)), (7, (.int .u64 x6.2))]) (fun t => ((decide (x6.1 < 0)) && (x6.2 != 0)) = t) (fun K => ?_) ?_
 ·
  rcases Bool.eq_false_or_eq_true (decide (x6.1 < 0)) with h37 | h37
  ·
   refine WL.setB 48 h37 rfl ?_
   refine seg 6 [] [0, 7, 51] [(0, (.int .u64 p0)), (7, (.int .u64 x6.2)), (51, (bv (x6.2 != 0)))] [] (fun fb => by kernel_rfl) rfl trivial ?_
   exact WL.toV K (x6.2 != 0) [51, 0, 7] rfl (by first | (rw [h37]; done) | (rw [h37]; rfl))
  refine WL.setB 48 h37 rfl ?_
  refine seg 6 [] [0, 7, 51] [(0, (.int .u64 p0)), (7, (.int .u64 x6.2)), (51, (bv false))] [] (fun fb => by kernel_rfl) rfl trivial ?_
  exact WL.toV K false [51, 0, 7] rfl (by first | (rw [h37]; done) | (rw [h37]; rfl))
 rintro b38 rfl
 refine WL.done rfl (WX.next ?_)
 obtain ⟨x39, hx40, hf⟩ := bind_some hf
 refine WC.cutN (T := Int) (fun t => [(7, (.int .u64 t))]) (fun t w1 => St NoS w w1 [rowR encInt Aa ca p2] [] ∧ x39 = t) (fun Kx39 => ?_) ?_
 ·
  rcases br_some hx40 with ⟨h41, hx40⟩ | ⟨h41, hx40⟩
  ·refine WC.condT2 (fun fb => by kernel_rfl) h41 ?_
   refine WC.region ?_
   refine seg 4 [] [7] [(7, (.int .u64 (IntKind.wrap .u64 (p0 - x6.2))))] [] (fun fb => by kernel_rfl) rfl trivial ?_
   refine WL.done rfl ?_
   injection hx40 with hx40
   exact WX.to Kx39 (IntKind.wrap .u64 (p0 - x6.2)) [7] rfl ⟨(hS34.subR [0]).sub [] (by decide), hx40.symm⟩
  refine WC.condF2 (fun fb => by kernel_rfl) h41 ?_
  refine WC.skip ?_
  injection hx40 with hx40
  exact WX.to Kx39 x6.2 [7] rfl ⟨(hS34.subR [0]).sub [] (by decide), hx40.symm⟩
 rintro y45 w42 ⟨hS43, hq44⟩
 subst hq44
 refine WX.next (WC.seq (WC.region ?_))
 refine seg 2 [] [6] [(6, (.int .u64 x39))] [] (fun fb => by kernel_rfl) rfl trivial ?_
 refine WL.done rfl (WX.next ?_)
 refine WC.ret ?_
 injection hf with hf
 subst hf
 exact WX.ret_ [] (.int .u64 x39) [] (fun fb => by kernel_rfl) trivial ⟨_, rfl, rfl, hS43.keep⟩
end Gp
