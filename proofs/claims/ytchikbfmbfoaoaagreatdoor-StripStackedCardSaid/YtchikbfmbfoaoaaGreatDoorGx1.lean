/- Walks: each function of the program computes its plain function. -/
import Derived.Test.YtchikbfmbfoaoaaGreatDoorGx0
set_option linter.unusedVariables false
set_option linter.unusedSimpArgs false
set_option maxHeartbeats 4000000
set_option maxRecDepth 8000
namespace Gp
open Go Gw Go.Proofs
theorem strip_rest_colours_with_strip_east_key3 : KeyK Tryz.prog 3 (vI .i64) := KeyK.int (by kernel_rfl)
theorem strip_rest_colours_with_strip_east_calls (k : Nat) (p0 : Rest) (ga : Nat) (Aa : Option Addr) (ca : Nat) (Ab : Option Addr) (cb : Nat) (r : (List (Int × Bool))) (w : World) (hR0 : RO NoS w (blk ga (.cells #[(sv Aa p0.set ca), (sv Ab p0.left cb)] 90 (0, 0)))) (hR1 : RO NoS w (rowR enc_Tile Aa ca p0.set)) (hR2 : RO NoS w (rowR encInt Ab cb p0.left)) (hf : strip_rest_colours_with_strip_east k p0 = some r) :
  CallsR Tryz.prog 51 #[(pt ga), (.func (.func 53) #[] #[])] w (fun v w' => ∃ (g1_ : Nat), v = (.map (some g1_)) ∧ St NoS w w' [] [blk g1_ (mapObj (vI .i64) vB r)]) := by
 have hS : St NoS w w [blk ga (.cells #[(sv Aa p0.set ca), (sv Ab p0.left cb)] 90 (0, 0)), rowR enc_Tile Aa ca p0.set, rowR encInt Ab cb p0.left] [] := St.init (ro_cons hR0 (ro_cons hR1 (ro_cons hR2 (ro_nil _ _))))
 refine enter 30 Tryz.func51 rfl Tryz.ntmps51 rfl ?_
 unfold strip_rest_colours_with_strip_east at hf
 refine WC.seq (WC.region ?_)
 have hS4 := hS.go w [mapN (vI .i64) vB (none : Option Nat) ([] : List (Int × Bool))] (hS.mapnNil (vI .i64) vB)
 refine seg 1 [] [0, 1] [(0, (pt ga)), (1, (.func (.func 53) #[] #[]))] [] (fun fb => by kernel_rfl) rfl trivial ?_
 refine WL.done rfl (WX.next (WC.seq (WC.region ?_)))
 refine WL.new hS4 8 [] (fun g => (.map (some g))) (mapObj (vI .i64) vB ([] : List (Int × Bool))) [] (fun fb g => by kernel_rfl) trivial (fun g5 w6 hS7 => ?_)
 refine ⟨trivial, ?_⟩
 refine seg 2 [] [0, 1, 5] [(0, (pt ga)), (1, (.func (.func 53) #[] #[])), (5, (.map (some g5)))] [] (fun fb => by kernel_rfl) rfl trivial ?_
 refine WL.done rfl (WX.next (WC.seq (WC.seq (WC.region ?_))))
 refine seg 6 [.v (sv Ab p0.left cb)] [0, 1, 5, 12, 13, 14] [(0, (pt ga)), (1, (.func (.func 53) #[] #[])), (5, (.map (some g5))), (12, (sv Ab p0.left cb)), (13, (iv (p0.left.length : Int))), (14, (iv 0))] [.cell ⟨ga, 1, none⟩ (sv Ab p0.left cb)] (fun fb => by kernel_rfl) rfl ⟨blk_cell (hS7.rd 0).1 1 rfl, trivial⟩ ?_
 refine WL.done rfl (WX.next ?_)
 obtain ⟨x10, hx11, hf⟩ := bind_some hf
 let e2 : Nat × Value := (13, (iv (p0.left.length : Int)))
 let e4 := sv Ab p0.left cb
 let e6 := sv Aa p0.set ca
 refine WC.cutN (T := (List (Int × Bool))) (fun t => [(5, (.map (some g5)))]) (fun t w1 => St NoS w w1 [blk ga (.cells #[e6, e4] 90 (0, 0)), rowR enc_Tile Aa ca p0.set, rowR encInt Ab cb p0.left] [blk g5 (mapObj (vI .i64) vB t)] ∧ x10 = t) (fun Kx10 => ?_) ?_
 ·
  refine WC.block ?_
  refine WC.loop (T := (List (Int × Bool)) × Int) (fun t => [(0, (pt ga)), (1, (.func (.func 53) #[] #[])), (5, (.map (some g5))), (12, e4), e2, (14, (iv t.2))]) (fun n t w1 => St NoS w w1 [blk ga (.cells #[e6, e4] 90 (0, 0)), rowR enc_Tile Aa ca p0.set, rowR encInt Ab cb p0.left] [blk g5 (mapObj (vI .i64) vB t.1)] ∧ strip_rest_colours_with_strip_east.l0 n t.1 t.2 p0 = some x10) k (([] : List (Int × Bool)), 0) [0, 1, 5, 12, 13, 14] rfl ⟨(hS7.subR [0, 1, 2]).sub [0] (by decide), hx11⟩ ?_
  rintro k12 ⟨l8, x9⟩ w13 ⟨hS14, hl15⟩
  let e1 := rdD p0.set (rdD p0.left x9 0) z_Tile
  let e3 := (adr Aa).add (((rdD p0.left x9 0)).toNat * 4)
  let e5 := rdD p0.left x9 0
  cases k12 with
  | zero => rw [strip_rest_colours_with_strip_east.l0] at hl15; cases hl15
  | succ k12 =>
   rw [strip_rest_colours_with_strip_east.l0] at hl15
   refine WC.seq (WC.region ?_)
   refine seg 1 [] [0, 1, 5, 12, 13, 14, 15] [(0, (pt ga)), (1, (.func (.func 53) #[] #[])), (5, (.map (some g5))), (12, e4), e2, (14, (iv x9)), (15, (bv (decide (x9 < (p0.left.length : Int)))))] [] (fun fb => by kernel_rfl) rfl trivial ?_
   refine WL.done rfl (WX.next (WC.seq ?_))
   rcases br_some hl15 with ⟨h16, hl15⟩ | ⟨h16, hl15⟩
   ·refine WC.condT2 (fun fb => by kernel_rfl) h16 ?_
    refine WC.skip (WX.next (WC.seq (WC.block (WC.seq (WC.region ?_)))))
    obtain ⟨h17, hl15⟩ := as_some hl15
    refine seg 3 [.v (iv e5)] [0, 1, 5, 7, 12, 13, 14] [(0, (pt ga)), (1, (.func (.func 53) #[] #[])), (5, (.map (some g5))), (7, (iv e5)), (12, e4), e2, (14, (iv x9))] [.idx Ab x9 p0.left.length, .cell ((adr Ab).add ((x9).toNat * 1)) (iv e5)] (fun fb => by kernel_rfl) rfl ⟨rowR.adr (hS14.rd 2).1 h17.1 h17.2, rowR.cell (hS14.rd 2).1 0 h17.1 h17.2 0 rfl, trivial⟩ ?_
    refine WL.done rfl (WX.next (WC.region ?_))
    refine seg 7 [.v e6] [0, 1, 5, 12, 13, 14, 18, 19, 23, 24] [(0, (pt ga)), (1, (.func (.func 53) #[] #[])), (5, (.map (some g5))), (12, e4), e2, (14, (iv x9)), (18, (.map (some g5))), (19, (.func (.func 53) #[] #[])), (23, e6), (24, (iv e5))] [.cell ⟨ga, 0, none⟩ e6] (fun fb => by kernel_rfl) rfl ⟨blk_cell (hS14.rd 0).1 0 rfl, trivial⟩ ?_
    obtain ⟨h18, hl15⟩ := as_some hl15
    refine seg 9 [.v (iv (e1.N)), .v (iv (e1.E)), .v (iv (e1.S)), .v (iv (e1.W))] [0, 1, 5, 12, 13, 14, 18, 19, 26] [(0, (pt ga)), (1, (.func (.func 53) #[] #[])), (5, (.map (some g5))), (12, e4), e2, (14, (iv x9)), (18, (.map (some g5))), (19, (.func (.func 53) #[] #[])), (26, (.agg #[(iv (e1.N)), (iv (e1.E)), (iv (e1.S)), (iv (e1.W))]))] [.idx Aa e5 p0.set.length, .cell e3 (iv (e1.N)), .cell (e3.add 1) (iv (e1.E)), .cell (e3.add 2) (iv (e1.S)), .cell (e3.add 3) (iv (e1.W))] (fun fb => by kernel_rfl) rfl ⟨rowR.adr (hS14.rd 1).1 h18.1 h18.2, rowR.cell (hS14.rd 1).1 z_Tile h18.1 h18.2 0 rfl, rowR.cell (hS14.rd 1).1 z_Tile h18.1 h18.2 1 rfl, rowR.cell (hS14.rd 1).1 z_Tile h18.1 h18.2 2 rfl, rowR.cell (hS14.rd 1).1 z_Tile h18.1 h18.2 3 rfl, trivial⟩ ?_
    obtain ⟨t19, ht20, hl15⟩ := bind_some hl15
    refine WL.call (some 27) 53 #[(.agg #[(iv (e1.N)), (iv (e1.E)), (iv (e1.S)), (iv (e1.W))])] (fun fb => by kernel_rfl) (strip_east_calls e1 t19 _ ht20) (fun v w21 hR22 => ?_)
    obtain ⟨rfl, hk_⟩ := hR22
    have hS23 := hS14.keepN hk_
    refine ⟨trivial, ?_⟩
    refine WL.mapput hS23 0 (t := 107) (kT := 3) (eT := 4) (kE := (vI .i64)) (vE := vB) (l := l8) rfl t19 true (fun fb => by kernel_rfl) strip_rest_colours_with_strip_east_key3 (by kernel_rfl) [] (by decide) (by decide) (fun w24 hS25 => ?_)
    refine ⟨trivial, ?_⟩
    refine WL.done rfl ?_
    refine WX.blockN (WX.next ?_)
    refine WC.region ?_
    refine seg 2 [] [0, 1, 5, 12, 13, 14] [(0, (pt ga)), (1, (.func (.func 53) #[] #[])), (5, (.map (some g5))), (12, e4), e2, (14, (iv (w64 (x9 + 1))))] [] (fun fb => by kernel_rfl) rfl trivial ?_
    refine WL.done rfl ?_
    exact WX.again k12 (Nat.lt_succ_self _) (mput t19 true l8, w64 (x9 + 1)) [0, 1, 5, 12, 13, 14] rfl ⟨(hS25.subR [0, 1, 2]).sub [0] (by decide), hl15⟩
   refine WC.condF2 (fun fb => by kernel_rfl) h16 ?_
   refine WC.exit ?_
   injection hl15 with hl15
   exact WX.thenX (WX.thenX (WX.blockHere (WX.to Kx10 l8 [5] rfl ⟨(hS14.subR [0, 1, 2]).sub [0] (by decide), hl15.symm⟩)))
 rintro y29 w26 ⟨hS27, hq28⟩
 subst hq28
 refine WX.next (WC.seq (WC.region ?_))
 refine seg 2 [] [4] [(4, (.map (some g5)))] [] (fun fb => by kernel_rfl) rfl trivial ?_
 refine WL.done rfl (WX.next ?_)
 refine WC.ret ?_
 injection hf with hf
 subst hf
 exact WX.ret_ [] (.map (some g5)) [] (fun fb => by kernel_rfl) trivial ⟨_, rfl, g5, rfl, (hS27.sub [0] (by decide)).noR⟩
theorem strip_south_calls (p0 : Tile)  (r : Int) (w : World)  (hf : strip_south p0 = some r) :
  CallsR Tryz.prog 54 #[(.agg #[(iv p0.N), (iv p0.E), (iv p0.S), (iv p0.W)])] w (fun v w' => v = (iv r) ∧ Keeps NoS w w') := by
 have hS : St NoS w w [] [] := St.init (ro_nil _ _)
 refine enter 5 Tryz.func54 rfl Tryz.ntmps54 rfl ?_
 unfold strip_south at hf
 refine WC.seq (WC.region ?_)
 refine WL.new hS 1 [] (fun g => (pt g)) (.cells #[(iv p0.N), (iv p0.E), (iv p0.S), (iv p0.W)] 32 (0, 0)) [] (fun fb g => by kernel_rfl) trivial (fun g1 w2 hS3 => ?_)
 refine ⟨trivial, ?_⟩
 refine seg 2 [] [1] [(1, (pt g1))] [] (fun fb => by kernel_rfl) rfl trivial ?_
 refine WL.done rfl (WX.next (WC.seq (WC.region ?_)))
 refine seg 3 [.v (iv p0.S)] [2] [(2, (iv p0.S))] [.cell ⟨g1, 2, none⟩ (iv p0.S)] (fun fb => by kernel_rfl) rfl ⟨hS3.cell 0 rfl 2 rfl, trivial⟩ ?_
 refine WL.done rfl (WX.next ?_)
 refine WC.ret ?_
 injection hf with hf
 subst hf
 exact WX.ret_ [] (iv p0.S) [] (fun fb => by kernel_rfl) trivial ⟨_, rfl, rfl, hS3.keep⟩
theorem strip_rest_colours_with_strip_south_key3 : KeyK Tryz.prog 3 (vI .i64) := KeyK.int (by kernel_rfl)
theorem strip_rest_colours_with_strip_south_calls (k : Nat) (p0 : Rest) (ga : Nat) (Aa : Option Addr) (ca : Nat) (Ab : Option Addr) (cb : Nat) (r : (List (Int × Bool))) (w : World) (hR0 : RO NoS w (blk ga (.cells #[(sv Aa p0.set ca), (sv Ab p0.left cb)] 90 (0, 0)))) (hR1 : RO NoS w (rowR enc_Tile Aa ca p0.set)) (hR2 : RO NoS w (rowR encInt Ab cb p0.left)) (hf : strip_rest_colours_with_strip_south k p0 = some r) :
  CallsR Tryz.prog 51 #[(pt ga), (.func (.func 54) #[] #[])] w (fun v w' => ∃ (g1_ : Nat), v = (.map (some g1_)) ∧ St NoS w w' [] [blk g1_ (mapObj (vI .i64) vB r)]) := by
 have hS : St NoS w w [blk ga (.cells #[(sv Aa p0.set ca), (sv Ab p0.left cb)] 90 (0, 0)), rowR enc_Tile Aa ca p0.set, rowR encInt Ab cb p0.left] [] := St.init (ro_cons hR0 (ro_cons hR1 (ro_cons hR2 (ro_nil _ _))))
 refine enter 30 Tryz.func51 rfl Tryz.ntmps51 rfl ?_
 unfold strip_rest_colours_with_strip_south at hf
 refine WC.seq (WC.region ?_)
 have hS4 := hS.go w [mapN (vI .i64) vB (none : Option Nat) ([] : List (Int × Bool))] (hS.mapnNil (vI .i64) vB)
 refine seg 1 [] [0, 1] [(0, (pt ga)), (1, (.func (.func 54) #[] #[]))] [] (fun fb => by kernel_rfl) rfl trivial ?_
 refine WL.done rfl (WX.next (WC.seq (WC.region ?_)))
 refine WL.new hS4 8 [] (fun g => (.map (some g))) (mapObj (vI .i64) vB ([] : List (Int × Bool))) [] (fun fb g => by kernel_rfl) trivial (fun g5 w6 hS7 => ?_)
 refine ⟨trivial, ?_⟩
 refine seg 2 [] [0, 1, 5] [(0, (pt ga)), (1, (.func (.func 54) #[] #[])), (5, (.map (some g5)))] [] (fun fb => by kernel_rfl) rfl trivial ?_
 refine WL.done rfl (WX.next (WC.seq (WC.seq (WC.region ?_))))
 refine seg 6 [.v (sv Ab p0.left cb)] [0, 1, 5, 12, 13, 14] [(0, (pt ga)), (1, (.func (.func 54) #[] #[])), (5, (.map (some g5))), (12, (sv Ab p0.left cb)), (13, (iv (p0.left.length : Int))), (14, (iv 0))] [.cell ⟨ga, 1, none⟩ (sv Ab p0.left cb)] (fun fb => by kernel_rfl) rfl ⟨blk_cell (hS7.rd 0).1 1 rfl, trivial⟩ ?_
 refine WL.done rfl (WX.next ?_)
 obtain ⟨x10, hx11, hf⟩ := bind_some hf
 let e2 : Nat × Value := (13, (iv (p0.left.length : Int)))
 let e4 := sv Ab p0.left cb
 let e6 := sv Aa p0.set ca
 refine WC.cutN (T := (List (Int × Bool))) (fun t => [(5, (.map (some g5)))]) (fun t w1 => St NoS w w1 [blk ga (.cells #[e6, e4] 90 (0, 0)), rowR enc_Tile Aa ca p0.set, rowR encInt Ab cb p0.left] [blk g5 (mapObj (vI .i64) vB t)] ∧ x10 = t) (fun Kx10 => ?_) ?_
 ·
  refine WC.block ?_
  refine WC.loop (T := (List (Int × Bool)) × Int) (fun t => [(0, (pt ga)), (1, (.func (.func 54) #[] #[])), (5, (.map (some g5))), (12, e4), e2, (14, (iv t.2))]) (fun n t w1 => St NoS w w1 [blk ga (.cells #[e6, e4] 90 (0, 0)), rowR enc_Tile Aa ca p0.set, rowR encInt Ab cb p0.left] [blk g5 (mapObj (vI .i64) vB t.1)] ∧ strip_rest_colours_with_strip_south.l0 n t.1 t.2 p0 = some x10) k (([] : List (Int × Bool)), 0) [0, 1, 5, 12, 13, 14] rfl ⟨(hS7.subR [0, 1, 2]).sub [0] (by decide), hx11⟩ ?_
  rintro k12 ⟨l8, x9⟩ w13 ⟨hS14, hl15⟩
  let e1 := rdD p0.set (rdD p0.left x9 0) z_Tile
  let e3 := (adr Aa).add (((rdD p0.left x9 0)).toNat * 4)
  let e5 := rdD p0.left x9 0
  cases k12 with
  | zero => rw [strip_rest_colours_with_strip_south.l0] at hl15; cases hl15
  | succ k12 =>
   rw [strip_rest_colours_with_strip_south.l0] at hl15
   refine WC.seq (WC.region ?_)
   refine seg 1 [] [0, 1, 5, 12, 13, 14, 15] [(0, (pt ga)), (1, (.func (.func 54) #[] #[])), (5, (.map (some g5))), (12, e4), e2, (14, (iv x9)), (15, (bv (decide (x9 < (p0.left.length : Int)))))] [] (fun fb => by kernel_rfl) rfl trivial ?_
   refine WL.done rfl (WX.next (WC.seq ?_))
   rcases br_some hl15 with ⟨h16, hl15⟩ | ⟨h16, hl15⟩
   ·refine WC.condT2 (fun fb => by kernel_rfl) h16 ?_
    refine WC.skip (WX.next (WC.seq (WC.block (WC.seq (WC.region ?_)))))
    obtain ⟨h17, hl15⟩ := as_some hl15
    refine seg 3 [.v (iv e5)] [0, 1, 5, 7, 12, 13, 14] [(0, (pt ga)), (1, (.func (.func 54) #[] #[])), (5, (.map (some g5))), (7, (iv e5)), (12, e4), e2, (14, (iv x9))] [.idx Ab x9 p0.left.length, .cell ((adr Ab).add ((x9).toNat * 1)) (iv e5)] (fun fb => by kernel_rfl) rfl ⟨rowR.adr (hS14.rd 2).1 h17.1 h17.2, rowR.cell (hS14.rd 2).1 0 h17.1 h17.2 0 rfl, trivial⟩ ?_
    refine WL.done rfl (WX.next (WC.region ?_))
    refine seg 7 [.v e6] [0, 1, 5, 12, 13, 14, 18, 19, 23, 24] [(0, (pt ga)), (1, (.func (.func 54) #[] #[])), (5, (.map (some g5))), (12, e4), e2, (14, (iv x9)), (18, (.map (some g5))), (19, (.func (.func 54) #[] #[])), (23, e6), (24, (iv e5))] [.cell ⟨ga, 0, none⟩ e6] (fun fb => by kernel_rfl) rfl ⟨blk_cell (hS14.rd 0).1 0 rfl, trivial⟩ ?_
    obtain ⟨h18, hl15⟩ := as_some hl15
    refine seg 9 [.v (iv (e1.N)), .v (iv (e1.E)), .v (iv (e1.S)), .v (iv (e1.W))] [0, 1, 5, 12, 13, 14, 18, 19, 26] [(0, (pt ga)), (1, (.func (.func 54) #[] #[])), (5, (.map (some g5))), (12, e4), e2, (14, (iv x9)), (18, (.map (some g5))), (19, (.func (.func 54) #[] #[])), (26, (.agg #[(iv (e1.N)), (iv (e1.E)), (iv (e1.S)), (iv (e1.W))]))] [.idx Aa e5 p0.set.length, .cell e3 (iv (e1.N)), .cell (e3.add 1) (iv (e1.E)), .cell (e3.add 2) (iv (e1.S)), .cell (e3.add 3) (iv (e1.W))] (fun fb => by kernel_rfl) rfl ⟨rowR.adr (hS14.rd 1).1 h18.1 h18.2, rowR.cell (hS14.rd 1).1 z_Tile h18.1 h18.2 0 rfl, rowR.cell (hS14.rd 1).1 z_Tile h18.1 h18.2 1 rfl, rowR.cell (hS14.rd 1).1 z_Tile h18.1 h18.2 2 rfl, rowR.cell (hS14.rd 1).1 z_Tile h18.1 h18.2 3 rfl, trivial⟩ ?_
    obtain ⟨t19, ht20, hl15⟩ := bind_some hl15
    refine WL.call (some 27) 54 #[(.agg #[(iv (e1.N)), (iv (e1.E)), (iv (e1.S)), (iv (e1.W))])] (fun fb => by kernel_rfl) (strip_south_calls e1 t19 _ ht20) (fun v w21 hR22 => ?_)
    obtain ⟨rfl, hk_⟩ := hR22
    have hS23 := hS14.keepN hk_
    refine ⟨trivial, ?_⟩
    refine WL.mapput hS23 0 (t := 107) (kT := 3) (eT := 4) (kE := (vI .i64)) (vE := vB) (l := l8) rfl t19 true (fun fb => by kernel_rfl) strip_rest_colours_with_strip_south_key3 (by kernel_rfl) [] (by decide) (by decide) (fun w24 hS25 => ?_)
    refine ⟨trivial, ?_⟩
    refine WL.done rfl ?_
    refine WX.blockN (WX.next ?_)
    refine WC.region ?_
    refine seg 2 [] [0, 1, 5, 12, 13, 14] [(0, (pt ga)), (1, (.func (.func 54) #[] #[])), (5, (.map (some g5))), (12, e4), e2, (14, (iv (w64 (x9 + 1))))] [] (fun fb => by kernel_rfl) rfl trivial ?_
    refine WL.done rfl ?_
    exact WX.again k12 (Nat.lt_succ_self _) (mput t19 true l8, w64 (x9 + 1)) [0, 1, 5, 12, 13, 14] rfl ⟨(hS25.subR [0, 1, 2]).sub [0] (by decide), hl15⟩
   refine WC.condF2 (fun fb => by kernel_rfl) h16 ?_
   refine WC.exit ?_
   injection hl15 with hl15
   exact WX.thenX (WX.thenX (WX.blockHere (WX.to Kx10 l8 [5] rfl ⟨(hS14.subR [0, 1, 2]).sub [0] (by decide), hl15.symm⟩)))
 rintro y29 w26 ⟨hS27, hq28⟩
 subst hq28
 refine WX.next (WC.seq (WC.region ?_))
 refine seg 2 [] [4] [(4, (.map (some g5)))] [] (fun fb => by kernel_rfl) rfl trivial ?_
 refine WL.done rfl (WX.next ?_)
 refine WC.ret ?_
 injection hf with hf
 subst hf
 exact WX.ret_ [] (.map (some g5)) [] (fun fb => by kernel_rfl) trivial ⟨_, rfl, g5, rfl, (hS27.sub [0] (by decide)).noR⟩
theorem strip_west_calls (p0 : Tile)  (r : Int) (w : World)  (hf : strip_west p0 = some r) :
  CallsR Tryz.prog 55 #[(.agg #[(iv p0.N), (iv p0.E), (iv p0.S), (iv p0.W)])] w (fun v w' => v = (iv r) ∧ Keeps NoS w w') := by
 have hS : St NoS w w [] [] := St.init (ro_nil _ _)
 refine enter 5 Tryz.func55 rfl Tryz.ntmps55 rfl ?_
 unfold strip_west at hf
 refine WC.seq (WC.region ?_)
 refine WL.new hS 1 [] (fun g => (pt g)) (.cells #[(iv p0.N), (iv p0.E), (iv p0.S), (iv p0.W)] 32 (0, 0)) [] (fun fb g => by kernel_rfl) trivial (fun g1 w2 hS3 => ?_)
 refine ⟨trivial, ?_⟩
 refine seg 2 [] [1] [(1, (pt g1))] [] (fun fb => by kernel_rfl) rfl trivial ?_
 refine WL.done rfl (WX.next (WC.seq (WC.region ?_)))
 refine seg 3 [.v (iv p0.W)] [2] [(2, (iv p0.W))] [.cell ⟨g1, 3, none⟩ (iv p0.W)] (fun fb => by kernel_rfl) rfl ⟨hS3.cell 0 rfl 3 rfl, trivial⟩ ?_
 refine WL.done rfl (WX.next ?_)
 refine WC.ret ?_
 injection hf with hf
 subst hf
 exact WX.ret_ [] (iv p0.W) [] (fun fb => by kernel_rfl) trivial ⟨_, rfl, rfl, hS3.keep⟩
theorem strip_rest_colours_with_strip_west_key3 : KeyK Tryz.prog 3 (vI .i64) := KeyK.int (by kernel_rfl)
theorem strip_rest_colours_with_strip_west_calls (k : Nat) (p0 : Rest) (ga : Nat) (Aa : Option Addr) (ca : Nat) (Ab : Option Addr) (cb : Nat) (r : (List (Int × Bool))) (w : World) (hR0 : RO NoS w (blk ga (.cells #[(sv Aa p0.set ca), (sv Ab p0.left cb)] 90 (0, 0)))) (hR1 : RO NoS w (rowR enc_Tile Aa ca p0.set)) (hR2 : RO NoS w (rowR encInt Ab cb p0.left)) (hf : strip_rest_colours_with_strip_west k p0 = some r) :
  CallsR Tryz.prog 51 #[(pt ga), (.func (.func 55) #[] #[])] w (fun v w' => ∃ (g1_ : Nat), v = (.map (some g1_)) ∧ St NoS w w' [] [blk g1_ (mapObj (vI .i64) vB r)]) := by
 have hS : St NoS w w [blk ga (.cells #[(sv Aa p0.set ca), (sv Ab p0.left cb)] 90 (0, 0)), rowR enc_Tile Aa ca p0.set, rowR encInt Ab cb p0.left] [] := St.init (ro_cons hR0 (ro_cons hR1 (ro_cons hR2 (ro_nil _ _))))
 refine enter 30 Tryz.func51 rfl Tryz.ntmps51 rfl ?_
 unfold strip_rest_colours_with_strip_west at hf
 refine WC.seq (WC.region ?_)
 have hS4 := hS.go w [mapN (vI .i64) vB (none : Option Nat) ([] : List (Int × Bool))] (hS.mapnNil (vI .i64) vB)
 refine seg 1 [] [0, 1] [(0, (pt ga)), (1, (.func (.func 55) #[] #[]))] [] (fun fb => by kernel_rfl) rfl trivial ?_
 refine WL.done rfl (WX.next (WC.seq (WC.region ?_)))
 refine WL.new hS4 8 [] (fun g => (.map (some g))) (mapObj (vI .i64) vB ([] : List (Int × Bool))) [] (fun fb g => by kernel_rfl) trivial (fun g5 w6 hS7 => ?_)
 refine ⟨trivial, ?_⟩
 refine seg 2 [] [0, 1, 5] [(0, (pt ga)), (1, (.func (.func 55) #[] #[])), (5, (.map (some g5)))] [] (fun fb => by kernel_rfl) rfl trivial ?_
 refine WL.done rfl (WX.next (WC.seq (WC.seq (WC.region ?_))))
 refine seg 6 [.v (sv Ab p0.left cb)] [0, 1, 5, 12, 13, 14] [(0, (pt ga)), (1, (.func (.func 55) #[] #[])), (5, (.map (some g5))), (12, (sv Ab p0.left cb)), (13, (iv (p0.left.length : Int))), (14, (iv 0))] [.cell ⟨ga, 1, none⟩ (sv Ab p0.left cb)] (fun fb => by kernel_rfl) rfl ⟨blk_cell (hS7.rd 0).1 1 rfl, trivial⟩ ?_
 refine WL.done rfl (WX.next ?_)
 obtain ⟨x10, hx11, hf⟩ := bind_some hf
 let e2 : Nat × Value := (13, (iv (p0.left.length : Int)))
 let e4 := sv Ab p0.left cb
 let e6 := sv Aa p0.set ca
 refine WC.cutN (T := (List (Int × Bool))) (fun t => [(5, (.map (some g5)))]) (fun t w1 => St NoS w w1 [blk ga (.cells #[e6, e4] 90 (0, 0)), rowR enc_Tile Aa ca p0.set, rowR encInt Ab cb p0.left] [blk g5 (mapObj (vI .i64) vB t)] ∧ x10 = t) (fun Kx10 => ?_) ?_
 ·
  refine WC.block ?_
  refine WC.loop (T := (List (Int × Bool)) × Int) (fun t => [(0, (pt ga)), (1, (.func (.func 55) #[] #[])), (5, (.map (some g5))), (12, e4), e2, (14, (iv t.2))]) (fun n t w1 => St NoS w w1 [blk ga (.cells #[e6, e4] 90 (0, 0)), rowR enc_Tile Aa ca p0.set, rowR encInt Ab cb p0.left] [blk g5 (mapObj (vI .i64) vB t.1)] ∧ strip_rest_colours_with_strip_west.l0 n t.1 t.2 p0 = some x10) k (([] : List (Int × Bool)), 0) [0, 1, 5, 12, 13, 14] rfl ⟨(hS7.subR [0, 1, 2]).sub [0] (by decide), hx11⟩ ?_
  rintro k12 ⟨l8, x9⟩ w13 ⟨hS14, hl15⟩
  let e1 := rdD p0.set (rdD p0.left x9 0) z_Tile
  let e3 := (adr Aa).add (((rdD p0.left x9 0)).toNat * 4)
  let e5 := rdD p0.left x9 0
  cases k12 with
  | zero => rw [strip_rest_colours_with_strip_west.l0] at hl15; cases hl15
  | succ k12 =>
   rw [strip_rest_colours_with_strip_west.l0] at hl15
   refine WC.seq (WC.region ?_)
   refine seg 1 [] [0, 1, 5, 12, 13, 14, 15] [(0, (pt ga)), (1, (.func (.func 55) #[] #[])), (5, (.map (some g5))), (12, e4), e2, (14, (iv x9)), (15, (bv (decide (x9 < (p0.left.length : Int)))))] [] (fun fb => by kernel_rfl) rfl trivial ?_
   refine WL.done rfl (WX.next (WC.seq ?_))
   rcases br_some hl15 with ⟨h16, hl15⟩ | ⟨h16, hl15⟩
   ·refine WC.condT2 (fun fb => by kernel_rfl) h16 ?_
    refine WC.skip (WX.next (WC.seq (WC.block (WC.seq (WC.region ?_)))))
    obtain ⟨h17, hl15⟩ := as_some hl15
    refine seg 3 [.v (iv e5)] [0, 1, 5, 7, 12, 13, 14] [(0, (pt ga)), (1, (.func (.func 55) #[] #[])), (5, (.map (some g5))), (7, (iv e5)), (12, e4), e2, (14, (iv x9))] [.idx Ab x9 p0.left.length, .cell ((adr Ab).add ((x9).toNat * 1)) (iv e5)] (fun fb => by kernel_rfl) rfl ⟨rowR.adr (hS14.rd 2).1 h17.1 h17.2, rowR.cell (hS14.rd 2).1 0 h17.1 h17.2 0 rfl, trivial⟩ ?_
    refine WL.done rfl (WX.next (WC.region ?_))
    refine seg 7 [.v e6] [0, 1, 5, 12, 13, 14, 18, 19, 23, 24] [(0, (pt ga)), (1, (.func (.func 55) #[] #[])), (5, (.map (some g5))), (12, e4), e2, (14, (iv x9)), (18, (.map (some g5))), (19, (.func (.func 55) #[] #[])), (23, e6), (24, (iv e5))] [.cell ⟨ga, 0, none⟩ e6] (fun fb => by kernel_rfl) rfl ⟨blk_cell (hS14.rd 0).1 0 rfl, trivial⟩ ?_
    obtain ⟨h18, hl15⟩ := as_some hl15
    refine seg 9 [.v (iv (e1.N)), .v (iv (e1.E)), .v (iv (e1.S)), .v (iv (e1.W))] [0, 1, 5, 12, 13, 14, 18, 19, 26] [(0, (pt ga)), (1, (.func (.func 55) #[] #[])), (5, (.map (some g5))), (12, e4), e2, (14, (iv x9)), (18, (.map (some g5))), (19, (.func (.func 55) #[] #[])), (26, (.agg #[(iv (e1.N)), (iv (e1.E)), (iv (e1.S)), (iv (e1.W))]))] [.idx Aa e5 p0.set.length, .cell e3 (iv (e1.N)), .cell (e3.add 1) (iv (e1.E)), .cell (e3.add 2) (iv (e1.S)), .cell (e3.add 3) (iv (e1.W))] (fun fb => by kernel_rfl) rfl ⟨rowR.adr (hS14.rd 1).1 h18.1 h18.2, rowR.cell (hS14.rd 1).1 z_Tile h18.1 h18.2 0 rfl, rowR.cell (hS14.rd 1).1 z_Tile h18.1 h18.2 1 rfl, rowR.cell (hS14.rd 1).1 z_Tile h18.1 h18.2 2 rfl, rowR.cell (hS14.rd 1).1 z_Tile h18.1 h18.2 3 rfl, trivial⟩ ?_
    obtain ⟨t19, ht20, hl15⟩ := bind_some hl15
    refine WL.call (some 27) 55 #[(.agg #[(iv (e1.N)), (iv (e1.E)), (iv (e1.S)), (iv (e1.W))])] (fun fb => by kernel_rfl) (strip_west_calls e1 t19 _ ht20) (fun v w21 hR22 => ?_)
    obtain ⟨rfl, hk_⟩ := hR22
    have hS23 := hS14.keepN hk_
    refine ⟨trivial, ?_⟩
    refine WL.mapput hS23 0 (t := 107) (kT := 3) (eT := 4) (kE := (vI .i64)) (vE := vB) (l := l8) rfl t19 true (fun fb => by kernel_rfl) strip_rest_colours_with_strip_west_key3 (by kernel_rfl) [] (by decide) (by decide) (fun w24 hS25 => ?_)
    refine ⟨trivial, ?_⟩
    refine WL.done rfl ?_
    refine WX.blockN (WX.next ?_)
    refine WC.region ?_
    refine seg 2 [] [0, 1, 5, 12, 13, 14] [(0, (pt ga)), (1, (.func (.func 55) #[] #[])), (5, (.map (some g5))), (12, e4), e2, (14, (iv (w64 (x9 + 1))))] [] (fun fb => by kernel_rfl) rfl trivial ?_
    refine WL.done rfl ?_
    exact WX.again k12 (Nat.lt_succ_self _) (mput t19 true l8, w64 (x9 + 1)) [0, 1, 5, 12, 13, 14] rfl ⟨(hS25.subR [0, 1, 2]).sub [0] (by decide), hl15⟩
   refine WC.condF2 (fun fb => by kernel_rfl) h16 ?_
   refine WC.exit ?_
   injection hl15 with hl15
   exact WX.thenX (WX.thenX (WX.blockHere (WX.to Kx10 l8 [5] rfl ⟨(hS14.subR [0, 1, 2]).sub [0] (by decide), hl15.symm⟩)))
 rintro y29 w26 ⟨hS27, hq28⟩
 subst hq28
 refine WX.next (WC.seq (WC.region ?_))
 refine seg 2 [] [4] [(4, (.map (some g5)))] [] (fun fb => by kernel_rfl) rfl trivial ?_
 refine WL.done rfl (WX.next ?_)
 refine WC.ret ?_
 injection hf with hf
 subst hf
 exact WX.ret_ [] (.map (some g5)) [] (fun fb => by kernel_rfl) trivial ⟨_, rfl, g5, rfl, (hS27.sub [0] (by decide)).noR⟩
theorem strip_rest_thin_1_key3 : KeyK Tryz.prog 3 (vI .i64) := KeyK.int (by kernel_rfl)
theorem strip_rest_thin_1_calls (p0 : Int) (f0 : Rest) (f1 : List (Int × Bool)) (f2 : List (Int × Bool)) (f3 : List (Int × Bool)) (f4 : List (Int × Bool)) (ga : Nat) (Aa : Option Addr) (ca : Nat) (Ab : Option Addr) (cb : Nat) (gc_f0 : Nat) (gb : Nat) (gm_f1 : Nat) (gc : Nat) (gm_f2 : Nat) (gd : Nat) (gm_f3 : Nat) (ge : Nat) (gm_f4 : Nat) (r : Bool) (w : World) (hR0 : RO NoS w (blk ga (.cells #[(sv Aa f0.set ca), (sv Ab f0.left cb)] 90 (0, 0)))) (hR1 : RO NoS w (rowR enc_Tile Aa ca f0.set)) (hR2 : RO NoS w (rowR encInt Ab cb f0.left)) (hR3 : RO NoS w (blk gc_f0 (.cells #[(pt ga)] 88 (0, 0)))) (hR4 : RO NoS w (blk gm_f1 (mapObj (vI .i64) vB f1))) (hR5 : RO NoS w (blk gb (.cells #[(.map (some gm_f1))] 107 (0, 0)))) (hR6 : RO NoS w (blk gm_f2 (mapObj (vI .i64) vB f2))) (hR7 : RO NoS w (blk gc (.cells #[(.map (some gm_f2))] 107 (0, 0)))) (hR8 : RO NoS w (blk gm_f3 (mapObj (vI .i64) vB f3))) (hR9 : RO NoS w (blk gd (.cells #[(.map (some gm_f3))] 107 (0, 0)))) (hR10 : RO NoS w (blk gm_f4 (mapObj (vI .i64) vB f4))) (hR11 : RO NoS w (blk ge (.cells #[(.map (some gm_f4))] 107 (0, 0)))) (hf : strip_rest_thin_1 p0 f0 f1 f2 f3 f4 = some r) :
  CallsR Tryz.prog 57 #[(iv p0), (pt gc_f0), (pt gb), (pt gc), (pt gd), (pt ge)] w (fun v w' => v = (bv r) ∧ Keeps NoS w w') := by
 have hS : St NoS w w [blk ga (.cells #[(sv Aa f0.set ca), (sv Ab f0.left cb)] 90 (0, 0)), rowR enc_Tile Aa ca f0.set, rowR encInt Ab cb f0.left, blk gc_f0 (.cells #[(pt ga)] 88 (0, 0)), blk gm_f1 (mapObj (vI .i64) vB f1), blk gb (.cells #[(.map (some gm_f1))] 107 (0, 0)), blk gm_f2 (mapObj (vI .i64) vB f2), blk gc (.cells #[(.map (some gm_f2))] 107 (0, 0)), blk gm_f3 (mapObj (vI .i64) vB f3), blk gd (.cells #[(.map (some gm_f3))] 107 (0, 0)), blk gm_f4 (mapObj (vI .i64) vB f4), blk ge (.cells #[(.map (some gm_f4))] 107 (0, 0))] [] := St.init (ro_cons hR0 (ro_cons hR1 (ro_cons hR2 (ro_cons hR3 (ro_cons hR4 (ro_cons hR5 (ro_cons hR6 (ro_cons hR7 (ro_cons hR8 (ro_cons hR9 (ro_cons hR10 (ro_cons hR11 (ro_nil _ _)))))))))))))
 refine enter 38 Tryz.func57 rfl Tryz.ntmps57 rfl ?_
 unfold strip_rest_thin_1 at hf
 refine WC.seq (WC.region ?_)
 refine seg 1 [] [0, 1, 2, 3, 4, 5] [(0, (iv p0)), (1, (pt gc_f0)), (2, (pt gb)), (3, (pt gc)), (4, (pt gd)), (5, (pt ge))] [] (fun fb => by kernel_rfl) rfl trivial ?_
 refine WL.done rfl (WX.next (WC.seq (WC.region ?_)))
 refine seg 5 [.v (pt ga), .v (sv Aa f0.set ca)] [2, 3, 4, 5, 12, 13] [(2, (pt gb)), (3, (pt gc)), (4, (pt gd)), (5, (pt ge)), (12, (sv Aa f0.set ca)), (13, (iv p0))] [.cell ⟨gc_f0, 0, none⟩ (pt ga), .cell ⟨ga, 0, none⟩ (sv Aa f0.set ca)] (fun fb => by kernel_rfl) rfl ⟨blk_cell (hS.rd 3).1 0 rfl, blk_cell (hS.rd 0).1 0 rfl, trivial⟩ ?_
 obtain ⟨h12, hf⟩ := as_some hf
 let e5 := (adr Aa).add ((p0).toNat * 4)
 refine seg 7 [.v (iv ((rdD f0.set p0 z_Tile).N)), .v (iv ((rdD f0.set p0 z_Tile).E)), .v (iv ((rdD f0.set p0 z_Tile).S)), .v (iv ((rdD f0.set p0 z_Tile).W))] [2, 3, 4, 5, 15] [(2, (pt gb)), (3, (pt gc)), (4, (pt gd)), (5, (pt ge)), (15, (.agg #[(iv ((rdD f0.set p0 z_Tile).N)), (iv ((rdD f0.set p0 z_Tile).E)), (iv ((rdD f0.set p0 z_Tile).S)), (iv ((rdD f0.set p0 z_Tile).W))]))] [.idx Aa p0 f0.set.length, .cell e5 (iv ((rdD f0.set p0 z_Tile).N)), .cell (e5.add 1) (iv ((rdD f0.set p0 z_Tile).E)), .cell (e5.add 2) (iv ((rdD f0.set p0 z_Tile).S)), .cell (e5.add 3) (iv ((rdD f0.set p0 z_Tile).W))] (fun fb => by kernel_rfl) rfl ⟨rowR.adr (hS.rd 1).1 h12.1 h12.2, rowR.cell (hS.rd 1).1 z_Tile h12.1 h12.2 0 rfl, rowR.cell (hS.rd 1).1 z_Tile h12.1 h12.2 1 rfl, rowR.cell (hS.rd 1).1 z_Tile h12.1 h12.2 2 rfl, rowR.cell (hS.rd 1).1 z_Tile h12.1 h12.2 3 rfl, trivial⟩ ?_
 refine WL.new hS 8 [] (fun g => (pt g)) (.cells #[(iv 0), (iv 0), (iv 0), (iv 0)] 32 (0, 0)) [] (fun fb g => by kernel_rfl) trivial (fun g13 w14 hS15 => ?_)
 refine ⟨trivial, ?_⟩
 let e4 := rdD f0.set p0 z_Tile
 refine WL.store hS15 0 rfl [(0, (iv (e4.N))), (1, (iv (e4.E))), (2, (iv (e4.S))), (3, (iv (e4.W)))] #[(iv (e4.N)), (iv (e4.E)), (iv (e4.S)), (iv (e4.W))] (fun fb => by kernel_rfl) (by kernel_rfl) rfl [] (by decide) (by decide) (fun w16 hS17 => ?_)
 refine ⟨trivial, ?_⟩
 refine WL.done rfl (WX.next (WC.seq (WC.region ?_)))
 refine seg 3 [.v (.map (some gm_f1)), .v (iv (e4.N))] [3, 4, 5, 8, 16, 18] [(3, (pt gc)), (4, (pt gd)), (5, (pt ge)), (8, (pt g13)), (16, (.map (some gm_f1))), (18, (iv (e4.N)))] [.cell ⟨gb, 0, none⟩ (.map (some gm_f1)), .cell ⟨g13, 0, none⟩ (iv (e4.N))] (fun fb => by kernel_rfl) rfl ⟨blk_cell (hS17.rd 5).1 0 rfl, hS17.cell 0 rfl 0 rfl, trivial⟩ ?_
 refine WL.lookup (hS17.rd 4).1 (e4.N) (d := 19) (c := false) (t := 107) (kT := 3) (eT := 4) (z := false) (kE := (vI .i64)) (vE := vB) (l := f1) (bv (mget (e4.N) false f1)) (fun fb => by kernel_rfl) strip_rest_thin_1_key3 (by kernel_rfl) (fun _ => by kernel_rfl) rfl ?_
 refine ⟨trivial, ?_⟩
 refine seg 5 [] [3, 4, 5, 8, 20] [(3, (pt gc)), (4, (pt gd)), (5, (pt ge)), (8, (pt g13)), (20, (bv (mget (e4.N) false f1)))] [] (fun fb => by kernel_rfl) rfl trivial ?_
 let e3 := rdD f0.set p0 z_Tile
 refine WL.cutV (T := Bool) 10 (fun t => [(25, (bv t)), (4, (pt gd)), (5, (pt ge)), (8, (pt g13))]) (fun t => ((mget (e3.N) false f1) && (mget (e3.E) false f2)) = t) (fun K => ?_) ?_
 ·
  rcases Bool.eq_false_or_eq_true (mget (e3.N) false f1) with h18 | h18
  ·
   refine WL.setB 20 h18 rfl ?_
   refine seg 8 [.v (.map (some gm_f2)), .v (iv (e3.E))] [4, 5, 8, 20, 21, 23] [(4, (pt gd)), (5, (pt ge)), (8, (pt g13)), (20, (bv true)), (21, (.map (some gm_f2))), (23, (iv (e3.E)))] [.cell ⟨gc, 0, none⟩ (.map (some gm_f2)), .cell ⟨g13, 1, none⟩ (iv (e3.E))] (fun fb => by kernel_rfl) rfl ⟨blk_cell (hS17.rd 7).1 0 rfl, hS17.cell 0 rfl 1 rfl, trivial⟩ ?_
   refine WL.lookup (hS17.rd 6).1 (e3.E) (d := 24) (c := false) (t := 107) (kT := 3) (eT := 4) (z := false) (kE := (vI .i64)) (vE := vB) (l := f2) (bv (mget (e3.E) false f2)) (fun fb => by kernel_rfl) strip_rest_thin_1_key3 (by kernel_rfl) (fun _ => by kernel_rfl) rfl ?_
   refine ⟨trivial, ?_⟩
   refine seg 10 [] [4, 5, 8, 25] [(4, (pt gd)), (5, (pt ge)), (8, (pt g13)), (25, (bv (mget (e3.E) false f2)))] [] (fun fb => by kernel_rfl) rfl trivial ?_
   exact WL.toV K (mget ((rdD f0.set p0 z_Tile).E) false f2) [25, 4, 5, 8] rfl (by first | (rw [h18]; done) | (rw [h18]; rfl))
  refine WL.setB 20 h18 rfl ?_
  refine seg 10 [] [4, 5, 8, 25] [(4, (pt gd)), (5, (pt ge)), (8, (pt g13)), (25, (bv false))] [] (fun fb => by kernel_rfl) rfl trivial ?_
  exact WL.toV K false [25, 4, 5, 8] rfl (by first | (rw [h18]; done) | (rw [h18]; rfl))
 rintro b19 rfl
 refine seg 11 [] [4, 5, 8, 26] [(4, (pt gd)), (5, (pt ge)), (8, (pt g13)), (26, (bv ((mget (e3.N) false f1) && (mget (e3.E) false f2))))] [] (fun fb => by kernel_rfl) rfl trivial ?_
 let e2 := rdD f0.set p0 z_Tile
 refine WL.cutV (T := Bool) 16 (fun t => [(31, (bv t)), (5, (pt ge)), (8, (pt g13))]) (fun t => (((mget (e2.N) false f1) && (mget (e2.E) false f2)) && (mget (e2.S) false f3)) = t) (fun K => ?_) ?_
 ·
  rcases Bool.eq_false_or_eq_true ((mget (e2.N) false f1) && (mget (e2.E) false f2)) with h20 | h20
  ·
   refine WL.setB 26 h20 rfl ?_
   refine seg 14 [.v (.map (some gm_f3)), .v (iv (e2.S))] [5, 8, 26, 27, 29] [(5, (pt ge)), (8, (pt g13)), (26, (bv true)), (27, (.map (some gm_f3))), (29, (iv (e2.S)))] [.cell ⟨gd, 0, none⟩ (.map (some gm_f3)), .cell ⟨g13, 2, none⟩ (iv (e2.S))] (fun fb => by kernel_rfl) rfl ⟨blk_cell (hS17.rd 9).1 0 rfl, hS17.cell 0 rfl 2 rfl, trivial⟩ ?_
   refine WL.lookup (hS17.rd 8).1 (e2.S) (d := 30) (c := false) (t := 107) (kT := 3) (eT := 4) (z := false) (kE := (vI .i64)) (vE := vB) (l := f3) (bv (mget (e2.S) false f3)) (fun fb => by kernel_rfl) strip_rest_thin_1_key3 (by kernel_rfl) (fun _ => by kernel_rfl) rfl ?_
   refine ⟨trivial, ?_⟩
   refine seg 16 [] [5, 8, 31] [(5, (pt ge)), (8, (pt g13)), (31, (bv (mget (e2.S) false f3)))] [] (fun fb => by kernel_rfl) rfl trivial ?_
   exact WL.toV K (mget ((rdD f0.set p0 z_Tile).S) false f3) [31, 5, 8] rfl (by first | (rw [h20]; done) | (rw [h20]; rfl))
  refine WL.setB 26 h20 rfl ?_
  refine seg 16 [] [5, 8, 31] [(5, (pt ge)), (8, (pt g13)), (31, (bv false))] [] (fun fb => by kernel_rfl) rfl trivial ?_
  exact WL.toV K false [31, 5, 8] rfl (by first | (rw [h20]; done) | (rw [h20]; rfl))
 rintro b21 rfl
 refine seg 17 [] [5, 8, 32] [(5, (pt ge)), (8, (pt g13)), (32, (bv (((mget (e2.N) false f1) && (mget (e2.E) false f2)) && (mget (e2.S) false f3))))] [] (fun fb => by kernel_rfl) rfl trivial ?_
 let e1 := rdD f0.set p0 z_Tile
 let e6 := ((mget (e1.N) false f1) && (mget (e1.E) false f2)) && (mget (e1.S) false f3)
 refine WL.cutV (T := Bool) 22 (fun t => [(37, (bv t))]) (fun t => (e6 && (mget (e1.W) false f4)) = t) (fun K => ?_) ?_
 ·
  rcases Bool.eq_false_or_eq_true e6 with h22 | h22
  ·
   refine WL.setB 32 h22 rfl ?_
   refine seg 20 [.v (.map (some gm_f4)), .v (iv (e1.W))] [32, 33, 35] [(32, (bv true)), (33, (.map (some gm_f4))), (35, (iv (e1.W)))] [.cell ⟨ge, 0, none⟩ (.map (some gm_f4)), .cell ⟨g13, 3, none⟩ (iv (e1.W))] (fun fb => by kernel_rfl) rfl ⟨blk_cell (hS17.rd 11).1 0 rfl, hS17.cell 0 rfl 3 rfl, trivial⟩ ?_
   refine WL.lookup (hS17.rd 10).1 (e1.W) (d := 36) (c := false) (t := 107) (kT := 3) (eT := 4) (z := false) (kE := (vI .i64)) (vE := vB) (l := f4) (bv (mget (e1.W) false f4)) (fun fb => by kernel_rfl) strip_rest_thin_1_key3 (by kernel_rfl) (fun _ => by kernel_rfl) rfl ?_
   refine ⟨trivial, ?_⟩
   refine seg 22 [] [37] [(37, (bv (mget (e1.W) false f4)))] [] (fun fb => by kernel_rfl) rfl trivial ?_
   exact WL.toV K (mget ((rdD f0.set p0 z_Tile).W) false f4) [37] rfl (by first | (rw [h22]; done) | (rw [h22]; rfl))
  refine WL.setB 32 h22 rfl ?_
  refine seg 22 [] [37] [(37, (bv false))] [] (fun fb => by kernel_rfl) rfl trivial ?_
  exact WL.toV K false [37] rfl (by first | (rw [h22]; done) | (rw [h22]; rfl))
 rintro b23 rfl
 refine seg 23 [] [7] [(7, (bv (e6 && (mget (e1.W) false f4))))] [] (fun fb => by kernel_rfl) rfl trivial ?_
 refine WL.done rfl (WX.next ?_)
 refine WC.ret ?_
 injection hf with hf
 subst hf
 exact WX.ret_ [] (bv (e6 && (mget (e1.W) false f4))) [] (fun fb => by kernel_rfl) trivial ⟨_, rfl, rfl, hS17.keep⟩
theorem strip_kept_int_with_strip_rest_thin_1_calls (k : Nat) (p0 : List Int) (p1_0 : Rest) (p1_1 : List (Int × Bool)) (p1_2 : List (Int × Bool)) (p1_3 : List (Int × Bool)) (p1_4 : List (Int × Bool)) (Aa : Option Addr) (ca : Nat) (ga : Nat) (Ab : Option Addr) (cb : Nat) (Ac : Option Addr) (cc : Nat) (gc_p1_0 : Nat) (gb : Nat) (gm_p1_1 : Nat) (gc : Nat) (gm_p1_2 : Nat) (gd : Nat) (gm_p1_3 : Nat) (ge : Nat) (gm_p1_4 : Nat) (r : (List Int)) (w : World) (hR0 : RO NoS w (rowR encInt Aa ca p0)) (hR1 : RO NoS w (blk ga (.cells #[(sv Ab p1_0.set cb), (sv Ac p1_0.left cc)] 90 (0, 0)))) (hR2 : RO NoS w (rowR enc_Tile Ab cb p1_0.set)) (hR3 : RO NoS w (rowR encInt Ac cc p1_0.left)) (hR4 : RO NoS w (blk gc_p1_0 (.cells #[(pt ga)] 88 (0, 0)))) (hR5 : RO NoS w (blk gm_p1_1 (mapObj (vI .i64) vB p1_1))) (hR6 : RO NoS w (blk gb (.cells #[(.map (some gm_p1_1))] 107 (0, 0)))) (hR7 : RO NoS w (blk gm_p1_2 (mapObj (vI .i64) vB p1_2))) (hR8 : RO NoS w (blk gc (.cells #[(.map (some gm_p1_2))] 107 (0, 0)))) (hR9 : RO NoS w (blk gm_p1_3 (mapObj (vI .i64) vB p1_3))) (hR10 : RO NoS w (blk gd (.cells #[(.map (some gm_p1_3))] 107 (0, 0)))) (hR11 : RO NoS w (blk gm_p1_4 (mapObj (vI .i64) vB p1_4))) (hR12 : RO NoS w (blk ge (.cells #[(.map (some gm_p1_4))] 107 (0, 0)))) (hf : strip_kept_int_with_strip_rest_thin_1 k p0 p1_0 p1_1 p1_2 p1_3 p1_4 = some r) :
  CallsR Tryz.prog 56 #[(sv Aa p0 ca), (.func (.func 57) #[] #[(pt gc_p1_0), (pt gb), (pt gc), (pt gd), (pt ge)])] w (fun v w' => ∃ (A1_ : Option Addr), ∃ (c1_ : Nat), v = (sv A1_ r c1_) ∧ St NoS w w' [] [rowO 3 encInt A1_ c1_ r]) := by
 have hS : St NoS w w [rowR encInt Aa ca p0, blk ga (.cells #[(sv Ab p1_0.set cb), (sv Ac p1_0.left cc)] 90 (0, 0)), rowR enc_Tile Ab cb p1_0.set, rowR encInt Ac cc p1_0.left, blk gc_p1_0 (.cells #[(pt ga)] 88 (0, 0)), blk gm_p1_1 (mapObj (vI .i64) vB p1_1), blk gb (.cells #[(.map (some gm_p1_1))] 107 (0, 0)), blk gm_p1_2 (mapObj (vI .i64) vB p1_2), blk gc (.cells #[(.map (some gm_p1_2))] 107 (0, 0)), blk gm_p1_3 (mapObj (vI .i64) vB p1_3), blk gd (.cells #[(.map (some gm_p1_3))] 107 (0, 0)), blk gm_p1_4 (mapObj (vI .i64) vB p1_4), blk ge (.cells #[(.map (some gm_p1_4))] 107 (0, 0))] [] := St.init (ro_cons hR0 (ro_cons hR1 (ro_cons hR2 (ro_cons hR3 (ro_cons hR4 (ro_cons hR5 (ro_cons hR6 (ro_cons hR7 (ro_cons hR8 (ro_cons hR9 (ro_cons hR10 (ro_cons hR11 (ro_cons hR12 (ro_nil _ _))))))))))))))
 refine enter 23 Tryz.func56 rfl Tryz.ntmps56 rfl ?_
 unfold strip_kept_int_with_strip_rest_thin_1 at hf
 refine WC.seq (WC.region ?_)
 refine seg 1 [] [0, 1] [(0, (sv Aa p0 ca)), (1, (.func (.func 57) #[] #[(pt gc_p1_0), (pt gb), (pt gc), (pt gd), (pt ge)]))] [] (fun fb => by kernel_rfl) rfl trivial ?_
 refine WL.done rfl (WX.next (WC.seq (WC.region ?_)))
 refine seg 1 [] [0, 1, 5] [(0, (sv Aa p0 ca)), (1, (.func (.func 57) #[] #[(pt gc_p1_0), (pt gb), (pt gc), (pt gd), (pt ge)])), (5, (.slice none 0 0))] [] (fun fb => by kernel_rfl) rfl trivial ?_
 refine WL.done rfl (WX.next (WC.seq (WC.seq (WC.region ?_))))
 refine seg 3 [] [1, 5, 8, 9, 10] [(1, (.func (.func 57) #[] #[(pt gc_p1_0), (pt gb), (pt gc), (pt gd), (pt ge)])), (5, (.slice none 0 0)), (8, (sv Aa p0 ca)), (9, (iv (p0.length : Int))), (10, (iv 0))] [] (fun fb => by kernel_rfl) rfl trivial ?_
 refine WL.done rfl (WX.next ?_)
 have hS13 := hS.nilrow 3 encInt
 obtain ⟨x20, hx21, hf⟩ := bind_some hf
 let e1 : Array Value := #[(pt gc_p1_0), (pt gb), (pt gc), (pt gd), (pt ge)]
 let e2 : Nat × Value := (9, (iv (p0.length : Int)))
 let e3 : List Nat := [0, 1, 2, 3, 4, 5, 6, 7, 8, 9, 10, 11, 12]
 let e5 : Nat × Value := (8, (sv Aa p0 ca))
 let e6 : Array Value := #[(sv Ab p1_0.set cb), (sv Ac p1_0.left cc)]
 let e7 : List Nat := [1, 5, 8, 9, 10]
 refine WC.cutN (T := (List Int) × (Option Addr) × Nat) (fun t => [(5, (sv t.2.1 t.1 t.2.2))]) (fun t w1 => St NoS w w1 [rowR encInt Aa ca p0, blk ga (.cells e6 90 (0, 0)), rowR enc_Tile Ab cb p1_0.set, rowR encInt Ac cc p1_0.left, blk gc_p1_0 (.cells #[(pt ga)] 88 (0, 0)), blk gm_p1_1 (mapObj (vI .i64) vB p1_1), blk gb (.cells #[(.map (some gm_p1_1))] 107 (0, 0)), blk gm_p1_2 (mapObj (vI .i64) vB p1_2), blk gc (.cells #[(.map (some gm_p1_2))] 107 (0, 0)), blk gm_p1_3 (mapObj (vI .i64) vB p1_3), blk gd (.cells #[(.map (some gm_p1_3))] 107 (0, 0)), blk gm_p1_4 (mapObj (vI .i64) vB p1_4), blk ge (.cells #[(.map (some gm_p1_4))] 107 (0, 0))] [rowO 3 encInt t.2.1 t.2.2 t.1] ∧ x20 = t.1) (fun Kx20 => ?_) ?_
 ·
  refine WC.block ?_
  refine WC.loop (T := ((List Int) × Int) × (Option Addr) × Nat) (fun t => [(1, (.func (.func 57) #[] e1)), (5, (sv t.2.1 t.1.1 t.2.2)), e5, e2, (10, (iv t.1.2))]) (fun n t w1 => St NoS w w1 [rowR encInt Aa ca p0, blk ga (.cells e6 90 (0, 0)), rowR enc_Tile Ab cb p1_0.set, rowR encInt Ac cc p1_0.left, blk gc_p1_0 (.cells #[(pt ga)] 88 (0, 0)), blk gm_p1_1 (mapObj (vI .i64) vB p1_1), blk gb (.cells #[(.map (some gm_p1_1))] 107 (0, 0)), blk gm_p1_2 (mapObj (vI .i64) vB p1_2), blk gc (.cells #[(.map (some gm_p1_2))] 107 (0, 0)), blk gm_p1_3 (mapObj (vI .i64) vB p1_3), blk gd (.cells #[(.map (some gm_p1_3))] 107 (0, 0)), blk gm_p1_4 (mapObj (vI .i64) vB p1_4), blk ge (.cells #[(.map (some gm_p1_4))] 107 (0, 0))] [rowO 3 encInt t.2.1 t.2.2 t.1.1] ∧ strip_kept_int_with_strip_rest_thin_1.l0 n t.1.1 t.1.2 p0 p1_0 p1_1 p1_2 p1_3 p1_4 = some x20) k ((([] : List Int), 0), none, 0) e7 rfl ⟨(hS13.subR e3).sub [0] (by decide), hx21⟩ ?_
  rintro k22 ⟨⟨l16, x17⟩, A14, c15⟩ w23 ⟨hS24, hl25⟩
  let e4 := rdD p0 x17 0
  let e8 : Nat × Value := (10, (iv x17))
  cases k22 with
  | zero => rw [strip_kept_int_with_strip_rest_thin_1.l0] at hl25; cases hl25
  | succ k22 =>
   rw [strip_kept_int_with_strip_rest_thin_1.l0] at hl25
   refine WC.seq (WC.region ?_)
   refine seg 1 [] [1, 5, 8, 9, 10, 11] [(1, (.func (.func 57) #[] e1)), (5, (sv A14 l16 c15)), e5, e2, e8, (11, (bv (decide (x17 < (p0.length : Int)))))] [] (fun fb => by kernel_rfl) rfl trivial ?_
   refine WL.done rfl (WX.next (WC.seq ?_))
   rcases br_some hl25 with ⟨h26, hl25⟩ | ⟨h26, hl25⟩
   ·refine WC.condT2 (fun fb => by kernel_rfl) h26 ?_
    refine WC.skip (WX.next (WC.seq (WC.block (WC.seq (WC.region ?_)))))
    obtain ⟨h27, hl25⟩ := as_some hl25
    refine seg 3 [.v (iv e4)] [1, 5, 7, 8, 9, 10] [(1, (.func (.func 57) #[] e1)), (5, (sv A14 l16 c15)), (7, (iv e4)), e5, e2, e8] [.idx Aa x17 p0.length, .cell ((adr Aa).add ((x17).toNat * 1)) (iv e4)] (fun fb => by kernel_rfl) rfl ⟨rowR.adr (hS24.rd 0).1 h27.1 h27.2, rowR.cell (hS24.rd 0).1 0 h27.1 h27.2 0 rfl, trivial⟩ ?_
    refine WL.done rfl (WX.next (WC.seq (WC.region ?_)))
    refine seg 2 [] [1, 5, 7, 8, 9, 10, 14, 15] [(1, (.func (.func 57) #[] e1)), (5, (sv A14 l16 c15)), (7, (iv e4)), e5, e2, e8, (14, (.func (.func 57) #[] e1)), (15, (iv e4))] [] (fun fb => by kernel_rfl) rfl trivial ?_
    obtain ⟨t28, ht29, hl25⟩ := bind_some hl25
    refine WL.call (some 16) 57 #[(iv e4), (pt gc_p1_0), (pt gb), (pt gc), (pt gd), (pt ge)] (fun fb => by kernel_rfl) (strip_rest_thin_1_calls e4 p1_0 p1_1 p1_2 p1_3 p1_4 ga Ab cb Ac cc gc_p1_0 gb gm_p1_1 gc gm_p1_2 gd gm_p1_3 ge gm_p1_4 t28 _ (hS24.rd 1) (hS24.rd 2) (hS24.rd 3) (hS24.rd 4) (hS24.rd 5) (hS24.rd 6) (hS24.rd 7) (hS24.rd 8) (hS24.rd 9) (hS24.rd 10) (hS24.rd 11) (hS24.rd 12) ht29) (fun v w30 hR31 => ?_)
    obtain ⟨rfl, hk_⟩ := hR31
    have hS32 := hS24.keepN hk_
    refine ⟨trivial, ?_⟩
    refine WL.done rfl (WX.next ?_)
    obtain ⟨x35, hx36, hl25⟩ := bind_some hl25
    refine WC.cutN (T := (List Int) × (Option Addr) × Nat) (fun t => [(1, (.func (.func 57) #[] e1)), (5, (sv t.2.1 t.1 t.2.2)), e5, e2, e8]) (fun t w1 => St NoS w w1 [rowR encInt Aa ca p0, blk ga (.cells e6 90 (0, 0)), rowR enc_Tile Ab cb p1_0.set, rowR encInt Ac cc p1_0.left, blk gc_p1_0 (.cells #[(pt ga)] 88 (0, 0)), blk gm_p1_1 (mapObj (vI .i64) vB p1_1), blk gb (.cells #[(.map (some gm_p1_1))] 107 (0, 0)), blk gm_p1_2 (mapObj (vI .i64) vB p1_2), blk gc (.cells #[(.map (some gm_p1_2))] 107 (0, 0)), blk gm_p1_3 (mapObj (vI .i64) vB p1_3), blk gd (.cells #[(.map (some gm_p1_3))] 107 (0, 0)), blk gm_p1_4 (mapObj (vI .i64) vB p1_4), blk ge (.cells #[(.map (some gm_p1_4))] 107 (0, 0))] [rowO 3 encInt t.2.1 t.2.2 t.1] ∧ x35 = t.1) (fun Kx35 => ?_) ?_
    ·
     rcases br_some hx36 with ⟨h37, hx36⟩ | ⟨h37, hx36⟩
     ·refine WC.condT2 (fun fb => by kernel_rfl) h37 ?_
      refine WC.region ?_
      refine seg 2 [] [1, 8, 9, 10, 17, 18] [(1, (.func (.func 57) #[] e1)), e5, e2, e8, (17, (sv A14 l16 c15)), (18, (iv e4))] [] (fun fb => by kernel_rfl) rfl trivial ?_
      refine WL.new hS32 19 [] (fun g => (.slice (some ⟨g, 0, none⟩) 1 1)) (.cells #[(iv e4)] 3 (0, 0)) [] (fun fb g => by kernel_rfl) trivial (fun g38 w39 hS40 => ?_)
      refine ⟨trivial, ?_⟩
      have hS41 := hS.go w39 [rowO 3 encInt (some ⟨g38, 0, none⟩) 1 [e4], rowO 3 encInt A14 c15 l16] (hS40.map1 0 _ (fun h => rowO.ofBlk h rfl (Nat.le_of_ble_eq_true (by kernel_rfl))) (fun _ h => by obtain ⟨_, h1, h2⟩ := h; injection h1 with h1; subst h1; exact h2) [1] (by decide) (by decide))
      obtain ⟨h42, hx36⟩ := as_some hx36
      refine WL.append hS41 1 (d := 20) (tS := 35) (z := (iv 0)) (bytes := 8) (c2 := 1) rfl (fun fb => by kernel_rfl) (rowO.rd (hS41.own 0).1) (by kernel_rfl) (by kernel_rfl) rfl (by decide) h42 (by decide) [0] (by decide) (by decide) (fun A43 c44 w45 hS46 => ?_)
      refine ⟨trivial, ?_⟩
      refine seg 5 [] e7 [(1, (.func (.func 57) #[] e1)), (5, (sv A43 (l16 ++ [e4]) c44)), e5, e2, e8] [] (fun fb => by kernel_rfl) rfl trivial ?_
      refine WL.done rfl ?_
      injection hx36 with hx36
      exact WX.to Kx35 (l16 ++ [e4], A43, c44) e7 rfl ⟨(hS46.subR e3).sub [0] (by decide), hx36.symm⟩
     refine WC.condF2 (fun fb => by kernel_rfl) h37 ?_
     refine WC.skip ?_
     injection hx36 with hx36
     exact WX.to Kx35 (l16, A14, c15) e7 rfl ⟨(hS32.subR e3).sub [0] (by decide), hx36.symm⟩
    rintro ⟨y50, A33, c34⟩ w47 ⟨hS48, hq49⟩
    subst hq49
    refine WX.blockN (WX.next ?_)
    refine WC.region ?_
    refine seg 2 [] e7 [(1, (.func (.func 57) #[] e1)), (5, (sv A33 x35 c34)), e5, e2, (10, (iv (w64 (x17 + 1))))] [] (fun fb => by kernel_rfl) rfl trivial ?_
    refine WL.done rfl ?_
    exact WX.again k22 (Nat.lt_succ_self _) ((x35, w64 (x17 + 1)), A33, c34) e7 rfl ⟨(hS48.subR e3).sub [0] (by decide), hl25⟩
   refine WC.condF2 (fun fb => by kernel_rfl) h26 ?_
   refine WC.exit ?_
   injection hl25 with hl25
   exact WX.thenX (WX.thenX (WX.blockHere (WX.to Kx20 (l16, A14, c15) [5] rfl ⟨(hS24.subR e3).sub [0] (by decide), hl25.symm⟩)))
 rintro ⟨y54, A18, c19⟩ w51 ⟨hS52, hq53⟩
 subst hq53
 refine WX.next (WC.seq (WC.region ?_))
 refine seg 2 [] [4] [(4, (sv A18 x20 c19))] [] (fun fb => by kernel_rfl) rfl trivial ?_
 refine WL.done rfl (WX.next ?_)
 refine WC.ret ?_
 injection hf with hf
 subst hf
 exact WX.ret_ [] (sv A18 x20 c19) [] (fun fb => by kernel_rfl) trivial ⟨_, rfl, A18, c19, rfl, (hS52.sub [0] (by decide)).noR⟩
theorem strip_rest_thin_calls (k : Nat) (p0 : Rest) (ga : Nat) (Aa : Option Addr) (ca : Nat) (Ab : Option Addr) (cb : Nat) (r : Bool × Rest) (w : World) (hR0 : RO (fpL [blk ga (.cells #[(sv Aa p0.set ca), (sv Ab p0.left cb)] 90 (0, 0))]) w (rowR enc_Tile Aa ca p0.set)) (hR1 : RO (fpL [blk ga (.cells #[(sv Aa p0.set ca), (sv Ab p0.left cb)] 90 (0, 0))]) w (rowR encInt Ab cb p0.left)) (hI : IoOK w [blk ga (.cells #[(sv Aa p0.set ca), (sv Ab p0.left cb)] 90 (0, 0))]) (hf : strip_rest_thin k p0 = some r) :
  CallsR Tryz.prog 37 #[(pt ga)] w (fun v w' => ∃ (A1_ : Option Addr), ∃ (c1_ : Nat), v = (bv r.1) ∧ St (fpL [blk ga (.cells #[(sv Aa p0.set ca), (sv Ab p0.left cb)] 90 (0, 0))]) w w' [] [blk ga (.cells #[(sv Aa p0.set ca), (sv A1_ r.2.left c1_)] 90 (0, 0)), rowO 3 encInt A1_ c1_ r.2.left]) := by
 have hS : St (fpL [blk ga (.cells #[(sv Aa p0.set ca), (sv Ab p0.left cb)] 90 (0, 0))]) w w [rowR enc_Tile Aa ca p0.set, rowR encInt Ab cb p0.left] [blk ga (.cells #[(sv Aa p0.set ca), (sv Ab p0.left cb)] 90 (0, 0))] := St.initIO (ro_cons hR0 (ro_cons hR1 (ro_nil _ _))) hI
 refine enter 37 Tryz.func37 rfl Tryz.ntmps37 rfl ?_
 unfold strip_rest_thin at hf
 refine WC.seq (WC.region ?_)
 refine WL.new hS 1 [] (fun g => (pt g)) (.cells #[(pt ga)] 88 (0, 0)) [] (fun fb g => by kernel_rfl) trivial (fun g16 w17 hS18 => ?_)
 refine ⟨trivial, ?_⟩
 refine seg 2 [] [0, 1] [(0, (pt ga)), (1, (pt g16))] [] (fun fb => by kernel_rfl) rfl trivial ?_
 refine WL.done rfl (WX.next (WC.seq ?_))
 obtain ⟨t27, ht28, hf⟩ := bind_some hf
 obtain ⟨t33, ht34, hf⟩ := bind_some hf
 obtain ⟨t40, ht41, hf⟩ := bind_some hf
 obtain ⟨t46, ht47, hf⟩ := bind_some hf
 let e1 : List Nat := [8, 9, 10, 11, 12, 13, 14, 15, 3, 4, 5, 6, 0, 1]
 let e2 : Nat × Value := (1, (pt g16))
 let e3 : Nat × Value := (0, (pt ga))
 refine WC.regionI (fun d_ a_ w_ => ∃ (v8_ v9_ v10_ v11_ v12_ v13_ v14_ v15_ v3_ v4_ v5_ v6_ x8_ x9_ x10_ x11_ : Value) (g19 g20 g21 g22 g23 g24 g25 g26 : Nat) (fb_ : Operand → Value), Has 37 [(8, v8_), (9, v9_), (10, v10_), (11, v11_), (12, v12_), (13, v13_), (14, v14_), (15, v15_), (3, v3_), (4, v4_), (5, v5_), (6, v6_), e3, e2] fb_ a_ ∧ (d_ 0 = true → v8_ = (pt ga)) ∧ (d_ 1 = true → v9_ = .map (some g19)) ∧ (d_ 2 = true → v10_ = (pt ga)) ∧ (d_ 3 = true → v11_ = .map (some g20)) ∧ (d_ 4 = true → v12_ = (pt ga)) ∧ (d_ 5 = true → v13_ = .map (some g21)) ∧ (d_ 6 = true → v14_ = (pt ga)) ∧ (d_ 7 = true → v15_ = .map (some g22)) ∧ (d_ 8 = true → v3_ = pt g23) ∧ (d_ 9 = true → v4_ = pt g24) ∧ (d_ 10 = true → v5_ = pt g25) ∧ (d_ 11 = true → v6_ = pt g26) ∧ (d_ 12 = true → x8_ = .map (some g19)) ∧ (d_ 13 = true → x9_ = .map (some g20)) ∧ (d_ 14 = true → x10_ = .map (some g21)) ∧ (d_ 15 = true → x11_ = .map (some g22)) ∧ St (fpL [blk ga (.cells #[(sv Aa p0.set ca), (sv Ab p0.left cb)] 90 (0, 0))]) w w_ [rowR enc_Tile Aa ca p0.set, rowR encInt Ab cb p0.left] [sO (d_ 1) (blk g19 (mapObj (vI .i64) vB t27)), sO (d_ 3) (blk g20 (mapObj (vI .i64) vB t33)), sO (d_ 5) (blk g21 (mapObj (vI .i64) vB t40)), sO (d_ 7) (blk g22 (mapObj (vI .i64) vB t46)), sO (d_ 8) (blk g23 (.cells #[x8_] 107 (0, 0))), sO (d_ 9) (blk g24 (.cells #[x9_] 107 (0, 0))), sO (d_ 10) (blk g25 (.cells #[x10_] 107 (0, 0))), sO (d_ 11) (blk g26 (.cells #[x11_] 107 (0, 0))), blk g16 (.cells #[(pt ga)] 88 (0, 0)), blk ga (.cells #[(sv Aa p0.set ca), (sv Ab p0.left cb)] 90 (0, 0))]) [[], [0], [], [0, 1, 2], [], [0, 1, 2, 3, 4], [], [0, 1, 2, 3, 4, 5, 6], [], [], [], [], [0, 1, 2, 3, 4, 5, 6, 7, 8, 9, 10, 11], [0, 1, 2, 3, 4, 5, 6, 7, 8, 9, 10, 11, 12], [0, 1, 2, 3, 4, 5, 6, 7, 8, 9, 10, 11, 12, 13], [0, 1, 2, 3, 4, 5, 6, 7, 8, 9, 10, 11, 12, 13, 14]] (by kernel_rfl) (by kernel_rfl) ?_ ?_ ?_
 ·intro d_ fb_ a_ hd_ ha_
  have hS_ := hS18.drew
  have e0_ : d_ 0 = false := hd_ 0 (by decide)
  have e1_ : d_ 1 = false := hd_ 1 (by decide)
  have e2_ : d_ 2 = false := hd_ 2 (by decide)
  have e3_ : d_ 3 = false := hd_ 3 (by decide)
  have e4_ : d_ 4 = false := hd_ 4 (by decide)
  have e5_ : d_ 5 = false := hd_ 5 (by decide)
  have e6_ : d_ 6 = false := hd_ 6 (by decide)
  have e7_ : d_ 7 = false := hd_ 7 (by decide)
  have e8_ : d_ 8 = false := hd_ 8 (by decide)
  have e9_ : d_ 9 = false := hd_ 9 (by decide)
  have e10_ : d_ 10 = false := hd_ 10 (by decide)
  have e11_ : d_ 11 = false := hd_ 11 (by decide)
  have e12_ : d_ 12 = false := hd_ 12 (by decide)
  have e13_ : d_ 13 = false := hd_ 13 (by decide)
  have e14_ : d_ 14 = false := hd_ 14 (by decide)
  have e15_ : d_ 15 = false := hd_ 15 (by decide)
  exact ⟨(a_.eval (.tmp 8)), (a_.eval (.tmp 9)), (a_.eval (.tmp 10)), (a_.eval (.tmp 11)), (a_.eval (.tmp 12)), (a_.eval (.tmp 13)), (a_.eval (.tmp 14)), (a_.eval (.tmp 15)), (a_.eval (.tmp 3)), (a_.eval (.tmp 4)), (a_.eval (.tmp 5)), (a_.eval (.tmp 6)), undef, undef, undef, undef, 0, 0, 0, 0, 0, 0, 0, 0, _, (Has.peek (Has.peek (Has.peek (Has.peek (Has.peek (Has.peek (Has.peek (Has.peek (Has.peek (Has.peek (Has.peek (Has.peek (ha_.picked (show pick _ [0, 1] = some [(0, (pt ga)), (1, (pt g16))] from rfl)) 6 (by decide)) 5 (by decide)) 4 (by decide)) 3 (by decide)) 15 (by decide)) 14 (by decide)) 13 (by decide)) 12 (by decide)) 11 (by decide)) 10 (by decide)) 9 (by decide)) 8 (by decide)), (fun h_ => by rw [e0_] at h_; cases h_), (fun h_ => by rw [e1_] at h_; cases h_), (fun h_ => by rw [e2_] at h_; cases h_), (fun h_ => by rw [e3_] at h_; cases h_), (fun h_ => by rw [e4_] at h_; cases h_), (fun h_ => by rw [e5_] at h_; cases h_), (fun h_ => by rw [e6_] at h_; cases h_), (fun h_ => by rw [e7_] at h_; cases h_), (fun h_ => by rw [e8_] at h_; cases h_), (fun h_ => by rw [e9_] at h_; cases h_), (fun h_ => by rw [e10_] at h_; cases h_), (fun h_ => by rw [e11_] at h_; cases h_), (fun h_ => by rw [e12_] at h_; cases h_), (fun h_ => by rw [e13_] at h_; cases h_), (fun h_ => by rw [e14_] at h_; cases h_), (fun h_ => by rw [e15_] at h_; cases h_), (by rw [e1_, e3_, e5_, e7_, e8_, e9_, e10_, e11_]; exact hS_.sub [2, 3, 4, 5, 6, 7, 8, 9, 0, 1] (by decide))⟩
 ·intro d_ i_ a_ w_ hi_ hd_ hj_ hc_ hI_
  obtain ⟨v8_, v9_, v10_, v11_, v12_, v13_, v14_, v15_, v3_, v4_, v5_, v6_, x8_, x9_, x10_, x11_, g19, g20, g21, g22, g23, g24, g25, g26, fb_, ha_, c0_, c1_, c2_, c3_, c4_, c5_, c6_, c7_, c8_, c9_, c10_, c11_, c12_, c13_, c14_, c15_, hS_⟩ := hI_
  have hi2_ : i_ < 16 := hi_
  have hi3_ : i_ = 0 ∨ i_ = 1 ∨ i_ = 2 ∨ i_ = 3 ∨ i_ = 4 ∨ i_ = 5 ∨ i_ = 6 ∨ i_ = 7 ∨ i_ = 8 ∨ i_ = 9 ∨ i_ = 10 ∨ i_ = 11 ∨ i_ = 12 ∨ i_ = 13 ∨ i_ = 14 ∨ i_ = 15 := by omega
  let e5 : Nat × Value := (11, v11_)
  let e6 : Nat × Value := (13, v13_)
  let e7 : Nat × Value := (15, v15_)
  let e8 : Nat × Value := (10, v10_)
  let e9 : Nat × Value := (12, v12_)
  let e10 : Nat × Value := (14, v14_)
  rcases hi3_ with rfl | rfl | rfl | rfl | rfl | rfl | rfl | rfl | rfl | rfl | rfl | rfl | rfl | rfl | rfl | rfl
  ·refine op_WL hi_ ha_ ?_
   refine seg 1 [.v (pt ga)] e1 [(8, (pt ga)), (9, v9_), e8, e5, e9, e6, e10, e7, (3, v3_), (4, v4_), (5, v5_), (6, v6_), e3, e2] [.cell ⟨g16, 0, none⟩ (pt ga)] (fun fb => by kernel_rfl) rfl ⟨hS_.cell 8 rfl 0 rfl, trivial⟩ ?_
   refine WL.done rfl ?_
   exact fun fb_ a_ ha_ => ⟨(pt ga), v9_, v10_, v11_, v12_, v13_, v14_, v15_, v3_, v4_, v5_, v6_, x8_, x9_, x10_, x11_, g19, g20, g21, g22, g23, g24, g25, g26, fb_, ha_, (fun _ => rfl), c1_, c2_, c3_, c4_, c5_, c6_, c7_, c8_, c9_, c10_, c11_, c12_, c13_, c14_, c15_, hS_⟩
  ·
   obtain rfl := c0_ (hj_ 0 (memN_iff.1 (by kernel_rfl)))
   refine op_WL hi_ ha_ ?_
   refine WL.call (some 9) 51 #[(pt ga), (.func (.func 52) #[] #[])] (fun fb => by kernel_rfl) (strip_rest_colours_with_strip_north_calls _ p0 ga Aa ca Ab cb t27 _ (hS_.ow 9) (hS_.rd 0) (hS_.rd 1) ht28) (fun v w29 hR30 => ?_)
   obtain ⟨g32, rfl, hk_⟩ := hR30
   have hS31 : St (fpL [blk ga (.cells #[(.slice Aa p0.set.length ca), (.slice Ab p0.left.length cb)] 90 (0, 0))]) w w29 [rowR enc_Tile Aa ca p0.set, rowR encInt Ab cb p0.left] [blk g32 (mapObj (vI .i64) vB t27), sO (d_ 1) (blk g19 (mapObj (vI .i64) vB t27)), sO (d_ 3) (blk g20 (mapObj (vI .i64) vB t33)), sO (d_ 5) (blk g21 (mapObj (vI .i64) vB t40)), sO (d_ 7) (blk g22 (mapObj (vI .i64) vB t46)), sO (d_ 8) (blk g23 (.cells #[x8_] 107 (0, 0))), sO (d_ 9) (blk g24 (.cells #[x9_] 107 (0, 0))), sO (d_ 10) (blk g25 (.cells #[x10_] 107 (0, 0))), sO (d_ 11) (blk g26 (.cells #[x11_] 107 (0, 0))), blk g16 (.cells #[(pt ga)] 88 (0, 0)), blk ga (.cells #[(.slice Aa p0.set.length ca), (.slice Ab p0.left.length cb)] 90 (0, 0))] := hS_.call hk_ [] [0, 1, 2, 3, 4, 5, 6, 7, 8, 9] (fun g hg => hg.elim) (by simp) (by decide)
   refine ⟨trivial, ?_⟩
   refine WL.reE e1 [(8, (pt ga)), (9, (.map (some g32))), e8, e5, e9, e6, e10, e7, (3, v3_), (4, v4_), (5, v5_), (6, v6_), e3, e2] [(8, (pt ga)), (9, (.map (some g32))), e8, e5, e9, e6, e10, e7, (3, v3_), (4, v4_), (5, v5_), (6, v6_), e3, e2] rfl rfl ?_
   refine WL.done rfl ?_
   exact fun fb_ a_ ha_ => ⟨(pt ga), (.map (some g32)), v10_, v11_, v12_, v13_, v14_, v15_, v3_, v4_, v5_, v6_, x8_, x9_, x10_, x11_, g32, g20, g21, g22, g23, g24, g25, g26, fb_, ha_, c0_, (fun _ => rfl), c2_, c3_, c4_, c5_, c6_, c7_, c8_, c9_, c10_, c11_, (fun h_ => by have h2_ := hc_ 12 (by decide) h_ 1 (memN_iff.1 (by kernel_rfl)); rw [hd_] at h2_; cases h2_), c13_, c14_, c15_, (hS31.sub [0, 2, 3, 4, 5, 6, 7, 8, 9, 10] (by decide))⟩
  ·refine op_WL hi_ ha_ ?_
   refine seg 1 [.v (pt ga)] e1 [(8, v8_), (9, v9_), (10, (pt ga)), e5, e9, e6, e10, e7, (3, v3_), (4, v4_), (5, v5_), (6, v6_), e3, e2] [.cell ⟨g16, 0, none⟩ (pt ga)] (fun fb => by kernel_rfl) rfl ⟨hS_.cell 8 rfl 0 rfl, trivial⟩ ?_
   refine WL.done rfl ?_
   exact fun fb_ a_ ha_ => ⟨v8_, v9_, (pt ga), v11_, v12_, v13_, v14_, v15_, v3_, v4_, v5_, v6_, x8_, x9_, x10_, x11_, g19, g20, g21, g22, g23, g24, g25, g26, fb_, ha_, c0_, c1_, (fun _ => rfl), c3_, c4_, c5_, c6_, c7_, c8_, c9_, c10_, c11_, c12_, c13_, c14_, c15_, hS_⟩
  ·
   obtain rfl := c2_ (hj_ 2 (memN_iff.1 (by kernel_rfl)))
   refine op_WL hi_ ha_ ?_
   refine WL.call (some 11) 51 #[(pt ga), (.func (.func 53) #[] #[])] (fun fb => by kernel_rfl) (strip_rest_colours_with_strip_east_calls _ p0 ga Aa ca Ab cb t33 _ (hS_.ow 9) (hS_.rd 0) (hS_.rd 1) ht34) (fun v w35 hR36 => ?_)
   obtain ⟨g39, rfl, hk_⟩ := hR36
   have hS38 : St (fpL [blk ga (.cells #[(.slice Aa p0.set.length ca), (.slice Ab p0.left.length cb)] 90 (0, 0))]) w w35 [rowR enc_Tile Aa ca p0.set, rowR encInt Ab cb p0.left] [blk g39 (mapObj (vI .i64) vB t33), sO (d_ 1) (blk g19 (mapObj (vI .i64) vB t27)), sO (d_ 3) (blk g20 (mapObj (vI .i64) vB t33)), sO (d_ 5) (blk g21 (mapObj (vI .i64) vB t40)), sO (d_ 7) (blk g22 (mapObj (vI .i64) vB t46)), sO (d_ 8) (blk g23 (.cells #[x8_] 107 (0, 0))), sO (d_ 9) (blk g24 (.cells #[x9_] 107 (0, 0))), sO (d_ 10) (blk g25 (.cells #[x10_] 107 (0, 0))), sO (d_ 11) (blk g26 (.cells #[x11_] 107 (0, 0))), blk g16 (.cells #[(pt ga)] 88 (0, 0)), blk ga (.cells #[(.slice Aa p0.set.length ca), (.slice Ab p0.left.length cb)] 90 (0, 0))] := hS_.call hk_ [] [0, 1, 2, 3, 4, 5, 6, 7, 8, 9] (fun g hg => hg.elim) (by simp) (by decide)
   refine ⟨trivial, ?_⟩
   refine WL.reE e1 [(8, v8_), (9, v9_), (10, (pt ga)), (11, (.map (some g39))), e9, e6, e10, e7, (3, v3_), (4, v4_), (5, v5_), (6, v6_), e3, e2] [(8, v8_), (9, v9_), (10, (pt ga)), (11, (.map (some g39))), e9, e6, e10, e7, (3, v3_), (4, v4_), (5, v5_), (6, v6_), e3, e2] rfl rfl ?_
   refine WL.done rfl ?_
   exact fun fb_ a_ ha_ => ⟨v8_, v9_, (pt ga), (.map (some g39)), v12_, v13_, v14_, v15_, v3_, v4_, v5_, v6_, x8_, x9_, x10_, x11_, g19, g39, g21, g22, g23, g24, g25, g26, fb_, ha_, c0_, c1_, c2_, (fun _ => rfl), c4_, c5_, c6_, c7_, c8_, c9_, c10_, c11_, c12_, (fun h_ => by have h2_ := hc_ 13 (by decide) h_ 3 (memN_iff.1 (by kernel_rfl)); rw [hd_] at h2_; cases h2_), c14_, c15_, (hS38.sub [1, 0, 3, 4, 5, 6, 7, 8, 9, 10] (by decide))⟩
  ·refine op_WL hi_ ha_ ?_
   refine seg 1 [.v (pt ga)] e1 [(8, v8_), (9, v9_), e8, e5, (12, (pt ga)), e6, e10, e7, (3, v3_), (4, v4_), (5, v5_), (6, v6_), e3, e2] [.cell ⟨g16, 0, none⟩ (pt ga)] (fun fb => by kernel_rfl) rfl ⟨hS_.cell 8 rfl 0 rfl, trivial⟩ ?_
   refine WL.done rfl ?_
   exact fun fb_ a_ ha_ => ⟨v8_, v9_, v10_, v11_, (pt ga), v13_, v14_, v15_, v3_, v4_, v5_, v6_, x8_, x9_, x10_, x11_, g19, g20, g21, g22, g23, g24, g25, g26, fb_, ha_, c0_, c1_, c2_, c3_, (fun _ => rfl), c5_, c6_, c7_, c8_, c9_, c10_, c11_, c12_, c13_, c14_, c15_, hS_⟩
  ·
   obtain rfl := c4_ (hj_ 4 (memN_iff.1 (by kernel_rfl)))
   refine op_WL hi_ ha_ ?_
   refine WL.call (some 13) 51 #[(pt ga), (.func (.func 54) #[] #[])] (fun fb => by kernel_rfl) (strip_rest_colours_with_strip_south_calls _ p0 ga Aa ca Ab cb t40 _ (hS_.ow 9) (hS_.rd 0) (hS_.rd 1) ht41) (fun v w42 hR43 => ?_)
   obtain ⟨g45, rfl, hk_⟩ := hR43
   have hS44 : St (fpL [blk ga (.cells #[(.slice Aa p0.set.length ca), (.slice Ab p0.left.length cb)] 90 (0, 0))]) w w42 [rowR enc_Tile Aa ca p0.set, rowR encInt Ab cb p0.left] [blk g45 (mapObj (vI .i64) vB t40), sO (d_ 1) (blk g19 (mapObj (vI .i64) vB t27)), sO (d_ 3) (blk g20 (mapObj (vI .i64) vB t33)), sO (d_ 5) (blk g21 (mapObj (vI .i64) vB t40)), sO (d_ 7) (blk g22 (mapObj (vI .i64) vB t46)), sO (d_ 8) (blk g23 (.cells #[x8_] 107 (0, 0))), sO (d_ 9) (blk g24 (.cells #[x9_] 107 (0, 0))), sO (d_ 10) (blk g25 (.cells #[x10_] 107 (0, 0))), sO (d_ 11) (blk g26 (.cells #[x11_] 107 (0, 0))), blk g16 (.cells #[(pt ga)] 88 (0, 0)), blk ga (.cells #[(.slice Aa p0.set.length ca), (.slice Ab p0.left.length cb)] 90 (0, 0))] := hS_.call hk_ [] [0, 1, 2, 3, 4, 5, 6, 7, 8, 9] (fun g hg => hg.elim) (by simp) (by decide)
   refine ⟨trivial, ?_⟩
   refine WL.reE e1 [(8, v8_), (9, v9_), e8, e5, (12, (pt ga)), (13, (.map (some g45))), e10, e7, (3, v3_), (4, v4_), (5, v5_), (6, v6_), e3, e2] [(8, v8_), (9, v9_), e8, e5, (12, (pt ga)), (13, (.map (some g45))), e10, e7, (3, v3_), (4, v4_), (5, v5_), (6, v6_), e3, e2] rfl rfl ?_
   refine WL.done rfl ?_
   exact fun fb_ a_ ha_ => ⟨v8_, v9_, v10_, v11_, (pt ga), (.map (some g45)), v14_, v15_, v3_, v4_, v5_, v6_, x8_, x9_, x10_, x11_, g19, g20, g45, g22, g23, g24, g25, g26, fb_, ha_, c0_, c1_, c2_, c3_, c4_, (fun _ => rfl), c6_, c7_, c8_, c9_, c10_, c11_, c12_, c13_, (fun h_ => by have h2_ := hc_ 14 (by decide) h_ 5 (memN_iff.1 (by kernel_rfl)); rw [hd_] at h2_; cases h2_), c15_, (hS44.sub [1, 2, 0, 4, 5, 6, 7, 8, 9, 10] (by decide))⟩
  ·refine op_WL hi_ ha_ ?_
   refine seg 1 [.v (pt ga)] e1 [(8, v8_), (9, v9_), e8, e5, e9, e6, (14, (pt ga)), e7, (3, v3_), (4, v4_), (5, v5_), (6, v6_), e3, e2] [.cell ⟨g16, 0, none⟩ (pt ga)] (fun fb => by kernel_rfl) rfl ⟨hS_.cell 8 rfl 0 rfl, trivial⟩ ?_
   refine WL.done rfl ?_
   exact fun fb_ a_ ha_ => ⟨v8_, v9_, v10_, v11_, v12_, v13_, (pt ga), v15_, v3_, v4_, v5_, v6_, x8_, x9_, x10_, x11_, g19, g20, g21, g22, g23, g24, g25, g26, fb_, ha_, c0_, c1_, c2_, c3_, c4_, c5_, (fun _ => rfl), c7_, c8_, c9_, c10_, c11_, c12_, c13_, c14_, c15_, hS_⟩
  ·
   obtain rfl := c6_ (hj_ 6 (memN_iff.1 (by kernel_rfl)))
   refine op_WL hi_ ha_ ?_
   refine WL.call (some 15) 51 #[(pt ga), (.func (.func 55) #[] #[])] (fun fb => by kernel_rfl) (strip_rest_colours_with_strip_west_calls _ p0 ga Aa ca Ab cb t46 _ (hS_.ow 9) (hS_.rd 0) (hS_.rd 1) ht47) (fun v w48 hR49 => ?_)
   obtain ⟨g51, rfl, hk_⟩ := hR49
   have hS50 : St (fpL [blk ga (.cells #[(.slice Aa p0.set.length ca), (.slice Ab p0.left.length cb)] 90 (0, 0))]) w w48 [rowR enc_Tile Aa ca p0.set, rowR encInt Ab cb p0.left] [blk g51 (mapObj (vI .i64) vB t46), sO (d_ 1) (blk g19 (mapObj (vI .i64) vB t27)), sO (d_ 3) (blk g20 (mapObj (vI .i64) vB t33)), sO (d_ 5) (blk g21 (mapObj (vI .i64) vB t40)), sO (d_ 7) (blk g22 (mapObj (vI .i64) vB t46)), sO (d_ 8) (blk g23 (.cells #[x8_] 107 (0, 0))), sO (d_ 9) (blk g24 (.cells #[x9_] 107 (0, 0))), sO (d_ 10) (blk g25 (.cells #[x10_] 107 (0, 0))), sO (d_ 11) (blk g26 (.cells #[x11_] 107 (0, 0))), blk g16 (.cells #[(pt ga)] 88 (0, 0)), blk ga (.cells #[(.slice Aa p0.set.length ca), (.slice Ab p0.left.length cb)] 90 (0, 0))] := hS_.call hk_ [] [0, 1, 2, 3, 4, 5, 6, 7, 8, 9] (fun g hg => hg.elim) (by simp) (by decide)
   refine ⟨trivial, ?_⟩
   refine WL.reE e1 [(8, v8_), (9, v9_), e8, e5, e9, e6, (14, (pt ga)), (15, (.map (some g51))), (3, v3_), (4, v4_), (5, v5_), (6, v6_), e3, e2] [(8, v8_), (9, v9_), e8, e5, e9, e6, (14, (pt ga)), (15, (.map (some g51))), (3, v3_), (4, v4_), (5, v5_), (6, v6_), e3, e2] rfl rfl ?_
   refine WL.done rfl ?_
   exact fun fb_ a_ ha_ => ⟨v8_, v9_, v10_, v11_, v12_, v13_, (pt ga), (.map (some g51)), v3_, v4_, v5_, v6_, x8_, x9_, x10_, x11_, g19, g20, g21, g51, g23, g24, g25, g26, fb_, ha_, c0_, c1_, c2_, c3_, c4_, c5_, c6_, (fun _ => rfl), c8_, c9_, c10_, c11_, c12_, c13_, c14_, (fun h_ => by have h2_ := hc_ 15 (by decide) h_ 7 (memN_iff.1 (by kernel_rfl)); rw [hd_] at h2_; cases h2_), (hS50.sub [1, 2, 3, 0, 5, 6, 7, 8, 9, 10] (by decide))⟩
  ·refine op_WL hi_ ha_ ?_
   refine WL.new hS_ 3 [] (fun g => (pt g)) (.cells #[(.map none)] 107 (0, 0)) [] (fun fb g => by kernel_rfl) trivial (fun gn_ w1_ hS1_ => ?_)
   refine ⟨trivial, ?_⟩
   let e4 : List (Nat × Value) := [(8, v8_), (9, v9_), e8, e5, e9, e6, e10, e7, (3, (pt gn_)), (4, v4_), (5, v5_), (6, v6_), e3, e2]
   refine WL.reE e1 e4 e4 rfl rfl ?_
   refine WL.done rfl ?_
   exact fun fb_ a_ ha_ => ⟨v8_, v9_, v10_, v11_, v12_, v13_, v14_, v15_, (pt gn_), v4_, v5_, v6_, (.map none), x9_, x10_, x11_, g19, g20, g21, g22, gn_, g24, g25, g26, fb_, ha_, c0_, c1_, c2_, c3_, c4_, c5_, c6_, c7_, (fun _ => rfl), c9_, c10_, c11_, (fun h_ => by have h2_ := hc_ 12 (by decide) h_ 8 (memN_iff.1 (by kernel_rfl)); rw [hd_] at h2_; cases h2_), c13_, c14_, c15_, (hS1_.sub [1, 2, 3, 4, 0, 6, 7, 8, 9, 10] (by decide))⟩
  ·refine op_WL hi_ ha_ ?_
   refine WL.new hS_ 4 [] (fun g => (pt g)) (.cells #[(.map none)] 107 (0, 0)) [] (fun fb g => by kernel_rfl) trivial (fun gn_ w1_ hS1_ => ?_)
   refine ⟨trivial, ?_⟩
   refine WL.reE e1 [(8, v8_), (9, v9_), e8, e5, e9, e6, e10, e7, (3, v3_), (4, (pt gn_)), (5, v5_), (6, v6_), e3, e2] [(8, v8_), (9, v9_), e8, e5, e9, e6, e10, e7, (3, v3_), (4, (pt gn_)), (5, v5_), (6, v6_), e3, e2] rfl rfl ?_
   refine WL.done rfl ?_
   exact fun fb_ a_ ha_ => ⟨v8_, v9_, v10_, v11_, v12_, v13_, v14_, v15_, v3_, (pt gn_), v5_, v6_, x8_, (.map none), x10_, x11_, g19, g20, g21, g22, g23, gn_, g25, g26, fb_, ha_, c0_, c1_, c2_, c3_, c4_, c5_, c6_, c7_, c8_, (fun _ => rfl), c10_, c11_, c12_, (fun h_ => by have h2_ := hc_ 13 (by decide) h_ 9 (memN_iff.1 (by kernel_rfl)); rw [hd_] at h2_; cases h2_), c14_, c15_, (hS1_.sub [1, 2, 3, 4, 5, 0, 7, 8, 9, 10] (by decide))⟩
  ·refine op_WL hi_ ha_ ?_
   refine WL.new hS_ 5 [] (fun g => (pt g)) (.cells #[(.map none)] 107 (0, 0)) [] (fun fb g => by kernel_rfl) trivial (fun gn_ w1_ hS1_ => ?_)
   refine ⟨trivial, ?_⟩
   refine WL.reE e1 [(8, v8_), (9, v9_), e8, e5, e9, e6, e10, e7, (3, v3_), (4, v4_), (5, (pt gn_)), (6, v6_), e3, e2] [(8, v8_), (9, v9_), e8, e5, e9, e6, e10, e7, (3, v3_), (4, v4_), (5, (pt gn_)), (6, v6_), e3, e2] rfl rfl ?_
   refine WL.done rfl ?_
   exact fun fb_ a_ ha_ => ⟨v8_, v9_, v10_, v11_, v12_, v13_, v14_, v15_, v3_, v4_, (pt gn_), v6_, x8_, x9_, (.map none), x11_, g19, g20, g21, g22, g23, g24, gn_, g26, fb_, ha_, c0_, c1_, c2_, c3_, c4_, c5_, c6_, c7_, c8_, c9_, (fun _ => rfl), c11_, c12_, c13_, (fun h_ => by have h2_ := hc_ 14 (by decide) h_ 10 (memN_iff.1 (by kernel_rfl)); rw [hd_] at h2_; cases h2_), c15_, (hS1_.sub [1, 2, 3, 4, 5, 6, 0, 8, 9, 10] (by decide))⟩
  ·refine op_WL hi_ ha_ ?_
   refine WL.new hS_ 6 [] (fun g => (pt g)) (.cells #[(.map none)] 107 (0, 0)) [] (fun fb g => by kernel_rfl) trivial (fun gn_ w1_ hS1_ => ?_)
   refine ⟨trivial, ?_⟩
   refine WL.reE e1 [(8, v8_), (9, v9_), e8, e5, e9, e6, e10, e7, (3, v3_), (4, v4_), (5, v5_), (6, (pt gn_)), e3, e2] [(8, v8_), (9, v9_), e8, e5, e9, e6, e10, e7, (3, v3_), (4, v4_), (5, v5_), (6, (pt gn_)), e3, e2] rfl rfl ?_
   refine WL.done rfl ?_
   exact fun fb_ a_ ha_ => ⟨v8_, v9_, v10_, v11_, v12_, v13_, v14_, v15_, v3_, v4_, v5_, (pt gn_), x8_, x9_, x10_, (.map none), g19, g20, g21, g22, g23, g24, g25, gn_, fb_, ha_, c0_, c1_, c2_, c3_, c4_, c5_, c6_, c7_, c8_, c9_, c10_, (fun _ => rfl), c12_, c13_, c14_, (fun h_ => by have h2_ := hc_ 15 (by decide) h_ 11 (memN_iff.1 (by kernel_rfl)); rw [hd_] at h2_; cases h2_), (hS1_.sub [1, 2, 3, 4, 5, 6, 7, 0, 9, 10] (by decide))⟩
  ·
   obtain rfl := c8_ (hj_ 8 (memN_iff.1 (by kernel_rfl)))
   obtain rfl := c1_ (hj_ 1 (memN_iff.1 (by kernel_rfl)))
   have e_ : d_ 8 = true := hj_ 8 (memN_iff.1 (by kernel_rfl))
   rw [e_] at hS_
   refine op_WL hi_ ha_ ?_
   refine WL.store hS_ 4 rfl [(0, (.map (some g19)))] #[(.map (some g19))] (fun fb => by kernel_rfl) (by kernel_rfl) rfl [0, 1, 2, 3, 5, 6, 7, 8, 9] (by decide) (by decide) (fun w1_ hS1_ => ?_)
   refine ⟨trivial, ?_⟩
   refine WL.done rfl ?_
   exact fun fb_ a_ ha_ => ⟨v8_, (.map (some g19)), v10_, v11_, v12_, v13_, v14_, v15_, (pt g23), v4_, v5_, v6_, (.map (some g19)), x9_, x10_, x11_, g19, g20, g21, g22, g23, g24, g25, g26, fb_, ha_, c0_, c1_, c2_, c3_, c4_, c5_, c6_, c7_, c8_, c9_, c10_, c11_, (fun _ => rfl), c13_, c14_, c15_, (by rw [show upd d_ 12 8 = true from e_]; exact hS1_.sub [1, 2, 3, 4, 0, 5, 6, 7, 8, 9] (by decide))⟩
  ·
   obtain rfl := c9_ (hj_ 9 (memN_iff.1 (by kernel_rfl)))
   obtain rfl := c3_ (hj_ 3 (memN_iff.1 (by kernel_rfl)))
   have e_ : d_ 9 = true := hj_ 9 (memN_iff.1 (by kernel_rfl))
   rw [e_] at hS_
   refine op_WL hi_ ha_ ?_
   refine WL.store hS_ 5 rfl [(0, (.map (some g20)))] #[(.map (some g20))] (fun fb => by kernel_rfl) (by kernel_rfl) rfl [0, 1, 2, 3, 4, 6, 7, 8, 9] (by decide) (by decide) (fun w1_ hS1_ => ?_)
   refine ⟨trivial, ?_⟩
   refine WL.done rfl ?_
   exact fun fb_ a_ ha_ => ⟨v8_, v9_, v10_, (.map (some g20)), v12_, v13_, v14_, v15_, v3_, (pt g24), v5_, v6_, x8_, (.map (some g20)), x10_, x11_, g19, g20, g21, g22, g23, g24, g25, g26, fb_, ha_, c0_, c1_, c2_, c3_, c4_, c5_, c6_, c7_, c8_, c9_, c10_, c11_, c12_, (fun _ => rfl), c14_, c15_, (by rw [show upd d_ 13 9 = true from e_]; exact hS1_.sub [1, 2, 3, 4, 5, 0, 6, 7, 8, 9] (by decide))⟩
  ·
   obtain rfl := c10_ (hj_ 10 (memN_iff.1 (by kernel_rfl)))
   obtain rfl := c5_ (hj_ 5 (memN_iff.1 (by kernel_rfl)))
   have e_ : d_ 10 = true := hj_ 10 (memN_iff.1 (by kernel_rfl))
   rw [e_] at hS_
   refine op_WL hi_ ha_ ?_
   refine WL.store hS_ 6 rfl [(0, (.map (some g21)))] #[(.map (some g21))] (fun fb => by kernel_rfl) (by kernel_rfl) rfl [0, 1, 2, 3, 4, 5, 7, 8, 9] (by decide) (by decide) (fun w1_ hS1_ => ?_)
   refine ⟨trivial, ?_⟩
   refine WL.done rfl ?_
   exact fun fb_ a_ ha_ => ⟨v8_, v9_, v10_, v11_, v12_, (.map (some g21)), v14_, v15_, v3_, v4_, (pt g25), v6_, x8_, x9_, (.map (some g21)), x11_, g19, g20, g21, g22, g23, g24, g25, g26, fb_, ha_, c0_, c1_, c2_, c3_, c4_, c5_, c6_, c7_, c8_, c9_, c10_, c11_, c12_, c13_, (fun _ => rfl), c15_, (by rw [show upd d_ 14 10 = true from e_]; exact hS1_.sub [1, 2, 3, 4, 5, 6, 0, 7, 8, 9] (by decide))⟩
  ·
   obtain rfl := c11_ (hj_ 11 (memN_iff.1 (by kernel_rfl)))
   obtain rfl := c7_ (hj_ 7 (memN_iff.1 (by kernel_rfl)))
   have e_ : d_ 11 = true := hj_ 11 (memN_iff.1 (by kernel_rfl))
   rw [e_] at hS_
   refine op_WL hi_ ha_ ?_
   refine WL.store hS_ 7 rfl [(0, (.map (some g22)))] #[(.map (some g22))] (fun fb => by kernel_rfl) (by kernel_rfl) rfl [0, 1, 2, 3, 4, 5, 6, 8, 9] (by decide) (by decide) (fun w1_ hS1_ => ?_)
   refine ⟨trivial, ?_⟩
   refine WL.done rfl ?_
   exact fun fb_ a_ ha_ => ⟨v8_, v9_, v10_, v11_, v12_, v13_, v14_, (.map (some g22)), v3_, v4_, v5_, (pt g26), x8_, x9_, x10_, (.map (some g22)), g19, g20, g21, g22, g23, g24, g25, g26, fb_, ha_, c0_, c1_, c2_, c3_, c4_, c5_, c6_, c7_, c8_, c9_, c10_, c11_, c12_, c13_, c14_, (fun _ => rfl), (by rw [show upd d_ 15 11 = true from e_]; exact hS1_.sub [1, 2, 3, 4, 5, 6, 7, 0, 8, 9] (by decide))⟩
 intro d_ a_ w52 hd_ hI_
 obtain ⟨v8_, v9_, v10_, v11_, v12_, v13_, v14_, v15_, v3_, v4_, v5_, v6_, x8_, x9_, x10_, x11_, g19, g20, g21, g22, g23, g24, g25, g26, fb_, ha_, c0_, c1_, c2_, c3_, c4_, c5_, c6_, c7_, c8_, c9_, c10_, c11_, c12_, c13_, c14_, c15_, hS_⟩ := hI_
 have e0_ := hd_ 0 (by decide)
 have e1_ := hd_ 1 (by decide)
 have e2_ := hd_ 2 (by decide)
 have e3_ := hd_ 3 (by decide)
 have e4_ := hd_ 4 (by decide)
 have e5_ := hd_ 5 (by decide)
 have e6_ := hd_ 6 (by decide)
 have e7_ := hd_ 7 (by decide)
 have e8_ := hd_ 8 (by decide)
 have e9_ := hd_ 9 (by decide)
 have e10_ := hd_ 10 (by decide)
 have e11_ := hd_ 11 (by decide)
 have e12_ := hd_ 12 (by decide)
 have e13_ := hd_ 13 (by decide)
 have e14_ := hd_ 14 (by decide)
 have e15_ := hd_ 15 (by decide)
 obtain rfl := c0_ e0_
 obtain rfl := c1_ e1_
 obtain rfl := c2_ e2_
 obtain rfl := c3_ e3_
 obtain rfl := c4_ e4_
 obtain rfl := c5_ e5_
 obtain rfl := c6_ e6_
 obtain rfl := c7_ e7_
 obtain rfl := c8_ e8_
 obtain rfl := c9_ e9_
 obtain rfl := c10_ e10_
 obtain rfl := c11_ e11_
 obtain rfl := c12_ e12_
 obtain rfl := c13_ e13_
 obtain rfl := c14_ e14_
 obtain rfl := c15_ e15_
 rw [e1_, e3_, e5_, e7_, e8_, e9_, e10_, e11_] at hS_
 have hS53 := hS.go w52 [blk g19 (mapObj (vI .i64) vB t27), blk g20 (mapObj (vI .i64) vB t33), blk g21 (mapObj (vI .i64) vB t40), blk g22 (mapObj (vI .i64) vB t46), blk g23 (.cells #[(.map (some g19))] 107 (0, 0)), blk g24 (.cells #[(.map (some g20))] 107 (0, 0)), blk g25 (.cells #[(.map (some g21))] 107 (0, 0)), blk g26 (.cells #[(.map (some g22))] 107 (0, 0)), blk g16 (.cells #[(pt ga)] 88 (0, 0)), blk ga (.cells #[(sv Aa p0.set ca), (sv Ab p0.left cb)] 90 (0, 0))] (hS_)
 refine (show WX _ .normal 37 [e3, e2, (3, (pt g23)), (4, (pt g24)), (5, (pt g25)), (6, (pt g26))] w52 from ?_) _ _ (ha_.picked (show pick _ [0, 1, 3, 4, 5, 6] = some [e3, e2, (3, (pt g23)), (4, (pt g24)), (5, (pt g25)), (6, (pt g26))] from rfl))
 refine WX.next (WC.seq (WC.region ?_))
 refine seg 6 [.v (pt ga), .v (sv Ab p0.left cb)] [0, 1, 3, 4, 5, 6, 7] [e3, e2, (3, (pt g23)), (4, (pt g24)), (5, (pt g25)), (6, (pt g26)), (7, (iv (p0.left.length : Int)))] [.cell ⟨g16, 0, none⟩ (pt ga), .cell ⟨ga, 1, none⟩ (sv Ab p0.left cb)] (fun fb => by kernel_rfl) rfl ⟨hS53.cell 8 rfl 0 rfl, hS53.cell 9 rfl 1 rfl, trivial⟩ ?_
 refine WL.done rfl (WX.next (WC.seq ?_))
 refine WC.regionD ([(0, ⟨g16, 0, none⟩, (pt ga)), (1, ⟨g16, 0, none⟩, (pt ga)), (4, ⟨ga, 1, none⟩, (sv Ab p0.left cb))], [0, 1, 2, 3, 4, 5, 7, 8], [[], [], [1], [1, 2], [1, 2, 3], [], [1, 2, 3, 4, 5], [0, 1, 2, 3, 4, 5, 6], [0, 1, 2, 3, 4, 5, 6, 7], [0, 1, 2, 3, 4, 5, 6, 7, 8]]) [[0, 1, 2, 3, 4, 5, 6, 7, 8, 9]] (by kernel_rfl) (by kernel_rfl) (NoPanic.seq (NoPanic.body)) ?_
 have hS55 := hS53.drew
 revert hS55
 generalize World.drew w52 = w54
 intro hS55
 refine ⟨⟨hS55.cell 8 rfl 0 rfl, hS55.cell 8 rfl 0 rfl, hS55.cell 9 rfl 1 rfl, trivial⟩, forallC ?_ (forallN)⟩
 refine segF 6 [.v (pt ga), .v (pt ga), .v (sv Ab p0.left cb)] [0, 1, 7, 21, 25, 26] [e3, e2, (7, (iv (p0.left.length : Int))), (21, (pt ga)), (25, (sv Ab p0.left cb)), (26, (.func (.func 57) #[] #[(pt g16), (pt g25), (pt g26), (pt g23), (pt g24)]))] [] [0, 1, 2] [(0, ⟨g16, 0, none⟩, (pt ga)), (1, ⟨g16, 0, none⟩, (pt ga)), (4, ⟨ga, 1, none⟩, (sv Ab p0.left cb))] (fun fb => by kernel_rfl) rfl trivial rfl ?_
 obtain ⟨t56, ht57, hf⟩ := bind_some hf
 refine WL.call (some 27) 56 #[(sv Ab p0.left cb), (.func (.func 57) #[] #[(pt g16), (pt g25), (pt g26), (pt g23), (pt g24)])] (fun fb => by kernel_rfl) (strip_kept_int_with_strip_rest_thin_1_calls _ p0.left p0 t40 t46 t27 t33 Ab cb ga Aa ca Ab cb g16 g25 g21 g26 g22 g23 g19 g24 g20 t56 _ (hS55.rd 1) (hS55.ow 9) (hS55.rd 0) (hS55.rd 1) (hS55.ow 8) (hS55.ow 2) (hS55.ow 6) (hS55.ow 3) (hS55.ow 7) (hS55.ow 0) (hS55.ow 4) (hS55.ow 1) (hS55.ow 5) ht57) (fun v w58 hR59 => ?_)
 obtain ⟨A61, c62, rfl, hk_⟩ := hR59
 have hS60 : St (fpL [blk ga (.cells #[(.slice Aa p0.set.length ca), (.slice Ab p0.left.length cb)] 90 (0, 0))]) w w58 [rowR enc_Tile Aa ca p0.set, rowR encInt Ab cb p0.left] [rowO 3 encInt A61 c62 t56, blk g19 (mapObj (vI .i64) vB t27), blk g20 (mapObj (vI .i64) vB t33), blk g21 (mapObj (vI .i64) vB t40), blk g22 (mapObj (vI .i64) vB t46), blk g23 (.cells #[(.map (some g19))] 107 (0, 0)), blk g24 (.cells #[(.map (some g20))] 107 (0, 0)), blk g25 (.cells #[(.map (some g21))] 107 (0, 0)), blk g26 (.cells #[(.map (some g22))] 107 (0, 0)), blk g16 (.cells #[(pt ga)] 88 (0, 0)), blk ga (.cells #[(.slice Aa p0.set.length ca), (.slice Ab p0.left.length cb)] 90 (0, 0))] := hS55.call hk_ [] [0, 1, 2, 3, 4, 5, 6, 7, 8, 9] (fun g hg => hg.elim) (by simp) (by decide)
 refine ⟨⟨hS60.cell 9 rfl 0 rfl, trivial⟩, ?_⟩
 refine seg 9 [] [0, 1, 7, 27, 29] [e3, e2, (7, (iv (p0.left.length : Int))), (27, (sv A61 t56 c62)), (29, (.pointer (some ⟨ga, 1, none⟩)))] [] (fun fb => by kernel_rfl) rfl trivial ?_
 refine WL.store hS60 10 rfl [(1, (sv A61 t56 c62))] #[(sv Aa p0.set ca), (sv A61 t56 c62)] (fun fb => by kernel_rfl) (by kernel_rfl) rfl [0, 1, 2, 3, 4, 5, 6, 7, 8, 9] (by decide) (by decide) (fun w63 hS65 => ?_)
 refine ⟨trivial, ?_⟩
 refine WL.done rfl (WX.next (WC.seq (WC.region ?_)))
 refine seg 8 [.v (pt ga), .v (sv A61 t56 c62)] [0, 2] [e3, (2, (bv (decide ((t56.length : Int) < (p0.left.length : Int)))))] [.cell ⟨g16, 0, none⟩ (pt ga), .cell ⟨ga, 1, none⟩ (sv A61 t56 c62)] (fun fb => by kernel_rfl) rfl ⟨hS65.cell 10 rfl 0 rfl, hS65.cell 0 rfl 1 rfl, trivial⟩ ?_
 refine WL.done rfl (WX.next ?_)
 refine WC.ret ?_
 injection hf with hf
 subst hf
 exact WX.ret_ [] (bv (decide ((t56.length : Int) < (p0.left.length : Int)))) [] (fun fb => by kernel_rfl) trivial ⟨_, rfl, A61, c62, rfl, (hS65.sub [0, 1] (by decide)).noR⟩
theorem strip_Core_calls (k : Nat) (p0 : List Tile) (Aa : Option Addr) (ca : Nat) (r : (List Int) × Int) (w : World) (hR0 : RO NoS w (rowR enc_Tile Aa ca p0)) (hf : strip_Core k p0 = some r) :
  CallsR Tryz.prog 18 #[(sv Aa p0 ca)] w (fun v w' => ∃ (A1_ : Option Addr), ∃ (c1_ : Nat), v = (.tuple #[(sv A1_ r.1 c1_), (iv r.2)]) ∧ St NoS w w' [] [rowO 3 encInt A1_ c1_ r.1]) := by
 have hS : St NoS w w [rowR enc_Tile Aa ca p0] [] := St.init (ro_cons hR0 (ro_nil _ _))
 refine enter 37 Tryz.func18 rfl Tryz.ntmps18 rfl ?_
 unfold strip_Core at hf
 refine WC.seq (WC.region ?_)
 refine seg 2 [] [0] [(0, (sv Aa p0 ca))] [] (fun fb => by kernel_rfl) rfl trivial ?_
 refine WL.done rfl (WX.next (WC.seq (WC.seq (WC.region ?_))))
 refine seg 1 [] [0, 7] [(0, (sv Aa p0 ca)), (7, (sv Aa p0 ca))] [] (fun fb => by kernel_rfl) rfl trivial ?_
 obtain ⟨t3, ht4, hf⟩ := bind_some hf
 refine WL.call (some 8) 22 #[(sv Aa p0 ca)] (fun fb => by kernel_rfl) (tile_Valid_calls _ p0 Aa ca t3 _ (hS.rd 0) ht4) (fun v w5 hR6 => ?_)
 obtain ⟨rfl, hk_⟩ := hR6
 have hS7 := hS.keepN hk_
 refine ⟨trivial, ?_⟩
 refine seg 3 [] [0, 9] [(0, (sv Aa p0 ca)), (9, (bv (!t3)))] [] (fun fb => by kernel_rfl) rfl trivial ?_
 refine WL.done rfl (WX.next ?_)
 rcases br_some hf with ⟨h8, hf⟩ | ⟨h8, hf⟩
 ·refine WC.condT2 (fun fb => by kernel_rfl) h8 ?_
  refine WC.seq (WC.region ?_)
  refine seg 2 [] [2, 3] [(2, (.slice none 0 0)), (3, (iv 1))] [] (fun fb => by kernel_rfl) rfl trivial ?_
  refine WL.done rfl (WX.next ?_)
  refine WC.ret ?_
  have hS9 := hS7.nilrow 3 encInt
  injection hf with hf
  subst hf
  exact WX.thenR (WX.ret_ [] (.tuple #[(sv none ([] : List Int) 0), (iv 1)]) [] (fun fb => by kernel_rfl) trivial ⟨_, rfl, none, 0, rfl, (hS9.sub [0] (by decide)).noR⟩)
 refine WC.condF2 (fun fb => by kernel_rfl) h8 ?_
 refine WC.skip (WX.next (WC.seq (WC.region ?_)))
 refine seg 2 [] [0, 11] [(0, (sv Aa p0 ca)), (11, (.agg #[(sv Aa p0 ca), (.slice none 0 0)]))] [] (fun fb => by kernel_rfl) rfl trivial ?_
 refine WL.new hS7 12 [] (fun g => (pt g)) (.cells #[(sv Aa p0 ca), (.slice none 0 0)] 90 (0, 0)) [] (fun fb g => by kernel_rfl) trivial (fun g10 w11 hS12 => ?_)
 refine ⟨trivial, ?_⟩
 refine seg 4 [] [0, 4] [(0, (sv Aa p0 ca)), (4, (pt g10))] [] (fun fb => by kernel_rfl) rfl trivial ?_
 refine WL.done rfl (WX.next (WC.seq (WC.seq (WC.region ?_))))
 refine seg 3 [] [4, 14, 15] [(4, (pt g10)), (14, (iv (p0.length : Int))), (15, (iv 0))] [] (fun fb => by kernel_rfl) rfl trivial ?_
 refine WL.done rfl (WX.next ?_)
 have hS13 := hS12.nilrow 3 encInt
 obtain ⟨x21, hx22, hf⟩ := bind_some hf
 let e1 : Nat × Value := (14, (iv (p0.length : Int)))
 let e2 : Nat × Value := (4, (pt g10))
 refine WC.cutN (T := (List Int) × (Option Addr) × Nat) (fun t => [e2]) (fun t w1 => St NoS w w1 [rowR enc_Tile Aa ca p0] [blk g10 (.cells #[(sv Aa p0 ca), (sv t.2.1 t.1 t.2.2)] 90 (0, 0)), rowO 3 encInt t.2.1 t.2.2 t.1] ∧ x21 = t.1) (fun Kx21 => ?_) ?_
 ·
  refine WC.block ?_
  refine WC.loop (T := ((List Int) × Int) × (Option Addr) × Nat) (fun t => [e2, e1, (15, (iv t.1.2))]) (fun n t w1 => St NoS w w1 [rowR enc_Tile Aa ca p0] [blk g10 (.cells #[(sv Aa p0 ca), (sv t.2.1 t.1.1 t.2.2)] 90 (0, 0)), rowO 3 encInt t.2.1 t.2.2 t.1.1] ∧ strip_Core.l0 n t.1.1 t.1.2 p0 = some x21) k ((([] : List Int), 0), none, 0) [4, 14, 15] rfl ⟨(hS13.subR [0]).sub [1, 0] (by decide), hx22⟩ ?_
  rintro k23 ⟨⟨l16, x17⟩, A14, c15⟩ w24 ⟨hS25, hl26⟩
  cases k23 with
  | zero => rw [strip_Core.l0] at hl26; cases hl26
  | succ k23 =>
   rw [strip_Core.l0] at hl26
   refine WC.seq (WC.region ?_)
   refine seg 1 [] [4, 14, 15, 16] [e2, e1, (15, (iv x17)), (16, (bv (decide (x17 < (p0.length : Int)))))] [] (fun fb => by kernel_rfl) rfl trivial ?_
   refine WL.done rfl (WX.next (WC.seq ?_))
   rcases br_some hl26 with ⟨h27, hl26⟩ | ⟨h27, hl26⟩
   ·refine WC.condT2 (fun fb => by kernel_rfl) h27 ?_
    refine WC.skip (WX.next (WC.seq (WC.block (WC.seq (WC.region ?_)))))
    refine seg 2 [] [4, 5, 14, 15] [e2, (5, (iv x17)), e1, (15, (iv x17))] [] (fun fb => by kernel_rfl) rfl trivial ?_
    refine WL.done rfl (WX.next (WC.region ?_))
    refine seg 6 [.v (sv A14 l16 c15)] [4, 14, 15, 18, 22, 23] [e2, e1, (15, (iv x17)), (18, (pt g10)), (22, (sv A14 l16 c15)), (23, (iv x17))] [.cell ⟨g10, 1, none⟩ (sv A14 l16 c15)] (fun fb => by kernel_rfl) rfl ⟨hS25.cell 0 rfl 1 rfl, trivial⟩ ?_
    refine WL.new hS25 24 [] (fun g => (.slice (some ⟨g, 0, none⟩) 1 1)) (.cells #[(iv x17)] 3 (0, 0)) [] (fun fb g => by kernel_rfl) trivial (fun g28 w29 hS30 => ?_)
    refine ⟨trivial, ?_⟩
    have hS31 := hS.go w29 [rowO 3 encInt (some ⟨g28, 0, none⟩) 1 [x17], blk g10 (.cells #[(sv Aa p0 ca), (sv A14 l16 c15)] 90 (0, 0)), rowO 3 encInt A14 c15 l16] (hS30.map1 0 _ (fun h => rowO.ofBlk h rfl (Nat.le_of_ble_eq_true (by kernel_rfl))) (fun _ h => by obtain ⟨_, h1, h2⟩ := h; injection h1 with h1; subst h1; exact h2) [1, 2] (by decide) (by decide))
    obtain ⟨h32, hl26⟩ := as_some hl26
    refine WL.append hS31 2 (d := 25) (tS := 35) (z := (iv 0)) (bytes := 8) (c2 := 1) rfl (fun fb => by kernel_rfl) (rowO.rd (hS31.own 0).1) (by kernel_rfl) (by kernel_rfl) rfl (by decide) h32 (by decide) [0, 1] (by decide) (by decide) (fun A33 c34 w35 hS36 => ?_)
    refine ⟨trivial, ?_⟩
    refine seg 10 [] [4, 14, 15, 25, 27] [e2, e1, (15, (iv x17)), (25, (sv A33 (l16 ++ [x17]) c34)), (27, (.pointer (some ⟨g10, 1, none⟩)))] [] (fun fb => by kernel_rfl) rfl trivial ?_
    refine WL.store hS36 2 rfl [(1, (sv A33 (l16 ++ [x17]) c34))] #[(sv Aa p0 ca), (sv A33 (l16 ++ [x17]) c34)] (fun fb => by kernel_rfl) (by kernel_rfl) rfl [0, 1] (by decide) (by decide) (fun w37 hS38 => ?_)
    refine ⟨trivial, ?_⟩
    refine WL.done rfl ?_
    refine WX.blockN (WX.next ?_)
    refine WC.region ?_
    refine seg 2 [] [4, 14, 15] [e2, e1, (15, (iv (w64 (x17 + 1))))] [] (fun fb => by kernel_rfl) rfl trivial ?_
    refine WL.done rfl ?_
    exact WX.again k23 (Nat.lt_succ_self _) ((l16 ++ [x17], w64 (x17 + 1)), A33, c34) [4, 14, 15] rfl ⟨(hS38.subR [0]).sub [0, 1] (by decide), hl26⟩
   refine WC.condF2 (fun fb => by kernel_rfl) h27 ?_
   refine WC.exit ?_
   injection hl26 with hl26
   exact WX.thenX (WX.thenX (WX.blockHere (WX.to Kx21 (l16, A14, c15) [4] rfl ⟨(hS25.subR [0]).sub [0, 1] (by decide), hl26.symm⟩)))
 rintro ⟨y42, A19, c20⟩ w39 ⟨hS40, hq41⟩
 subst hq41
 refine WX.next (WC.seq (WC.seq (WC.region ?_)))
 refine seg 3 [] [4, 6] [e2, (6, (.func (.func 37) #[(pt g10)] #[]))] [] (fun fb => by kernel_rfl) rfl trivial ?_
 refine WL.done rfl (WX.next ?_)
 obtain ⟨x48, hx49, hf⟩ := bind_some hf
 refine WC.cutN (T := (List Int) × (Option Addr) × Nat) (fun t => [e2]) (fun t w1 => St NoS w w1 [rowR enc_Tile Aa ca p0] [blk g10 (.cells #[(sv Aa p0 ca), (sv t.2.1 t.1 t.2.2)] 90 (0, 0)), rowO 3 encInt t.2.1 t.2.2 t.1] ∧ x48 = t.1) (fun Kx48 => ?_) ?_
 ·
  refine WC.block ?_
  refine WC.loop (T := (List Int) × (Option Addr) × Nat) (fun t => [e2, (6, (.func (.func 37) #[(pt g10)] #[]))]) (fun n t w1 => St NoS w w1 [rowR enc_Tile Aa ca p0] [blk g10 (.cells #[(sv Aa p0 ca), (sv t.2.1 t.1 t.2.2)] 90 (0, 0)), rowO 3 encInt t.2.1 t.2.2 t.1] ∧ strip_Core.l1 n t.1 p0 = some x48) k (x21, A19, c20) [4, 6] rfl ⟨(hS40.subR [0]).sub [0, 1] (by decide), hx49⟩ ?_
  rintro k50 ⟨l45, A43, c44⟩ w51 ⟨hS52, hl53⟩
  cases k50 with
  | zero => rw [strip_Core.l1] at hl53; cases hl53
  | succ k50 =>
   rw [strip_Core.l1] at hl53
   refine WC.seq (WC.seq (WC.region ?_))
   refine seg 1 [] [4, 6, 31] [e2, (6, (.func (.func 37) #[(pt g10)] #[])), (31, (.func (.func 37) #[(pt g10)] #[]))] [] (fun fb => by kernel_rfl) rfl trivial ?_
   obtain ⟨t54, ht55, hl53⟩ := bind_some hl53
   refine WL.call (some 32) 37 #[(pt g10)] (fun fb => by kernel_rfl) (strip_rest_thin_calls _ (Rest.mk p0 l45) g10 Aa ca A43 c44 t54 _ (hS52.rdT [0] 0) (hS52.owT [0] 1 (by decide)).ofO (hS52.io [0] (by decide)) ht55) (fun v w56 hR57 => ?_)
   obtain ⟨A59, c60, rfl, hk_⟩ := hR57
   have hS58 := hS.go w56 [blk g10 (.cells #[(sv Aa p0 ca), (sv A59 t54.2.left c60)] 90 (0, 0)), rowO 3 encInt A59 c60 t54.2.left, rowO 3 encInt A43 c44 l45] (hS52.call hk_ [0] [1] (fun g hg => fpL_sel g hg) (by decide) (by decide))
   refine ⟨trivial, ?_⟩
   refine WL.done rfl (WX.next ?_)
   rcases br_some hl53 with ⟨h61, hl53⟩ | ⟨h61, hl53⟩
   ·refine WC.condT2 (fun fb => by kernel_rfl) h61 ?_
    refine WC.skip (WX.next (WC.block (WC.skip ?_)))
    exact WX.blockN (WX.again k50 (Nat.lt_succ_self _) (t54.2.left, A59, c60) [4, 6] rfl ⟨(hS58.subR [0]).sub [0, 1] (by decide), hl53⟩)
   refine WC.condF2 (fun fb => by kernel_rfl) h61 ?_
   refine WC.exit ?_
   injection hl53 with hl53
   exact WX.thenX (WX.thenX (WX.blockHere (WX.to Kx48 (t54.2.left, A59, c60) [4] rfl ⟨(hS58.subR [0]).sub [0, 1] (by decide), hl53.symm⟩)))
 rintro ⟨y66, A46, c47⟩ w62 ⟨hS63, hq65⟩
 subst hq65
 refine WX.next (WC.seq (WC.region ?_))
 refine seg 6 [.v (sv A46 x48 c47)] [2, 3] [(2, (sv A46 x48 c47)), (3, (iv 0))] [.cell ⟨g10, 1, none⟩ (sv A46 x48 c47)] (fun fb => by kernel_rfl) rfl ⟨hS63.cell 0 rfl 1 rfl, trivial⟩ ?_
 refine WL.done rfl (WX.next ?_)
 refine WC.ret ?_
 injection hf with hf
 subst hf
 exact WX.ret_ [] (.tuple #[(sv A46 x48 c47), (iv 0)]) [] (fun fb => by kernel_rfl) trivial ⟨_, rfl, A46, c47, rfl, (hS63.sub [1] (by decide)).noR⟩
theorem strip_On_1_key30 : KeyK Tryz.prog 30 (aggI ints_A2_Int) := KeyK.array (n := 2) (by kernel_rfl) ints_A2_Int (fun _ => rfl) (fun x y h => by cases x; cases y; simp only [ints_A2_Int, List.cons.injEq, and_true] at h; obtain ⟨rfl, rfl⟩ := h; rfl)
theorem strip_On_1_calls (p0 : Int) (p1 : Int) (f0 : List (A2_Int × Int)) (ga : Nat) (gm_f0 : Nat) (r : Int × (List (A2_Int × Int))) (w : World) (hR0 : RO (fpL [blk gm_f0 (mapObj (aggI ints_A2_Int) (vI .i64) f0)]) w (blk ga (.cells #[(.map (some gm_f0))] 53 (0, 0)))) (hI : IoOK w [blk gm_f0 (mapObj (aggI ints_A2_Int) (vI .i64) f0)]) (hf : strip_On_1 p0 p1 f0 = some r) :
  CallsR Tryz.prog 23 #[(iv p0), (iv p1), (pt ga)] w (fun v w' => v = (iv r.1) ∧ St (fpL [blk gm_f0 (mapObj (aggI ints_A2_Int) (vI .i64) f0)]) w w' [] [blk gm_f0 (mapObj (aggI ints_A2_Int) (vI .i64) r.2)]) := by
 have hS : St (fpL [blk gm_f0 (mapObj (aggI ints_A2_Int) (vI .i64) f0)]) w w [blk ga (.cells #[(.map (some gm_f0))] 53 (0, 0))] [blk gm_f0 (mapObj (aggI ints_A2_Int) (vI .i64) f0)] := St.initIO (ro_cons hR0 (ro_nil _ _)) hI
 refine enter 27 Tryz.func23 rfl Tryz.ntmps23 rfl ?_
 unfold strip_On_1 at hf
 refine WC.seq (WC.region ?_)
 refine seg 1 [] [0, 1, 2] [(0, (iv p0)), (1, (iv p1)), (2, (pt ga))] [] (fun fb => by kernel_rfl) rfl trivial ?_
 refine WL.done rfl (WX.next (WC.seq (WC.region ?_)))
 refine seg 3 [] [2, 11] [(2, (pt ga)), (11, (.agg #[(iv p0), (iv p1)]))] [] (fun fb => by kernel_rfl) rfl trivial ?_
 refine WL.new hS 6 [] (fun g => (pt g)) (.cells #[(iv 0), (iv 0)] 30 (0, 0)) [] (fun fb g => by kernel_rfl) trivial (fun g3 w4 hS5 => ?_)
 refine ⟨trivial, ?_⟩
 refine WL.store hS5 0 rfl [(0, (iv p0)), (1, (iv p1))] #[(iv p0), (iv p1)] (fun fb => by kernel_rfl) (by kernel_rfl) rfl [1] (by decide) (by decide) (fun w6 hS7 => ?_)
 refine ⟨trivial, ?_⟩
 refine WL.done rfl (WX.next (WC.seq (WC.seq (WC.region ?_))))
 refine seg 2 [.v (.map (some gm_f0)), .v (iv p0), .v (iv p1)] [2, 6, 13, 14] [(2, (pt ga)), (6, (pt g3)), (13, (.map (some gm_f0))), (14, (.agg #[(iv p0), (iv p1)]))] [.cell ⟨ga, 0, none⟩ (.map (some gm_f0)), .cell ⟨g3, 0, none⟩ (iv p0), .cell ⟨g3, 1, none⟩ (iv p1)] (fun fb => by kernel_rfl) rfl ⟨blk_cell (hS7.rd 0).1 0 rfl, hS7.cell 0 rfl 0 rfl, hS7.cell 0 rfl 1 rfl, trivial⟩ ?_
 refine WL.lookup (hS7.own 1).1 (A2_Int.mk p0 p1) (d := 15) (c := true) (t := 53) (kT := 30) (eT := 3) (z := 0) (kE := (aggI ints_A2_Int)) (vE := (vI .i64)) (l := f0) (.tuple #[(iv (mget (A2_Int.mk p0 p1) 0 f0)), (bv (mhas (A2_Int.mk p0 p1) f0))]) (fun fb => by kernel_rfl) strip_On_1_key30 (by kernel_rfl) (fun _ => by kernel_rfl) rfl ?_
 refine ⟨trivial, ?_⟩
 refine seg 8 [] [2, 6, 8] [(2, (pt ga)), (6, (pt g3)), (8, (bv (mhas (A2_Int.mk p0 p1) f0)))] [] (fun fb => by kernel_rfl) rfl trivial ?_
 refine WL.done rfl (WX.next (WC.seq (WC.region ?_)))
 refine seg 2 [] [2, 6, 19] [(2, (pt ga)), (6, (pt g3)), (19, (bv (!(mhas (A2_Int.mk p0 p1) f0))))] [] (fun fb => by kernel_rfl) rfl trivial ?_
 refine WL.done rfl (WX.next ?_)
 obtain ⟨x8, hx9, hf⟩ := bind_some hf
 let e1 := aggI ints_A2_Int
 let e2 := some gm_f0
 refine WC.cutN (T := (List (A2_Int × Int))) (fun t => [(2, (pt ga)), (6, (pt g3))]) (fun t w1 => St (fpL [blk gm_f0 (mapObj e1 (vI .i64) f0)]) w w1 [blk ga (.cells #[(.map e2)] 53 (0, 0))] [blk g3 (.cells #[(iv p0), (iv p1)] 30 (0, 0)), blk gm_f0 (mapObj e1 (vI .i64) t)] ∧ x8 = t) (fun Kx8 => ?_) ?_
 ·
  rcases br_some hx9 with ⟨h10, hx9⟩ | ⟨h10, hx9⟩
  ·refine WC.condT2 (fun fb => by kernel_rfl) h10 ?_
   refine WC.region ?_
   refine seg 3 [.v (.map e2), .v (iv p0), .v (iv p1), .v (.map e2)] [2, 6, 20, 21, 22] [(2, (pt ga)), (6, (pt g3)), (20, (.map e2)), (21, (.agg #[(iv p0), (iv p1)])), (22, (.map e2))] [.cell ⟨ga, 0, none⟩ (.map e2), .cell ⟨g3, 0, none⟩ (iv p0), .cell ⟨g3, 1, none⟩ (iv p1), .cell ⟨ga, 0, none⟩ (.map e2)] (fun fb => by kernel_rfl) rfl ⟨blk_cell (hS7.rd 0).1 0 rfl, hS7.cell 0 rfl 0 rfl, hS7.cell 0 rfl 1 rfl, blk_cell (hS7.rd 0).1 0 rfl, trivial⟩ ?_
   refine seg 4 [.o (mapObj e1 (vI .i64) f0)] [2, 6, 20, 21, 23] [(2, (pt ga)), (6, (pt g3)), (20, (.map e2)), (21, (.agg #[(iv p0), (iv p1)])), (23, (iv (((ents e1 (vI .i64) 0 f0).toArray.size : Nat) : Int)))] [.obj gm_f0 (mapObj e1 (vI .i64) f0)] (fun fb => by kernel_rfl) rfl ⟨(mapObj_req (hS7.own 1).1), trivial⟩ ?_
   refine WL.reE [2, 6, 20, 21, 23] [(2, (pt ga)), (6, (pt g3)), (20, (.map (some gm_f0))), (21, (.agg #[(iv p0), (iv p1)])), (23, (iv (((ents (aggI ints_A2_Int) (vI .i64) 0 f0).toArray.size : Nat) : Int)))] [(2, (pt ga)), (6, (pt g3)), (20, (.map (some gm_f0))), (21, (.agg #[(iv p0), (iv p1)])), (23, (iv (f0.length : Int)))] rfl (by rw [ents_size]) ?_
   refine WL.mapput hS7 1 (t := 53) (kT := 30) (eT := 3) (kE := e1) (vE := (vI .i64)) (l := f0) rfl (A2_Int.mk p0 p1) (f0.length : Int) (fun fb => by kernel_rfl) strip_On_1_key30 (by kernel_rfl) [0] (by decide) (by decide) (fun w11 hS12 => ?_)
   refine ⟨trivial, ?_⟩
   refine WL.done rfl ?_
   injection hx9 with hx9
   exact WX.to Kx8 (mput (A2_Int.mk p0 p1) (f0.length : Int) f0) [2, 6] rfl ⟨(hS12.subR [0]).sub [1, 0] (by decide), hx9.symm⟩
  refine WC.condF2 (fun fb => by kernel_rfl) h10 ?_
  refine WC.skip ?_
  injection hx9 with hx9
  exact WX.to Kx8 f0 [2, 6] rfl ⟨(hS7.subR [0]).sub [0, 1] (by decide), hx9.symm⟩
 rintro y16 w13 ⟨hS14, hq15⟩
 subst hq15
 refine WX.next (WC.seq (WC.region ?_))
 refine seg 2 [.v (.map e2), .v (iv p0), .v (iv p1)] [24, 25] [(24, (.map e2)), (25, (.agg #[(iv p0), (iv p1)]))] [.cell ⟨ga, 0, none⟩ (.map e2), .cell ⟨g3, 0, none⟩ (iv p0), .cell ⟨g3, 1, none⟩ (iv p1)] (fun fb => by kernel_rfl) rfl ⟨blk_cell (hS14.rd 0).1 0 rfl, hS14.cell 0 rfl 0 rfl, hS14.cell 0 rfl 1 rfl, trivial⟩ ?_
 refine WL.lookup (hS14.own 1).1 (A2_Int.mk p0 p1) (d := 26) (c := false) (t := 53) (kT := 30) (eT := 3) (z := 0) (kE := e1) (vE := (vI .i64)) (l := x8) (iv (mget (A2_Int.mk p0 p1) 0 x8)) (fun fb => by kernel_rfl) strip_On_1_key30 (by kernel_rfl) (fun _ => by kernel_rfl) rfl ?_
 refine ⟨trivial, ?_⟩
 refine seg 4 [] [5] [(5, (iv (mget (A2_Int.mk p0 p1) 0 x8)))] [] (fun fb => by kernel_rfl) rfl trivial ?_
 refine WL.done rfl (WX.next ?_)
 refine WC.ret ?_
 injection hf with hf
 subst hf
 exact WX.ret_ [] (iv (mget (A2_Int.mk p0 p1) 0 x8)) [] (fun fb => by kernel_rfl) trivial ⟨_, rfl, rfl, (hS14.sub [1] (by decide)).noR⟩
theorem strip_On_key32 : KeyK Tryz.prog 32 (aggI ints_Tile) := KeyK.struct (n := 4) (by kernel_rfl) ints_Tile (fun _ => rfl) (fun x y h => by cases x; cases y; simp only [ints_Tile, List.cons.injEq, and_true] at h; obtain ⟨rfl, rfl, rfl, rfl⟩ := h; rfl)
theorem strip_On_calls (k : Nat) (p0 : List Tile) (p1 : List Tile) (Aa : Option Addr) (ca : Nat) (Ab : Option Addr) (cb : Nat) (r : (List Tile) × (List A2_Int) × Int) (w : World) (hR0 : RO NoS w (rowR enc_Tile Aa ca p0)) (hR1 : RO NoS w (rowR enc_Tile Ab cb p1)) (hf : strip_On k p0 p1 = some r) :
  CallsR Tryz.prog 7 #[(sv Aa p0 ca), (sv Ab p1 cb)] w (fun v w' => ∃ (A1_ : Option Addr), ∃ (c1_ : Nat), ∃ (A2_ : Option Addr), ∃ (c2_ : Nat), v = (.tuple #[(sv A1_ r.1 c1_), (sv A2_ r.2.1 c2_), (iv r.2.2)]) ∧ St NoS w w' [] [rowO 32 enc_Tile A1_ c1_ r.1, rowO 30 enc_A2_Int A2_ c2_ r.2.1]) := by
 have hS : St NoS w w [rowR enc_Tile Aa ca p0, rowR enc_Tile Ab cb p1] [] := St.init (ro_cons hR0 (ro_cons hR1 (ro_nil _ _)))
 refine enter 93 Tryz.func7 rfl Tryz.ntmps7 rfl ?_
 unfold strip_On at hf
 refine WC.seq (WC.region ?_)
 refine seg 3 [] [0, 1] [(0, (sv Aa p0 ca)), (1, (sv Ab p1 cb))] [] (fun fb => by kernel_rfl) rfl trivial ?_
 refine WL.done rfl (WX.next (WC.seq (WC.seq (WC.region ?_))))
 refine seg 1 [] [0, 1, 17] [(0, (sv Aa p0 ca)), (1, (sv Ab p1 cb)), (17, (sv Aa p0 ca))] [] (fun fb => by kernel_rfl) rfl trivial ?_
 obtain ⟨t3, ht4, hf⟩ := bind_some hf
 refine WL.call (some 18) 22 #[(sv Aa p0 ca)] (fun fb => by kernel_rfl) (tile_Valid_calls _ p0 Aa ca t3 _ (hS.rd 0) ht4) (fun v w5 hR6 => ?_)
 obtain ⟨rfl, hk_⟩ := hR6
 have hS8 := hS.keepN hk_
 refine ⟨trivial, ?_⟩
 refine seg 4 [] [0, 1, 20] [(0, (sv Aa p0 ca)), (1, (sv Ab p1 cb)), (20, (bv (!t3)))] [] (fun fb => by kernel_rfl) rfl trivial ?_
 obtain ⟨x9, hx10, hf⟩ := bind_some hf
 let e38 := sv Ab p1 cb
 refine WL.cutW (T := Bool) 8 (fun t => [(0, (sv Aa p0 ca)), (1, e38), (24, (bv t))]) (fun t w1 => (St NoS w w1 [rowR enc_Tile Aa ca p0, rowR enc_Tile Ab cb p1] [] ∧ x9 = t) ∧ CellsOK [] w1) (fun K => ?_) ?_
 ·
  rcases br_some hx10 with ⟨h11, hx10⟩ | ⟨h11, hx10⟩
  ·
   refine WL.setB 20 h11 rfl ?_
   refine seg 8 [] [0, 1, 24] [(0, (sv Aa p0 ca)), (1, e38), (24, (bv true))] [] (fun fb => by kernel_rfl) rfl trivial ?_
   injection hx10 with hx10
   exact WL.to K true [0, 1, 24] rfl ⟨⟨(hS8.subR [0, 1]).sub [] (by decide), hx10.symm⟩, trivial⟩
  refine WL.setB 20 h11 rfl ?_
  refine seg 5 [] [0, 1, 20, 21] [(0, (sv Aa p0 ca)), (1, e38), (20, (bv false)), (21, e38)] [] (fun fb => by kernel_rfl) rfl trivial ?_
  obtain ⟨t12, ht13, hx10⟩ := bind_some hx10
  refine WL.call (some 22) 22 #[e38] (fun fb => by kernel_rfl) (tile_Valid_calls _ p1 Ab cb t12 _ (hS8.rd 1) ht13) (fun v w14 hR15 => ?_)
  obtain ⟨rfl, hk_⟩ := hR15
  have hS16 := hS8.keepN hk_
  refine ⟨trivial, ?_⟩
  refine seg 8 [] [0, 1, 24] [(0, (sv Aa p0 ca)), (1, e38), (24, (bv (!t12)))] [] (fun fb => by kernel_rfl) rfl trivial ?_
  injection hx10 with hx10
  exact WL.to K (!t12) [0, 1, 24] rfl ⟨⟨(hS16.subR [0, 1]).sub [] (by decide), hx10.symm⟩, trivial⟩
 rintro y17 w19 ⟨⟨hS20, hq18⟩, hF21⟩
 subst hq18
 refine WL.done rfl (WX.next ?_)
 rcases br_some hf with ⟨h22, hf⟩ | ⟨h22, hf⟩
 ·refine WC.condT2 (fun fb => by kernel_rfl) h22 ?_
  refine WC.seq (WC.region ?_)
  refine seg 3 [] [4, 5, 6] [(4, (.slice none 0 0)), (5, (.slice none 0 0)), (6, (iv 1))] [] (fun fb => by kernel_rfl) rfl trivial ?_
  refine WL.done rfl (WX.next ?_)
  refine WC.ret ?_
  have hS23 := hS20.nilrow 32 enc_Tile
  have hS24 := hS23.nilrow 30 enc_A2_Int
  injection hf with hf
  subst hf
  exact WX.thenR (WX.ret_ [] (.tuple #[(sv none ([] : List Tile) 0), (sv none ([] : List A2_Int) 0), (iv 1)]) [] (fun fb => by kernel_rfl) trivial ⟨_, rfl, none, 0, none, 0, rfl, (hS24.sub [1, 0] (by decide)).noR⟩)
 refine WC.condF2 (fun fb => by kernel_rfl) h22 ?_
 refine WC.skip (WX.next (WC.seq (WC.region ?_)))
 refine WL.new hS20 25 [] (fun g => (.map (some g))) (mapObj (aggI ints_A2_Int) (vI .i64) ([] : List (A2_Int × Int))) [] (fun fb g => by kernel_rfl) trivial (fun g25 w26 hS27 => ?_)
 refine ⟨trivial, ?_⟩
 refine WL.new hS27 7 [] (fun g => (pt g)) (.cells #[(.map none)] 53 (0, 0)) [] (fun fb g => by kernel_rfl) trivial (fun g28 w29 hS30 => ?_)
 refine ⟨trivial, ?_⟩
 refine WL.store hS30 0 rfl [(0, (.map (some g25)))] #[(.map (some g25))] (fun fb => by kernel_rfl) (by kernel_rfl) rfl [1] (by decide) (by decide) (fun w31 hS33 => ?_)
 refine ⟨trivial, ?_⟩
 refine WL.done rfl (WX.next (WC.seq (WC.region ?_)))
 refine seg 2 [] [0, 1, 7, 8] [(0, (sv Aa p0 ca)), (1, e38), (7, (pt g28)), (8, (.func (.func 23) #[] #[(pt g28)]))] [] (fun fb => by kernel_rfl) rfl trivial ?_
 refine WL.done rfl (WX.next (WC.seq (WC.region ?_)))
 refine seg 1 [] [0, 1, 7, 8, 9] [(0, (sv Aa p0 ca)), (1, e38), (7, (pt g28)), (8, (.func (.func 23) #[] #[(pt g28)])), (9, (.slice none 0 0))] [] (fun fb => by kernel_rfl) rfl trivial ?_
 refine WL.done rfl (WX.next (WC.seq (WC.region ?_)))
 refine seg 1 [] [0, 1, 7, 8, 9, 10] [(0, (sv Aa p0 ca)), (1, e38), (7, (pt g28)), (8, (.func (.func 23) #[] #[(pt g28)])), (9, (.slice none 0 0)), (10, (.slice none 0 0))] [] (fun fb => by kernel_rfl) rfl trivial ?_
 refine WL.done rfl (WX.next (WC.seq (WC.region ?_)))
 refine WL.new hS33 27 [] (fun g => (.map (some g))) (mapObj (aggI ints_Tile) vB ([] : List (Tile × Bool))) [] (fun fb g => by kernel_rfl) trivial (fun g34 w35 hS36 => ?_)
 refine ⟨trivial, ?_⟩
 refine seg 2 [] [0, 1, 7, 8, 9, 10, 11] [(0, (sv Aa p0 ca)), (1, e38), (7, (pt g28)), (8, (.func (.func 23) #[] #[(pt g28)])), (9, (.slice none 0 0)), (10, (.slice none 0 0)), (11, (.map (some g34)))] [] (fun fb => by kernel_rfl) rfl trivial ?_
 refine WL.done rfl (WX.next (WC.seq (WC.seq (WC.region ?_))))
 refine seg 3 [] [1, 7, 8, 9, 10, 11, 28, 29, 30] [(1, e38), (7, (pt g28)), (8, (.func (.func 23) #[] #[(pt g28)])), (9, (.slice none 0 0)), (10, (.slice none 0 0)), (11, (.map (some g34))), (28, (sv Aa p0 ca)), (29, (iv (p0.length : Int))), (30, (iv 0))] [] (fun fb => by kernel_rfl) rfl trivial ?_
 refine WL.done rfl (WX.next ?_)
 have hS37 := hS36.nilrow 32 enc_Tile
 have hS38 := hS37.nilrow 30 enc_A2_Int
 obtain ⟨x52, hx53, hf⟩ := bind_some hf
 let e3 : Nat × Value := (29, (iv (p0.length : Int)))
 let e4 : Nat × Value := (36, (iv (p1.length : Int)))
 let e5 := sv Ab p1 cb
 let e6 : Nat × Value := (28, (sv Aa p0 ca))
 let e7 : List Nat := [1, 7, 8, 9, 10, 11, 12, 13, 28, 29, 30, 35, 36, 37]
 let e9 : Nat × Value := (7, (pt g28))
 let e12 : Array Value := #[(pt g28)]
 let e15 := some g34
 let e20 : List Own := [rowR enc_Tile Aa ca p0, rowR enc_Tile Ab cb p1]
 let e23 := aggI ints_A2_Int
 let e24 := aggI ints_Tile
 let e27 := Option Addr
 let e28 : Array Value := #[(iv 0), (iv 0), (iv 0), (iv 0)]
 let e29 : List Nat := [1, 7, 8, 9, 10, 11, 28, 29, 30]
 let e34 := some g25
 let e36 := List (A2_Int × Int)
 let e37 : List Nat := [1, 7, 8, 9, 10, 11, 12, 13, 28, 29, 30, 35, 36, 37, 88]
 refine WC.cutN (T := ((List Tile) × (List A2_Int)) × e27 × Nat × e27 × Nat) (fun t => [(9, (sv t.2.1 t.1.1 t.2.2.1)), (10, (sv t.2.2.2.1 t.1.2 t.2.2.2.2))]) (fun t w1 => St NoS w w1 e20 [rowO 32 enc_Tile t.2.1 t.2.2.1 t.1.1, rowO 30 enc_A2_Int t.2.2.2.1 t.2.2.2.2 t.1.2] ∧ x52 = .inr t.1) (fun Kx52 => ?_) ?_
 ·
  refine WC.block ?_
  refine WC.loop (T := (e36 × (List Tile) × (List A2_Int) × (List (Tile × Bool)) × Int) × e27 × Nat × e27 × Nat) (fun t => [(1, e5), e9, (8, (.func (.func 23) #[] e12)), (9, (sv t.2.1 t.1.2.1 t.2.2.1)), (10, (sv t.2.2.2.1 t.1.2.2.1 t.2.2.2.2)), (11, (.map e15)), e6, e3, (30, (iv t.1.2.2.2.2))]) (fun n t w1 => St NoS w w1 e20 [blk g28 (.cells #[(.map e34)] 53 (0, 0)), blk g25 (mapObj e23 (vI .i64) t.1.1), rowO 32 enc_Tile t.2.1 t.2.2.1 t.1.2.1, rowO 30 enc_A2_Int t.2.2.2.1 t.2.2.2.2 t.1.2.2.1, blk g34 (mapObj e24 vB t.1.2.2.2.1)] ∧ strip_On.l0 n t.1.1 t.1.2.1 t.1.2.2.1 t.1.2.2.2.1 t.1.2.2.2.2 p0 p1 = some x52) k ((([] : List (A2_Int × Int)), ([] : List Tile), ([] : List A2_Int), ([] : List (Tile × Bool)), 0), none, 0, none, 0) e29 rfl ⟨(hS38.subR [0, 1]).sub [3, 4, 1, 0, 2] (by decide), hx53⟩ ?_
  rintro k54 ⟨⟨l39, l42, l45, l46, x47⟩, A40, c41, A43, c44⟩ w55 ⟨hS56, hl57⟩
  let e8 : Nat × Value := (30, (iv x47))
  let e11 : Nat × Value := (12, (iv x47))
  let e30 := (adr Aa).add ((x47).toNat * 4)
  let e32 : Nat × Value := (10, (sv A43 l45 c44))
  let e33 : Nat × Value := (9, (sv A40 l42 c41))
  cases k54 with
  | zero => rw [strip_On.l0] at hl57; cases hl57
  | succ k54 =>
   rw [strip_On.l0] at hl57
   refine WC.seq (WC.region ?_)
   refine seg 1 [] [1, 7, 8, 9, 10, 11, 28, 29, 30, 31] [(1, e5), e9, (8, (.func (.func 23) #[] e12)), e33, e32, (11, (.map e15)), e6, e3, e8, (31, (bv (decide (x47 < (p0.length : Int)))))] [] (fun fb => by kernel_rfl) rfl trivial ?_
   refine WL.done rfl (WX.next (WC.seq ?_))
   rcases br_some hl57 with ⟨h58, hl57⟩ | ⟨h58, hl57⟩
   ·refine WC.condT2 (fun fb => by kernel_rfl) h58 ?_
    refine WC.skip (WX.next (WC.seq (WC.block (WC.seq (WC.region ?_)))))
    refine seg 1 [] [1, 7, 8, 9, 10, 11, 28, 29, 30, 32] [(1, e5), e9, (8, (.func (.func 23) #[] e12)), e33, e32, (11, (.map e15)), e6, e3, e8, (32, (iv x47))] [] (fun fb => by kernel_rfl) rfl trivial ?_
    obtain ⟨h59, hl57⟩ := as_some hl57
    refine seg 3 [.v (iv ((rdD p0 x47 z_Tile).N)), .v (iv ((rdD p0 x47 z_Tile).E)), .v (iv ((rdD p0 x47 z_Tile).S)), .v (iv ((rdD p0 x47 z_Tile).W))] [1, 7, 8, 9, 10, 11, 28, 29, 30, 32, 34] [(1, e5), e9, (8, (.func (.func 23) #[] e12)), e33, e32, (11, (.map e15)), e6, e3, e8, (32, (iv x47)), (34, (.agg #[(iv ((rdD p0 x47 z_Tile).N)), (iv ((rdD p0 x47 z_Tile).E)), (iv ((rdD p0 x47 z_Tile).S)), (iv ((rdD p0 x47 z_Tile).W))]))] [.idx Aa x47 p0.length, .cell e30 (iv ((rdD p0 x47 z_Tile).N)), .cell (e30.add 1) (iv ((rdD p0 x47 z_Tile).E)), .cell (e30.add 2) (iv ((rdD p0 x47 z_Tile).S)), .cell (e30.add 3) (iv ((rdD p0 x47 z_Tile).W))] (fun fb => by kernel_rfl) rfl ⟨rowR.adr (hS56.rd 0).1 h59.1 h59.2, rowR.cell (hS56.rd 0).1 z_Tile h59.1 h59.2 0 rfl, rowR.cell (hS56.rd 0).1 z_Tile h59.1 h59.2 1 rfl, rowR.cell (hS56.rd 0).1 z_Tile h59.1 h59.2 2 rfl, rowR.cell (hS56.rd 0).1 z_Tile h59.1 h59.2 3 rfl, trivial⟩ ?_
    refine WL.new hS56 13 [] (fun g => (pt g)) (.cells e28 32 (0, 0)) [] (fun fb g => by kernel_rfl) trivial (fun g60 w61 hS62 => ?_)
    refine ⟨trivial, ?_⟩
    refine seg 5 [] [1, 7, 8, 9, 10, 11, 12, 13, 28, 29, 30, 34] [(1, e5), e9, (8, (.func (.func 23) #[] e12)), e33, e32, (11, (.map e15)), e11, (13, (pt g60)), e6, e3, e8, (34, (.agg #[(iv ((rdD p0 x47 z_Tile).N)), (iv ((rdD p0 x47 z_Tile).E)), (iv ((rdD p0 x47 z_Tile).S)), (iv ((rdD p0 x47 z_Tile).W))]))] [] (fun fb => by kernel_rfl) rfl trivial ?_
    let e25 := rdD p0 x47 z_Tile
    refine WL.store hS62 0 rfl [(0, (iv (e25.N))), (1, (iv (e25.E))), (2, (iv (e25.S))), (3, (iv (e25.W)))] #[(iv (e25.N)), (iv (e25.E)), (iv (e25.S)), (iv (e25.W))] (fun fb => by kernel_rfl) (by kernel_rfl) rfl [1, 2, 3, 4, 5] (by decide) (by decide) (fun w63 hS65 => ?_)
    refine ⟨trivial, ?_⟩
    refine WL.done rfl (WX.next (WC.seq (WC.region ?_)))
    refine seg 3 [] e7 [(1, e5), e9, (8, (.func (.func 23) #[] e12)), e33, e32, (11, (.map e15)), e11, (13, (pt g60)), e6, e3, e8, (35, e5), e4, (37, (iv 0))] [] (fun fb => by kernel_rfl) rfl trivial ?_
    refine WL.done rfl (WX.next ?_)
    obtain ⟨x79, hx80, hl57⟩ := bind_some hl57
    let e2 := rdD p0 x47 z_Tile
    let e13 : Nat × Value := (13, (pt g60))
    let e14 : Array Value := #[(iv (e2.N)), (iv (e2.E)), (iv (e2.S)), (iv (e2.W))]
    let e22 := iv (e2.S)
    refine WC.cutN (T := (e36 × (List Tile) × (List A2_Int) × (List (Tile × Bool))) × e27 × Nat × e27 × Nat) (fun t => [(1, e5), e9, (8, (.func (.func 23) #[] e12)), (9, (sv t.2.1 t.1.2.1 t.2.2.1)), (10, (sv t.2.2.2.1 t.1.2.2.1 t.2.2.2.2)), (11, (.map e15)), e6, e3, e8]) (fun t w1 => St NoS w w1 e20 [blk g28 (.cells #[(.map e34)] 53 (0, 0)), blk g25 (mapObj e23 (vI .i64) t.1.1), rowO 32 enc_Tile t.2.1 t.2.2.1 t.1.2.1, rowO 30 enc_A2_Int t.2.2.2.1 t.2.2.2.2 t.1.2.2.1, blk g34 (mapObj e24 vB t.1.2.2.2)] ∧ x79 = .inr t.1) (fun Kx79 => ?_) ?_
    ·
     refine WC.block ?_
     refine WC.loop (T := (e36 × (List Tile) × (List A2_Int) × (List (Tile × Bool)) × Int) × e27 × Nat × e27 × Nat) (fun t => [(1, e5), e9, (8, (.func (.func 23) #[] e12)), (9, (sv t.2.1 t.1.2.1 t.2.2.1)), (10, (sv t.2.2.2.1 t.1.2.2.1 t.2.2.2.2)), (11, (.map e15)), e11, e13, e6, e3, e8, (35, e5), e4, (37, (iv t.1.2.2.2.2))]) (fun n t w1 => St NoS w w1 e20 [blk g28 (.cells #[(.map e34)] 53 (0, 0)), blk g25 (mapObj e23 (vI .i64) t.1.1), rowO 32 enc_Tile t.2.1 t.2.2.1 t.1.2.1, rowO 30 enc_A2_Int t.2.2.2.1 t.2.2.2.2 t.1.2.2.1, blk g34 (mapObj e24 vB t.1.2.2.2.1), blk g60 (.cells e14 32 (0, 0))] ∧ strip_On.l1 n t.1.1 t.1.2.1 t.1.2.2.1 t.1.2.2.2.1 t.1.2.2.2.2 p0 p1 x47 = some x79) k54 ((l39, l42, l45, l46, 0), A40, c41, A43, c44) e7 rfl ⟨(hS65.subR [0, 1]).sub [1, 2, 3, 4, 5, 0] (by decide), hx80⟩ ?_
     rintro k81 ⟨⟨l66, l69, l72, l73, x74⟩, A67, c68, A70, c71⟩ w82 ⟨hS83, hl84⟩
     let e1 := rdD p1 x74 z_Tile
     let e10 : Array Value := #[(iv (e1.N)), (iv (e1.E)), (iv (e1.S)), (iv (e1.W))]
     let e16 : Nat × Value := (37, (iv x74))
     let e17 : Nat × Value := (10, (sv A70 l72 c71))
     let e18 : Nat × Value := (9, (sv A67 l69 c68))
     let e21 := iv (e1.N)
     let e26 : Nat × Value := (14, (iv x74))
     let e31 := (adr Ab).add ((x74).toNat * 4)
     let e35 := [(A2_Int.mk x47 x74)]
     cases k81 with
     | zero => rw [strip_On.l1] at hl84; cases hl84
     | succ k81 =>
      rw [strip_On.l1] at hl84
      refine WC.seq (WC.region ?_)
      refine seg 1 [] [1, 7, 8, 9, 10, 11, 12, 13, 28, 29, 30, 35, 36, 37, 38] [(1, e5), e9, (8, (.func (.func 23) #[] e12)), e18, e17, (11, (.map e15)), e11, e13, e6, e3, e8, (35, e5), e4, e16, (38, (bv (decide (x74 < (p1.length : Int)))))] [] (fun fb => by kernel_rfl) rfl trivial ?_
      refine WL.done rfl (WX.next (WC.seq ?_))
      rcases br_some hl84 with ⟨h85, hl84⟩ | ⟨h85, hl84⟩
      ·refine WC.condT2 (fun fb => by kernel_rfl) h85 ?_
       refine WC.skip (WX.next (WC.seq ?_))
       obtain ⟨x90, hx91, hl84⟩ := bind_some hl84
       refine WC.cutN (T := (e36 × (List Tile) × (List A2_Int) × (List (Tile × Bool))) × e27 × Nat × e27 × Nat) (fun t => [(1, e5), e9, (8, (.func (.func 23) #[] e12)), (9, (sv t.2.1 t.1.2.1 t.2.2.1)), (10, (sv t.2.2.2.1 t.1.2.2.1 t.2.2.2.2)), (11, (.map e15)), e11, e13, e6, e3, e8, (35, e5), e4, e16]) (fun t w1 => St NoS w w1 e20 [blk g28 (.cells #[(.map e34)] 53 (0, 0)), blk g25 (mapObj e23 (vI .i64) t.1.1), rowO 32 enc_Tile t.2.1 t.2.2.1 t.1.2.1, rowO 30 enc_A2_Int t.2.2.2.1 t.2.2.2.2 t.1.2.2.1, blk g34 (mapObj e24 vB t.1.2.2.2), blk g60 (.cells e14 32 (0, 0))] ∧ x90 = .inr t.1) (fun Kx90 => ?_) ?_
       ·
        refine WC.block (WC.seq (WC.region ?_))
        refine seg 1 [] [1, 7, 8, 9, 10, 11, 12, 13, 28, 29, 30, 35, 36, 37, 39] [(1, e5), e9, (8, (.func (.func 23) #[] e12)), e18, e17, (11, (.map e15)), e11, e13, e6, e3, e8, (35, e5), e4, e16, (39, (iv x74))] [] (fun fb => by kernel_rfl) rfl trivial ?_
        obtain ⟨h92, hx91⟩ := as_some hx91
        refine seg 3 [.v e21, .v (iv (e1.E)), .v (iv (e1.S)), .v (iv (e1.W))] [1, 7, 8, 9, 10, 11, 12, 13, 28, 29, 30, 35, 36, 37, 39, 41] [(1, e5), e9, (8, (.func (.func 23) #[] e12)), e18, e17, (11, (.map e15)), e11, e13, e6, e3, e8, (35, e5), e4, e16, (39, (iv x74)), (41, (.agg e10))] [.idx Ab x74 p1.length, .cell e31 e21, .cell (e31.add 1) (iv (e1.E)), .cell (e31.add 2) (iv (e1.S)), .cell (e31.add 3) (iv (e1.W))] (fun fb => by kernel_rfl) rfl ⟨rowR.adr (hS83.rd 1).1 h92.1 h92.2, rowR.cell (hS83.rd 1).1 z_Tile h92.1 h92.2 0 rfl, rowR.cell (hS83.rd 1).1 z_Tile h92.1 h92.2 1 rfl, rowR.cell (hS83.rd 1).1 z_Tile h92.1 h92.2 2 rfl, rowR.cell (hS83.rd 1).1 z_Tile h92.1 h92.2 3 rfl, trivial⟩ ?_
        refine WL.new hS83 15 [] (fun g => (pt g)) (.cells e28 32 (0, 0)) [] (fun fb g => by kernel_rfl) trivial (fun g93 w94 hS95 => ?_)
        refine ⟨trivial, ?_⟩
        refine seg 5 [] [1, 7, 8, 9, 10, 11, 12, 13, 14, 15, 28, 29, 30, 35, 36, 37, 41] [(1, e5), e9, (8, (.func (.func 23) #[] e12)), e18, e17, (11, (.map e15)), e11, e13, e26, (15, (pt g93)), e6, e3, e8, (35, e5), e4, e16, (41, (.agg e10))] [] (fun fb => by kernel_rfl) rfl trivial ?_
        refine WL.store hS95 0 rfl [(0, e21), (1, (iv (e1.E))), (2, (iv (e1.S))), (3, (iv (e1.W)))] e10 (fun fb => by kernel_rfl) (by kernel_rfl) rfl [1, 2, 3, 4, 5, 6] (by decide) (by decide) (fun w96 hS97 => ?_)
        refine ⟨trivial, ?_⟩
        refine WL.done rfl (WX.next (WC.seq (WC.seq (WC.region ?_))))
        refine seg 5 [.v (iv (e2.N)), .v (iv (e1.S))] [1, 7, 8, 9, 10, 11, 12, 13, 14, 15, 28, 29, 30, 35, 36, 37, 46] [(1, e5), e9, (8, (.func (.func 23) #[] e12)), e18, e17, (11, (.map e15)), e11, e13, e26, (15, (pt g93)), e6, e3, e8, (35, e5), e4, e16, (46, (bv ((e2.N) != (e1.S))))] [.cell ⟨g60, 0, none⟩ (iv (e2.N)), .cell ⟨g93, 2, none⟩ (iv (e1.S))] (fun fb => by kernel_rfl) rfl ⟨hS97.cell 6 rfl 0 rfl, hS97.cell 0 rfl 2 rfl, trivial⟩ ?_
        refine WL.done rfl (WX.next ?_)
        rcases br_some hx91 with ⟨h98, hx91⟩ | ⟨h98, hx91⟩
        ·refine WC.condT2 (fun fb => by kernel_rfl) h98 ?_
         refine WC.exit ?_
         injection hx91 with hx91
         exact WX.thenX (WX.blockHere (WX.to Kx90 ((l66, l69, l72, l73), A67, c68, A70, c71) e7 rfl ⟨(hS97.subR [0, 1]).sub [1, 2, 3, 4, 5, 6] (by decide), hx91.symm⟩))
        refine WC.condF2 (fun fb => by kernel_rfl) h98 ?_
        refine WC.skip (WX.next (WC.seq (WC.region ?_)))
        refine seg 5 [.v e21, .v e22] [1, 7, 8, 9, 10, 11, 12, 13, 14, 15, 28, 29, 30, 35, 36, 37, 51] [(1, e5), e9, (8, (.func (.func 23) #[] e12)), e18, e17, (11, (.map e15)), e11, e13, e26, (15, (pt g93)), e6, e3, e8, (35, e5), e4, e16, (51, (.agg #[e21, (iv 0), e22, (iv 0)]))] [.cell ⟨g93, 0, none⟩ e21, .cell ⟨g60, 2, none⟩ e22] (fun fb => by kernel_rfl) rfl ⟨hS97.cell 0 rfl 0 rfl, hS97.cell 6 rfl 2 rfl, trivial⟩ ?_
        refine WL.new hS97 16 [] (fun g => (pt g)) (.cells e28 32 (0, 0)) [] (fun fb g => by kernel_rfl) trivial (fun g99 w100 hS101 => ?_)
        refine ⟨trivial, ?_⟩
        refine WL.store hS101 0 rfl [(0, e21), (1, (iv 0)), (2, e22), (3, (iv 0))] #[e21, (iv 0), e22, (iv 0)] (fun fb => by kernel_rfl) (by kernel_rfl) rfl [1, 2, 3, 4, 5, 6, 7] (by decide) (by decide) (fun w102 hS103 => ?_)
        refine ⟨trivial, ?_⟩
        refine WL.done rfl (WX.next (WC.seq (WC.region ?_)))
        refine seg 5 [.v (iv (e2.E)), .v (iv (e1.E))] [1, 7, 8, 9, 10, 11, 12, 13, 14, 15, 16, 28, 29, 30, 35, 36, 37, 52, 54, 56] [(1, e5), e9, (8, (.func (.func 23) #[] e12)), e18, e17, (11, (.map e15)), e11, e13, e26, (15, (pt g93)), (16, (pt g99)), e6, e3, e8, (35, e5), e4, e16, (52, (.func (.func 23) #[] e12)), (54, (iv (e2.E))), (56, (iv (e1.E)))] [.cell ⟨g60, 1, none⟩ (iv (e2.E)), .cell ⟨g93, 1, none⟩ (iv (e1.E))] (fun fb => by kernel_rfl) rfl ⟨hS103.cell 7 rfl 1 rfl, hS103.cell 1 rfl 1 rfl, trivial⟩ ?_
        obtain ⟨t104, ht105, hx91⟩ := bind_some hx91
        refine WL.call (some 57) 23 #[(iv (e2.E)), (iv (e1.E)), (pt g28)] (fun fb => by kernel_rfl) (strip_On_1_calls (e2.E) (e1.E) l66 g28 g25 t104 _ (hS103.owT [3] 2 (by decide)) (hS103.io [3] (by decide)) ht105) (fun v w106 hR107 => ?_)
        obtain ⟨rfl, hk_⟩ := hR107
        have hS108 := hS.go w106 [blk g25 (mapObj e23 (vI .i64) t104.2), blk g99 (.cells #[e21, (iv 0), e22, (iv 0)] 32 (0, 0)), blk g93 (.cells e10 32 (0, 0)), blk g28 (.cells #[(.map e34)] 53 (0, 0)), rowO 32 enc_Tile A67 c68 l69, rowO 30 enc_A2_Int A70 c71 l72, blk g34 (mapObj e24 vB l73), blk g60 (.cells e14 32 (0, 0))] (hS103.call hk_ [3] [0, 1, 2, 4, 5, 6, 7] (fun g hg => fpL_sel g hg) (by decide) (by decide))
        refine ⟨trivial, ?_⟩
        refine seg 7 [] [1, 7, 8, 9, 10, 11, 12, 13, 14, 15, 16, 28, 29, 30, 35, 36, 37, 57, 58] [(1, e5), e9, (8, (.func (.func 23) #[] e12)), e18, e17, (11, (.map e15)), e11, e13, e26, (15, (pt g93)), (16, (pt g99)), e6, e3, e8, (35, e5), e4, e16, (57, (iv t104.1)), (58, (.pointer (some ⟨g99, 1, none⟩)))] [] (fun fb => by kernel_rfl) rfl trivial ?_
        refine WL.store hS108 1 rfl [(1, (iv t104.1))] #[e21, (iv t104.1), e22, (iv 0)] (fun fb => by kernel_rfl) (by kernel_rfl) rfl [0, 2, 3, 4, 5, 6, 7] (by decide) (by decide) (fun w109 hS110 => ?_)
        refine ⟨trivial, ?_⟩
        refine WL.done rfl (WX.next (WC.seq (WC.region ?_)))
        refine seg 5 [.v (iv (e2.W)), .v (iv (e1.W))] [1, 7, 8, 9, 10, 11, 12, 13, 14, 16, 28, 29, 30, 35, 36, 37, 59, 61, 63] [(1, e5), e9, (8, (.func (.func 23) #[] e12)), e18, e17, (11, (.map e15)), e11, e13, e26, (16, (pt g99)), e6, e3, e8, (35, e5), e4, e16, (59, (.func (.func 23) #[] e12)), (61, (iv (e2.W))), (63, (iv (e1.W)))] [.cell ⟨g60, 3, none⟩ (iv (e2.W)), .cell ⟨g93, 3, none⟩ (iv (e1.W))] (fun fb => by kernel_rfl) rfl ⟨hS110.cell 7 rfl 3 rfl, hS110.cell 2 rfl 3 rfl, trivial⟩ ?_
        obtain ⟨t111, ht112, hx91⟩ := bind_some hx91
        refine WL.call (some 64) 23 #[(iv (e2.W)), (iv (e1.W)), (pt g28)] (fun fb => by kernel_rfl) (strip_On_1_calls (e2.W) (e1.W) t104.2 g28 g25 t111 _ (hS110.owT [1] 3 (by decide)) (hS110.io [1] (by decide)) ht112) (fun v w113 hR114 => ?_)
        obtain ⟨rfl, hk_⟩ := hR114
        have hS115 := hS108.go w113 [blk g25 (mapObj e23 (vI .i64) t111.2), blk g99 (.cells #[e21, (iv t104.1), e22, (iv 0)] 32 (0, 0)), blk g93 (.cells e10 32 (0, 0)), blk g28 (.cells #[(.map e34)] 53 (0, 0)), rowO 32 enc_Tile A67 c68 l69, rowO 30 enc_A2_Int A70 c71 l72, blk g34 (mapObj e24 vB l73), blk g60 (.cells e14 32 (0, 0))] (hS110.call hk_ [1] [0, 2, 3, 4, 5, 6, 7] (fun g hg => fpL_sel g hg) (by decide) (by decide))
        refine ⟨trivial, ?_⟩
        refine seg 7 [] [1, 7, 8, 9, 10, 11, 12, 13, 14, 16, 28, 29, 30, 35, 36, 37, 64, 65] [(1, e5), e9, (8, (.func (.func 23) #[] e12)), e18, e17, (11, (.map e15)), e11, e13, e26, (16, (pt g99)), e6, e3, e8, (35, e5), e4, e16, (64, (iv t111.1)), (65, (.pointer (some ⟨g99, 3, none⟩)))] [] (fun fb => by kernel_rfl) rfl trivial ?_
        refine WL.store hS115 1 rfl [(3, (iv t111.1))] #[e21, (iv t104.1), e22, (iv t111.1)] (fun fb => by kernel_rfl) (by kernel_rfl) rfl [0, 2, 3, 4, 5, 6, 7] (by decide) (by decide) (fun w116 hS117 => ?_)
        refine ⟨trivial, ?_⟩
        refine WL.done rfl (WX.next (WC.seq (WC.seq (WC.region ?_))))
        refine seg 2 [.v e21, .v (iv t104.1), .v e22, .v (iv t111.1)] [1, 7, 8, 9, 10, 11, 12, 13, 14, 16, 28, 29, 30, 35, 36, 37, 66, 67] [(1, e5), e9, (8, (.func (.func 23) #[] e12)), e18, e17, (11, (.map e15)), e11, e13, e26, (16, (pt g99)), e6, e3, e8, (35, e5), e4, e16, (66, (.map e15)), (67, (.agg #[e21, (iv t104.1), e22, (iv t111.1)]))] [.cell ⟨g99, 0, none⟩ e21, .cell ⟨g99, 1, none⟩ (iv t104.1), .cell ⟨g99, 2, none⟩ e22, .cell ⟨g99, 3, none⟩ (iv t111.1)] (fun fb => by kernel_rfl) rfl ⟨hS117.cell 0 rfl 0 rfl, hS117.cell 0 rfl 1 rfl, hS117.cell 0 rfl 2 rfl, hS117.cell 0 rfl 3 rfl, trivial⟩ ?_
        refine WL.lookup (hS117.own 6).1 (Tile.mk (e1.N) t104.1 (e2.S) t111.1) (d := 68) (c := false) (t := 55) (kT := 32) (eT := 4) (z := false) (kE := e24) (vE := vB) (l := l73) (bv (mget (Tile.mk (e1.N) t104.1 (e2.S) t111.1) false l73)) (fun fb => by kernel_rfl) strip_On_key32 (by kernel_rfl) (fun _ => by kernel_rfl) rfl ?_
        refine ⟨trivial, ?_⟩
        refine WL.done rfl (WX.next ?_)
        rcases br_some hx91 with ⟨h118, hx91⟩ | ⟨h118, hx91⟩
        ·refine WC.condT2 (fun fb => by kernel_rfl) h118 ?_
         refine WC.exit ?_
         injection hx91 with hx91
         exact WX.thenX (WX.blockHere (WX.to Kx90 ((t111.2, l69, l72, l73), A67, c68, A70, c71) e7 rfl ⟨(hS117.subR [0, 1]).sub [3, 1, 4, 5, 6, 7] (by decide), hx91.symm⟩))
        refine WC.condF2 (fun fb => by kernel_rfl) h118 ?_
        refine WC.skip (WX.next (WC.seq (WC.region ?_)))
        refine seg 2 [.v e21, .v (iv t104.1), .v e22, .v (iv t111.1)] [1, 7, 8, 9, 10, 11, 12, 13, 14, 16, 28, 29, 30, 35, 36, 37, 69, 70] [(1, e5), e9, (8, (.func (.func 23) #[] e12)), e18, e17, (11, (.map e15)), e11, e13, e26, (16, (pt g99)), e6, e3, e8, (35, e5), e4, e16, (69, (.map e15)), (70, (.agg #[e21, (iv t104.1), e22, (iv t111.1)]))] [.cell ⟨g99, 0, none⟩ e21, .cell ⟨g99, 1, none⟩ (iv t104.1), .cell ⟨g99, 2, none⟩ e22, .cell ⟨g99, 3, none⟩ (iv t111.1)] (fun fb => by kernel_rfl) rfl ⟨hS117.cell 0 rfl 0 rfl, hS117.cell 0 rfl 1 rfl, hS117.cell 0 rfl 2 rfl, hS117.cell 0 rfl 3 rfl, trivial⟩ ?_
        refine WL.mapput hS117 6 (t := 55) (kT := 32) (eT := 4) (kE := e24) (vE := vB) (l := l73) rfl (Tile.mk (e1.N) t104.1 (e2.S) t111.1) true (fun fb => by kernel_rfl) strip_On_key32 (by kernel_rfl) [0, 1, 2, 3, 4, 5, 7] (by decide) (by decide) (fun w119 hS120 => ?_)
        refine ⟨trivial, ?_⟩
        refine WL.done rfl (WX.next (WC.seq (WC.region ?_)))
        refine seg 2 [.v e21, .v (iv t104.1), .v e22, .v (iv t111.1)] [1, 7, 8, 10, 11, 12, 13, 14, 28, 29, 30, 35, 36, 37, 71, 72] [(1, e5), e9, (8, (.func (.func 23) #[] e12)), e17, (11, (.map e15)), e11, e13, e26, e6, e3, e8, (35, e5), e4, e16, (71, (sv A67 l69 c68)), (72, (.agg #[e21, (iv t104.1), e22, (iv t111.1)]))] [.cell ⟨g99, 0, none⟩ e21, .cell ⟨g99, 1, none⟩ (iv t104.1), .cell ⟨g99, 2, none⟩ e22, .cell ⟨g99, 3, none⟩ (iv t111.1)] (fun fb => by kernel_rfl) rfl ⟨hS120.cell 1 rfl 0 rfl, hS120.cell 1 rfl 1 rfl, hS120.cell 1 rfl 2 rfl, hS120.cell 1 rfl 3 rfl, trivial⟩ ?_
        refine WL.new hS120 73 [] (fun g => (.slice (some ⟨g, 0, none⟩) 1 1)) (.cells #[e21, (iv t104.1), e22, (iv t111.1)] 32 (0, 0)) [] (fun fb g => by kernel_rfl) trivial (fun g121 w122 hS123 => ?_)
        refine ⟨trivial, ?_⟩
        have hS124 := hS115.go w122 [rowO 32 enc_Tile (some ⟨g121, 0, none⟩) 1 [(Tile.mk (e1.N) t104.1 (e2.S) t111.1)], blk g34 (mapObj e24 vB (mput (Tile.mk (e1.N) t104.1 (e2.S) t111.1) true l73)), blk g99 (.cells #[e21, (iv t104.1), e22, (iv t111.1)] 32 (0, 0)), blk g25 (mapObj e23 (vI .i64) t111.2), blk g93 (.cells e10 32 (0, 0)), blk g28 (.cells #[(.map e34)] 53 (0, 0)), rowO 32 enc_Tile A67 c68 l69, rowO 30 enc_A2_Int A70 c71 l72, blk g60 (.cells e14 32 (0, 0))] (hS123.map1 0 _ (fun h => rowO.ofBlk h rfl (Nat.le_of_ble_eq_true (by kernel_rfl))) (fun _ h => by obtain ⟨_, h1, h2⟩ := h; injection h1 with h1; subst h1; exact h2) [1, 2, 3, 4, 5, 6, 7, 8] (by decide) (by decide))
        obtain ⟨h125, hx91⟩ := as_some hx91
        refine WL.append hS124 6 (d := 74) (tS := 22) (z := (.agg e28)) (bytes := 32) (c2 := 1) rfl (fun fb => by kernel_rfl) (rowO.rd (hS124.own 0).1) (by kernel_rfl) (by kernel_rfl) rfl (by decide) h125 (by decide) [0, 1, 2, 3, 4, 5, 7, 8] (by decide) (by decide) (fun A126 c127 w128 hS129 => ?_)
        refine ⟨trivial, ?_⟩
        refine seg 8 [] [1, 7, 8, 11, 12, 13, 28, 29, 30, 35, 36, 37, 74, 75, 78] [(1, e5), e9, (8, (.func (.func 23) #[] e12)), (11, (.map e15)), e11, e13, e6, e3, e8, (35, e5), e4, e16, (74, (sv A126 (l69 ++ [(Tile.mk (e1.N) t104.1 (e2.S) t111.1)]) c127)), (75, (sv A70 l72 c71)), (78, (.agg #[(iv x47), (iv x74)]))] [] (fun fb => by kernel_rfl) rfl trivial ?_
        refine WL.new hS129 79 [] (fun g => (.slice (some ⟨g, 0, none⟩) 1 1)) (.cells #[(iv x47), (iv x74)] 30 (0, 0)) [] (fun fb g => by kernel_rfl) trivial (fun g130 w131 hS132 => ?_)
        refine ⟨trivial, ?_⟩
        have hS133 := hS124.go w131 [rowO 30 enc_A2_Int (some ⟨g130, 0, none⟩) 1 e35, rowO 32 enc_Tile A126 c127 (l69 ++ [(Tile.mk (e1.N) t104.1 (e2.S) t111.1)]), rowO 32 enc_Tile (some ⟨g121, 0, none⟩) 1 [(Tile.mk (e1.N) t104.1 (e2.S) t111.1)], blk g34 (mapObj e24 vB (mput (Tile.mk (e1.N) t104.1 (e2.S) t111.1) true l73)), blk g99 (.cells #[e21, (iv t104.1), e22, (iv t111.1)] 32 (0, 0)), blk g25 (mapObj e23 (vI .i64) t111.2), blk g93 (.cells e10 32 (0, 0)), blk g28 (.cells #[(.map e34)] 53 (0, 0)), rowO 30 enc_A2_Int A70 c71 l72, blk g60 (.cells e14 32 (0, 0))] (hS132.map1 0 _ (fun h => rowO.ofBlk h rfl (Nat.le_of_ble_eq_true (by kernel_rfl))) (fun _ h => by obtain ⟨_, h1, h2⟩ := h; injection h1 with h1; subst h1; exact h2) [1, 2, 3, 4, 5, 6, 7, 8, 9] (by decide) (by decide))
        obtain ⟨h134, hx91⟩ := as_some hx91
        refine WL.append hS133 8 (d := 80) (tS := 26) (z := (.agg #[(iv 0), (iv 0)])) (bytes := 16) (c2 := 1) rfl (fun fb => by kernel_rfl) (rowO.rd (hS133.own 0).1) (by kernel_rfl) (by kernel_rfl) rfl (by decide) h134 (by decide) [0, 1, 2, 3, 4, 5, 6, 7, 9] (by decide) (by decide) (fun A135 c136 w137 hS138 => ?_)
        refine ⟨trivial, ?_⟩
        refine seg 12 [] e7 [(1, e5), e9, (8, (.func (.func 23) #[] e12)), (9, (sv A126 (l69 ++ [(Tile.mk (e1.N) t104.1 (e2.S) t111.1)]) c127)), (10, (sv A135 (l72 ++ e35) c136)), (11, (.map e15)), e11, e13, e6, e3, e8, (35, e5), e4, e16] [] (fun fb => by kernel_rfl) rfl trivial ?_
        refine WL.done rfl (WX.next (WC.seq (WC.region ?_)))
        refine seg 4 [] [1, 7, 8, 9, 10, 11, 12, 13, 28, 29, 30, 35, 36, 37, 84] [(1, e5), e9, (8, (.func (.func 23) #[] e12)), (9, (sv A126 (l69 ++ [(Tile.mk (e1.N) t104.1 (e2.S) t111.1)]) c127)), (10, (sv A135 (l72 ++ e35) c136)), (11, (.map e15)), e11, e13, e6, e3, e8, (35, e5), e4, e16, (84, (bv (decide (((l69 ++ [(Tile.mk (e1.N) t104.1 (e2.S) t111.1)]).length : Int) > 1000))))] [] (fun fb => by kernel_rfl) rfl trivial ?_
        let e19 : Nat × Value := (10, (sv A135 (l72 ++ e35) c136))
        refine WL.cutV (T := Bool) 8 (fun t => [(88, (bv t)), (1, e5), e9, (8, (.func (.func 23) #[] e12)), (9, (sv A126 (l69 ++ [(Tile.mk (e1.N) t104.1 (e2.S) t111.1)]) c127)), e19, (11, (.map e15)), e11, e13, e6, e3, e8, (35, e5), e4, e16]) (fun t => ((decide (((l69 ++ [(Tile.mk (e1.N) t104.1 (e2.S) t111.1)]).length : Int) > 1000)) || (decide ((t111.2.length : Int) > 1000))) = t) (fun K => ?_) ?_
        ·
         rcases Bool.eq_false_or_eq_true (decide (((l69 ++ [(Tile.mk (e1.N) t104.1 (e2.S) t111.1)]).length : Int) > 1000)) with h139 | h139
         ·
          refine WL.setB 84 h139 rfl ?_
          refine seg 8 [] e37 [(1, e5), e9, (8, (.func (.func 23) #[] e12)), (9, (sv A126 (l69 ++ [(Tile.mk (e1.N) t104.1 (e2.S) t111.1)]) c127)), e19, (11, (.map e15)), e11, e13, e6, e3, e8, (35, e5), e4, e16, (88, (bv true))] [] (fun fb => by kernel_rfl) rfl trivial ?_
          exact WL.toV K true [88, 1, 7, 8, 9, 10, 11, 12, 13, 28, 29, 30, 35, 36, 37] rfl (by first | (rw [h139]; done) | (rw [h139]; rfl))
         refine WL.setB 84 h139 rfl ?_
         refine seg 5 [.v (.map e34)] [1, 7, 8, 9, 10, 11, 12, 13, 28, 29, 30, 35, 36, 37, 84, 85] [(1, e5), e9, (8, (.func (.func 23) #[] e12)), (9, (sv A126 (l69 ++ [(Tile.mk (e1.N) t104.1 (e2.S) t111.1)]) c127)), e19, (11, (.map e15)), e11, e13, e6, e3, e8, (35, e5), e4, e16, (84, (bv false)), (85, (.map e34))] [.cell ⟨g28, 0, none⟩ (.map e34)] (fun fb => by kernel_rfl) rfl ⟨hS138.cell 8 rfl 0 rfl, trivial⟩ ?_
         refine seg 6 [.o (mapObj e23 (vI .i64) t111.2)] [1, 7, 8, 9, 10, 11, 12, 13, 28, 29, 30, 35, 36, 37, 84, 86] [(1, e5), e9, (8, (.func (.func 23) #[] e12)), (9, (sv A126 (l69 ++ [(Tile.mk (e1.N) t104.1 (e2.S) t111.1)]) c127)), e19, (11, (.map e15)), e11, e13, e6, e3, e8, (35, e5), e4, e16, (84, (bv false)), (86, (iv (((ents e23 (vI .i64) 0 t111.2).toArray.size : Nat) : Int)))] [.obj g25 (mapObj e23 (vI .i64) t111.2)] (fun fb => by kernel_rfl) rfl ⟨(mapObj_req (hS138.own 6).1), trivial⟩ ?_
         refine WL.reE [1, 7, 8, 9, 10, 11, 12, 13, 28, 29, 30, 35, 36, 37, 84, 86] [(1, (.slice Ab p1.length cb)), (7, (pt g28)), (8, (.func (.func 23) #[] #[(pt g28)])), (9, (.slice A126 (l69 ++ [(Tile.mk ((rdD p1 x74 z_Tile).N) t104.1 ((rdD p0 x47 z_Tile).S) t111.1)]).length c127)), (10, (.slice A135 (l72 ++ [(A2_Int.mk x47 x74)]).length c136)), (11, (.map (some g34))), (12, (iv x47)), (13, (pt g60)), (28, (.slice Aa p0.length ca)), (29, (iv (p0.length : Int))), (30, (iv x47)), (35, (.slice Ab p1.length cb)), (36, (iv (p1.length : Int))), (37, (iv x74)), (84, (.bool false)), (86, (iv (((ents (aggI ints_A2_Int) (vI .i64) 0 t111.2).toArray.size : Nat) : Int)))] [(1, (.slice Ab p1.length cb)), (7, (pt g28)), (8, (.func (.func 23) #[] #[(pt g28)])), (9, (.slice A126 (l69 ++ [(Tile.mk ((rdD p1 x74 z_Tile).N) t104.1 ((rdD p0 x47 z_Tile).S) t111.1)]).length c127)), (10, (.slice A135 (l72 ++ [(A2_Int.mk x47 x74)]).length c136)), (11, (.map (some g34))), (12, (iv x47)), (13, (pt g60)), (28, (.slice Aa p0.length ca)), (29, (iv (p0.length : Int))), (30, (iv x47)), (35, (.slice Ab p1.length cb)), (36, (iv (p1.length : Int))), (37, (iv x74)), (84, (.bool false)), (86, (iv (t111.2.length : Int)))] rfl (by rw [ents_size]) ?_
         refine seg 8 [] e37 [(1, e5), e9, (8, (.func (.func 23) #[] e12)), (9, (sv A126 (l69 ++ [(Tile.mk (e1.N) t104.1 (e2.S) t111.1)]) c127)), e19, (11, (.map e15)), e11, e13, e6, e3, e8, (35, e5), e4, e16, (88, (bv (decide ((t111.2.length : Int) > 1000))))] [] (fun fb => by kernel_rfl) rfl trivial ?_
         exact WL.toV K (decide ((t111.2.length : Int) > 1000)) [88, 1, 7, 8, 9, 10, 11, 12, 13, 28, 29, 30, 35, 36, 37] rfl (by first | (rw [h139]; done) | (rw [h139]; rfl))
        rintro b140 rfl
        refine WL.done rfl (WX.next ?_)
        rcases br_some hx91 with ⟨h141, hx91⟩ | ⟨h141, hx91⟩
        ·refine WC.condT2 (fun fb => by kernel_rfl) h141 ?_
         refine WC.seq (WC.region ?_)
         refine seg 3 [] [4, 5, 6] [(4, (.slice none 0 0)), (5, (.slice none 0 0)), (6, (iv 4))] [] (fun fb => by kernel_rfl) rfl trivial ?_
         refine WL.done rfl (WX.next ?_)
         refine WC.ret ?_
         have hS142 := hS138.nilrow 32 enc_Tile
         have hS143 := hS142.nilrow 30 enc_A2_Int
         injection hx91 with hx91
         subst hx91
         injection hl84 with hl84
         subst hl84
         injection hl57 with hl57
         subst hl57
         injection hf with hf
         subst hf
         exact WX.blockR (WX.thenR (WX.thenR (WX.blockR (WX.blockR (WX.thenR (WX.thenR (WX.blockR (WX.thenR (WX.ret_ [] (.tuple #[(sv none ([] : List Tile) 0), (sv none ([] : List A2_Int) 0), (iv 4)]) [] (fun fb => by kernel_rfl) trivial ⟨_, rfl, none, 0, none, 0, rfl, (hS143.sub [1, 0] (by decide)).noR⟩)))))))))
        refine WC.condF2 (fun fb => by kernel_rfl) h141 ?_
        refine WC.skip ?_
        injection hx91 with hx91
        exact WX.blockN (WX.to Kx90 ((t111.2, l69 ++ [(Tile.mk (e1.N) t104.1 (e2.S) t111.1)], l72 ++ e35, mput (Tile.mk (e1.N) t104.1 (e2.S) t111.1) true l73), A126, c127, A135, c136) e7 rfl ⟨(hS138.subR [0, 1]).sub [8, 6, 2, 0, 4, 9] (by decide), hx91.symm⟩)
       rintro ⟨y147, A86, c87, A88, c89⟩ w144 ⟨hS145, hq146⟩
       subst hq146
       have hl84 := sum_inr hl84
       refine WX.next (WC.region ?_)
       refine seg 2 [] e7 [(1, e5), e9, (8, (.func (.func 23) #[] e12)), (9, (sv A86 y147.2.1 c87)), (10, (sv A88 y147.2.2.1 c89)), (11, (.map e15)), e11, e13, e6, e3, e8, (35, e5), e4, (37, (iv (w64 (x74 + 1))))] [] (fun fb => by kernel_rfl) rfl trivial ?_
       refine WL.done rfl ?_
       exact WX.again k81 (Nat.lt_succ_self _) ((y147.1, y147.2.1, y147.2.2.1, y147.2.2.2, w64 (x74 + 1)), A86, c87, A88, c89) e7 rfl ⟨(hS145.subR [0, 1]).sub [0, 1, 2, 3, 4, 5] (by decide), hl84⟩
      refine WC.condF2 (fun fb => by kernel_rfl) h85 ?_
      refine WC.exit ?_
      injection hl84 with hl84
      exact WX.thenX (WX.thenX (WX.blockHere (WX.to Kx79 ((l66, l69, l72, l73), A67, c68, A70, c71) e29 rfl ⟨(hS83.subR [0, 1]).sub [0, 1, 2, 3, 4] (by decide), hl84.symm⟩)))
    rintro ⟨y151, A75, c76, A77, c78⟩ w148 ⟨hS149, hq150⟩
    subst hq150
    have hl57 := sum_inr hl57
    refine WX.blockN (WX.next ?_)
    refine WC.region ?_
    refine seg 2 [] e29 [(1, e5), e9, (8, (.func (.func 23) #[] e12)), (9, (sv A75 y151.2.1 c76)), (10, (sv A77 y151.2.2.1 c78)), (11, (.map e15)), e6, e3, (30, (iv (w64 (x47 + 1))))] [] (fun fb => by kernel_rfl) rfl trivial ?_
    refine WL.done rfl ?_
    exact WX.again k54 (Nat.lt_succ_self _) ((y151.1, y151.2.1, y151.2.2.1, y151.2.2.2, w64 (x47 + 1)), A75, c76, A77, c78) e29 rfl ⟨(hS149.subR [0, 1]).sub [0, 1, 2, 3, 4] (by decide), hl57⟩
   refine WC.condF2 (fun fb => by kernel_rfl) h58 ?_
   refine WC.exit ?_
   injection hl57 with hl57
   exact WX.thenX (WX.thenX (WX.blockHere (WX.to Kx52 ((l42, l45), A40, c41, A43, c44) [9, 10] rfl ⟨(hS56.subR [0, 1]).sub [2, 3] (by decide), hl57.symm⟩)))
 rintro ⟨y155, A48, c49, A50, c51⟩ w152 ⟨hS153, hq154⟩
 subst hq154
 have hf := sum_inr hf
 refine WX.next (WC.seq (WC.region ?_))
 refine seg 5 [] [4, 5, 6] [(4, (sv A48 y155.1 c49)), (5, (sv A50 y155.2 c51)), (6, (iv 0))] [] (fun fb => by kernel_rfl) rfl trivial ?_
 refine WL.done rfl (WX.next ?_)
 refine WC.ret ?_
 injection hf with hf
 subst hf
 exact WX.ret_ [] (.tuple #[(sv A48 y155.1 c49), (sv A50 y155.2 c51), (iv 0)]) [] (fun fb => by kernel_rfl) trivial ⟨_, rfl, A48, c49, A50, c51, rfl, (hS153.sub [0, 1] (by decide)).noR⟩
theorem tile_Text_calls (k : Nat) (p0 : List Tile) (Aa : Option Addr) (ca : Nat) (mG : Glo) (r : ByteArray × Int) (w : World) (hR0 : RO NoS w (rowR enc_Tile Aa ca p0)) (hR1 : RO NoS w (gloO Tryz.prog 2 5 0 1 mG)) (hf : tile_Text k p0 = some r) :
  CallsR Tryz.prog 19 #[(sv Aa p0 ca)] w (fun v w' => v = (.tuple #[(.string r.1), (iv r.2)]) ∧ Keeps NoS w w') := by
 have hS : St NoS w w [rowR enc_Tile Aa ca p0, gloO Tryz.prog 2 5 0 1 mG] [] := St.init (ro_cons hR0 (ro_cons hR1 (ro_nil _ _)))
 refine enter 9 Tryz.func19 rfl Tryz.ntmps19 rfl ?_
 unfold tile_Text at hf
 refine WC.seq (WC.region ?_)
 refine seg 2 [] [0] [(0, (sv Aa p0 ca))] [] (fun fb => by kernel_rfl) rfl trivial ?_
 refine WL.done rfl (WX.next (WC.seq (WC.seq (WC.region ?_))))
 refine seg 1 [] [0, 4] [(0, (sv Aa p0 ca)), (4, (sv Aa p0 ca))] [] (fun fb => by kernel_rfl) rfl trivial ?_
 obtain ⟨t3, ht4, hf⟩ := bind_some hf
 refine WL.call (some 5) 22 #[(sv Aa p0 ca)] (fun fb => by kernel_rfl) (tile_Valid_calls _ p0 Aa ca t3 _ (hS.rd 0) ht4) (fun v w5 hR6 => ?_)
 obtain ⟨rfl, hk_⟩ := hR6
 have hS7 := hS.keepN hk_
 refine ⟨trivial, ?_⟩
 refine seg 3 [] [0, 6] [(0, (sv Aa p0 ca)), (6, (bv (!t3)))] [] (fun fb => by kernel_rfl) rfl trivial ?_
 refine WL.done rfl (WX.next ?_)
 rcases br_some hf with ⟨h8, hf⟩ | ⟨h8, hf⟩
 ·refine WC.condT2 (fun fb => by kernel_rfl) h8 ?_
  refine WC.seq (WC.region ?_)
  refine seg 2 [] [2, 3] [(2, (.string (⟨#[]⟩ : ByteArray))), (3, (iv 1))] [] (fun fb => by kernel_rfl) rfl trivial ?_
  refine WL.done rfl (WX.next ?_)
  refine WC.ret ?_
  injection hf with hf
  subst hf
  exact WX.thenR (WX.ret_ [] (.tuple #[(.string (⟨#[]⟩ : ByteArray)), (iv 1)]) [] (fun fb => by kernel_rfl) trivial ⟨_, rfl, rfl, hS7.keep⟩)
 refine WC.condF2 (fun fb => by kernel_rfl) h8 ?_
 refine WC.skip (WX.next (WC.seq (WC.region ?_)))
 refine seg 1 [] [7] [(7, (sv Aa p0 ca))] [] (fun fb => by kernel_rfl) rfl trivial ?_
 obtain ⟨t9, ht10, hf⟩ := bind_some hf
 refine WL.call (some 8) 33 #[(sv Aa p0 ca)] (fun fb => by kernel_rfl) (tile_write_calls _ p0 Aa ca mG t9 _ (hS7.rd 0) (hS7.rd 1) ht10) (fun v w11 hR12 => ?_)
 obtain ⟨rfl, hk_⟩ := hR12
 have hS13 := hS7.keepN hk_
 refine ⟨trivial, ?_⟩
 refine seg 4 [] [2, 3] [(2, (.string t9)), (3, (iv 0))] [] (fun fb => by kernel_rfl) rfl trivial ?_
 refine WL.done rfl (WX.next ?_)
 refine WC.ret ?_
 injection hf with hf
 subst hf
 exact WX.ret_ [] (.tuple #[(.string t9), (iv 0)]) [] (fun fb => by kernel_rfl) trivial ⟨_, rfl, rfl, hS13.keep⟩
theorem strip_colours_put_el_calls (p0 : List A16_Int) (p0_i : Int) (p1 : Int) (Aa : Option Addr) (ca : Nat) (r : (List A16_Int)) (w : World) (hI : IoOK w [rowO 85 enc_A16_Int Aa ca p0]) (hf : strip_colours_put_el p0 p0_i p1 = some r) :
  CallsR Tryz.prog 34 #[(.pointer (some ((adr Aa).add ((p0_i).toNat * 16)))), (iv p1)] w (fun v w' => v = (.tuple #[]) ∧ St (fpL [rowO 85 enc_A16_Int Aa ca p0]) w w' [] [rowO 85 enc_A16_Int Aa ca r] ∧ (r).length = (p0).length) := by
 have hS : St (fpL [rowO 85 enc_A16_Int Aa ca p0]) w w [] [rowO 85 enc_A16_Int Aa ca p0] := St.initIO (ro_nil _ _) hI
 refine enter 16 Tryz.func34 rfl Tryz.ntmps34 rfl ?_
 unfold strip_colours_put_el at hf
 obtain ⟨h2, hf⟩ := as_some hf
 obtain ⟨h5, hf⟩ := as_some hf
 obtain ⟨h6, hf⟩ := as_some hf
 refine WC.regionD ([(5, (((adr Aa).add ((p0_i).toNat * 16)).add ((w64 (Int.tdiv p1 64)).toNat * 1)), (.int .u64 (A16_Int.get (rdD p0 p0_i z_A16_Int) (w64 (Int.tdiv p1 64)))))], [0, 1, 2, 3, 4, 5, 6, 7, 8, 9, 10, 11], [[], [], [1], [0], [0, 1, 2, 3], [0, 1, 2, 3, 4], [], [6], [6, 7], [0, 1, 2, 3, 4, 5, 6, 7, 8], [0], [0, 1, 2, 3, 4, 5, 6, 7, 8, 9, 10], [0, 1, 2, 3, 4, 5, 6, 7, 8, 9, 10, 11]]) [[0, 1, 2, 3, 4, 5, 6, 7, 8, 9, 10, 11, 12]] (by kernel_rfl) (by kernel_rfl) (NoPanic.body) ?_
 have hS4 := hS.drew
 revert hS4
 generalize World.drew w = w3
 intro hS4
 refine ⟨⟨rowR.cell (rowO.rd (hS4.own 0).1) z_A16_Int h2.1 h2.2 _ (cases16 (Q := fun z_ => (enc_A16_Int.enc (rdD p0 p0_i z_A16_Int))[z_.toNat * 1]? = some (.int .u64 (A16_Int.get (rdD p0 p0_i z_A16_Int) z_))) h5 (by kernel_rfl) (by kernel_rfl) (by kernel_rfl) (by kernel_rfl) (by kernel_rfl) (by kernel_rfl) (by kernel_rfl) (by kernel_rfl) (by kernel_rfl) (by kernel_rfl) (by kernel_rfl) (by kernel_rfl) (by kernel_rfl) (by kernel_rfl) (by kernel_rfl) (by kernel_rfl)), trivial⟩, forallC ?_ (forallN)⟩
 let e1 := w64 (Int.tdiv p1 64)
 let e2 := A16_Int.get (rdD p0 p0_i z_A16_Int) e1
 let e3 := (adr Aa).add ((p0_i).toNat * 16)
 refine segF 12 [.p, .v (.int .u64 e2), .p] [0, 13, 15] [(0, (.pointer (some e3))), (13, (.int .u64 (orV e2 (shlV 1 (Int.tmod p1 64))))), (15, (.pointer (some (e3.add (e1.toNat * 1)))))] [.ne 64, .idx (some ⟨0, 0, none⟩) e1 16, .ne 64, .idx (some ⟨0, 0, none⟩) (Int.tmod p1 64) 64, .idx (some ⟨0, 0, none⟩) e1 16] [0] [(5, (e3.add (e1.toNat * 1)), (.int .u64 e2))] (fun fb => by kernel_rfl) rfl ⟨(by decide), ⟨h5.1, h5.2, rfl⟩, (by decide), ⟨h6.1, h6.2, rfl⟩, ⟨h5.1, h5.2, rfl⟩, trivial⟩ rfl ?_
 have h9 := (cases16 (Q := fun z_ => (([(z_.toNat * 1, (.int .u64 (orV e2 (shlV 1 (Int.tmod p1 64)))))] : List (Nat × Value)).all fun p_ => Nat.blt p_.1 enc_A16_Int.sz) = true) h5 (by kernel_rfl) (by kernel_rfl) (by kernel_rfl) (by kernel_rfl) (by kernel_rfl) (by kernel_rfl) (by kernel_rfl) (by kernel_rfl) (by kernel_rfl) (by kernel_rfl) (by kernel_rfl) (by kernel_rfl) (by kernel_rfl) (by kernel_rfl) (by kernel_rfl) (by kernel_rfl))
 have h10 := (cases16 (Q := fun z_ => wrl (enc_A16_Int.enc (rdD p0 p0_i z_A16_Int)) [(z_.toNat * 1, (.int .u64 (orV e2 (shlV 1 (Int.tmod p1 64)))))] = enc_A16_Int.enc (A16_Int.set (rdD p0 p0_i z_A16_Int) z_ (orV e2 (shlV 1 (Int.tmod p1 64))))) h5 (by kernel_rfl) (by kernel_rfl) (by kernel_rfl) (by kernel_rfl) (by kernel_rfl) (by kernel_rfl) (by kernel_rfl) (by kernel_rfl) (by kernel_rfl) (by kernel_rfl) (by kernel_rfl) (by kernel_rfl) (by kernel_rfl) (by kernel_rfl) (by kernel_rfl) (by kernel_rfl))
 refine WL.storeRow hS4 0 rfl (p0_i) ((A16_Int.set (rdD p0 p0_i z_A16_Int) e1 (orV e2 (shlV 1 (Int.tmod p1 64))))) (z_A16_Int) [(e1.toNat * 1, (.int .u64 (orV e2 (shlV 1 (Int.tmod p1 64)))))] (fun fb => by kernel_rfl) h2.1 h2.2 h9 h10 [] (by decide) (by decide) (fun w7 hS8 => ?_)
 refine ⟨trivial, ?_⟩
 refine WL.done rfl ?_
 injection hf with hf
 subst hf
 exact WX.end_ [] (.tuple #[]) [] (fun fb => by kernel_rfl) trivial ⟨_, rfl, rfl, (hS8.sub [0] (by decide)).noR, (by first | rfl | simp only [List.length_set])⟩
theorem strip_colours_has_el_calls (p0 : List A16_Int) (p0_i : Int) (p1 : Int) (Aa : Option Addr) (ca : Nat) (r : Bool) (w : World) (hR0 : RO NoS w (rowR enc_A16_Int Aa ca p0)) (hf : strip_colours_has_el p0 p0_i p1 = some r) :
  CallsR Tryz.prog 35 #[(.pointer (some ((adr Aa).add ((p0_i).toNat * 16)))), (iv p1)] w (fun v w' => v = (bv r) ∧ Keeps NoS w w') := by
 have hS : St NoS w w [rowR enc_A16_Int Aa ca p0] [] := St.init (ro_cons hR0 (ro_nil _ _))
 refine enter 16 Tryz.func35 rfl Tryz.ntmps35 rfl ?_
 unfold strip_colours_has_el at hf
 obtain ⟨h2, hf⟩ := as_some hf
 refine WC.seq (WC.region ?_)
 refine seg 1 [] [0, 1] [(0, (.pointer (some ((adr Aa).add ((p0_i).toNat * 16))))), (1, (iv p1))] [] (fun fb => by kernel_rfl) rfl trivial ?_
 refine WL.done rfl (WX.next (WC.seq (WC.region ?_)))
 refine seg 4 [] [1, 7, 8] [(1, (iv p1)), (7, (iv (w64 (Int.tdiv p1 64)))), (8, (.pointer (some ((adr Aa).add ((p0_i).toNat * 16)))))] [.ne 64] (fun fb => by kernel_rfl) rfl ⟨(by decide), trivial⟩ ?_
 obtain ⟨h3, hf⟩ := as_some hf
 let e1 := A16_Int.get (rdD p0 p0_i z_A16_Int) (w64 (Int.tdiv p1 64))
 refine seg 8 [.p, .v (.int .u64 e1)] [10, 12] [(10, (.int .u64 e1)), (12, (iv (Int.tmod p1 64)))] [.idx (some ⟨0, 0, none⟩) (w64 (Int.tdiv p1 64)) 16, .cell (((adr Aa).add ((p0_i).toNat * 16)).add ((w64 (Int.tdiv p1 64)).toNat * 1)) (.int .u64 e1), .ne 64] (fun fb => by kernel_rfl) rfl ⟨⟨h3.1, h3.2, rfl⟩, rowR.cell (hS.rd 0).1 z_A16_Int h2.1 h2.2 _ (cases16 (Q := fun z_ => (enc_A16_Int.enc (rdD p0 p0_i z_A16_Int))[z_.toNat * 1]? = some (.int .u64 (A16_Int.get (rdD p0 p0_i z_A16_Int) z_))) h3 (by kernel_rfl) (by kernel_rfl) (by kernel_rfl) (by kernel_rfl) (by kernel_rfl) (by kernel_rfl) (by kernel_rfl) (by kernel_rfl) (by kernel_rfl) (by kernel_rfl) (by kernel_rfl) (by kernel_rfl) (by kernel_rfl) (by kernel_rfl) (by kernel_rfl) (by kernel_rfl)), (by decide), trivial⟩ ?_
 obtain ⟨h4, hf⟩ := as_some hf
 refine seg 12 [] [4] [(4, (bv ((andV (shrV e1 (Int.tmod p1 64)) 1) == 1)))] [.idx (some ⟨0, 0, none⟩) (Int.tmod p1 64) 64] (fun fb => by kernel_rfl) rfl ⟨⟨h4.1, h4.2, rfl⟩, trivial⟩ ?_
 refine WL.done rfl (WX.next ?_)
 refine WC.ret ?_
 injection hf with hf
 subst hf
 exact WX.ret_ [] (bv ((andV (shrV e1 (Int.tmod p1 64)) 1) == 1)) [] (fun fb => by kernel_rfl) trivial ⟨_, rfl, rfl, hS.keep⟩
theorem strip_Path_calls (k : Nat) (p0 : List Tile) (p1 : Int) (p2 : Int) (p3 : Int) (Aa : Option Addr) (ca : Nat) (r : (List Int) × Int) (w : World) (hR0 : RO NoS w (rowR enc_Tile Aa ca p0)) (hf : strip_Path k p0 p1 p2 p3 = some r) :
  CallsR Tryz.prog 20 #[(sv Aa p0 ca), (iv p1), (iv p2), (iv p3)] w (fun v w' => ∃ (A1_ : Option Addr), ∃ (c1_ : Nat), v = (.tuple #[(sv A1_ r.1 c1_), (iv r.2)]) ∧ St NoS w w' [] [rowO 3 encInt A1_ c1_ r.1]) := by
 have hS : St NoS w w [rowR enc_Tile Aa ca p0] [] := St.init (ro_cons hR0 (ro_nil _ _))
 refine enter 110 Tryz.func20 rfl Tryz.ntmps20 rfl ?_
 unfold strip_Path at hf
 refine WC.seq (WC.region ?_)
 refine seg 2 [] [0, 1, 2, 3] [(0, (sv Aa p0 ca)), (1, (iv p1)), (2, (iv p2)), (3, (iv p3))] [] (fun fb => by kernel_rfl) rfl trivial ?_
 refine WL.done rfl (WX.next (WC.seq (WC.seq (WC.region ?_))))
 refine seg 1 [] [0, 1, 2, 3, 19] [(0, (sv Aa p0 ca)), (1, (iv p1)), (2, (iv p2)), (3, (iv p3)), (19, (sv Aa p0 ca))] [] (fun fb => by kernel_rfl) rfl trivial ?_
 obtain ⟨t4, ht5, hf⟩ := bind_some hf
 refine WL.call (some 20) 22 #[(sv Aa p0 ca)] (fun fb => by kernel_rfl) (tile_Valid_calls _ p0 Aa ca t4 _ (hS.rd 0) ht5) (fun v w6 hR7 => ?_)
 obtain ⟨rfl, hk_⟩ := hR7
 have hS8 := hS.keepN hk_
 refine ⟨trivial, ?_⟩
 refine seg 3 [] [0, 1, 2, 3, 21] [(0, (sv Aa p0 ca)), (1, (iv p1)), (2, (iv p2)), (3, (iv p3)), (21, (bv (!t4)))] [] (fun fb => by kernel_rfl) rfl trivial ?_
 refine WL.done rfl (WX.next ?_)
 rcases br_some hf with ⟨h9, hf⟩ | ⟨h9, hf⟩
 ·refine WC.condT2 (fun fb => by kernel_rfl) h9 ?_
  refine WC.seq (WC.region ?_)
  refine seg 2 [] [8, 9] [(8, (.slice none 0 0)), (9, (iv 1))] [] (fun fb => by kernel_rfl) rfl trivial ?_
  refine WL.done rfl (WX.next ?_)
  refine WC.ret ?_
  have hS10 := hS8.nilrow 3 encInt
  injection hf with hf
  subst hf
  exact WX.thenR (WX.ret_ [] (.tuple #[(sv none ([] : List Int) 0), (iv 1)]) [] (fun fb => by kernel_rfl) trivial ⟨_, rfl, none, 0, rfl, (hS10.sub [0] (by decide)).noR⟩)
 refine WC.condF2 (fun fb => by kernel_rfl) h9 ?_
 refine WC.skip (WX.next (WC.seq (WC.seq (WC.region ?_))))
 refine seg 3 [] [0, 1, 2, 3, 24] [(0, (sv Aa p0 ca)), (1, (iv p1)), (2, (iv p2)), (3, (iv p3)), (24, (bv (decide (p3 < 1))))] [] (fun fb => by kernel_rfl) rfl trivial ?_
 refine WL.cutV (T := Bool) 6 (fun t => [(27, (bv t)), (0, (sv Aa p0 ca)), (1, (iv p1)), (2, (iv p2)), (3, (iv p3))]) (fun t => ((decide (p3 < 1)) || (decide (p3 > 40000))) = t) (fun K => ?_) ?_
 ·
  rcases Bool.eq_false_or_eq_true (decide (p3 < 1)) with h11 | h11
  ·
   refine WL.setB 24 h11 rfl ?_
   refine seg 6 [] [0, 1, 2, 3, 27] [(0, (sv Aa p0 ca)), (1, (iv p1)), (2, (iv p2)), (3, (iv p3)), (27, (bv true))] [] (fun fb => by kernel_rfl) rfl trivial ?_
   exact WL.toV K true [27, 0, 1, 2, 3] rfl (by first | (rw [h11]; done) | (rw [h11]; rfl))
  refine WL.setB 24 h11 rfl ?_
  refine seg 6 [] [0, 1, 2, 3, 27] [(0, (sv Aa p0 ca)), (1, (iv p1)), (2, (iv p2)), (3, (iv p3)), (27, (bv (decide (p3 > 40000))))] [] (fun fb => by kernel_rfl) rfl trivial ?_
  exact WL.toV K (decide (p3 > 40000)) [27, 0, 1, 2, 3] rfl (by first | (rw [h11]; done) | (rw [h11]; rfl))
 rintro b12 rfl
 refine WL.done rfl (WX.next ?_)
 rcases br_some hf with ⟨h13, hf⟩ | ⟨h13, hf⟩
 ·refine WC.condT2 (fun fb => by kernel_rfl) h13 ?_
  refine WC.seq (WC.region ?_)
  refine seg 2 [] [8, 9] [(8, (.slice none 0 0)), (9, (iv 2))] [] (fun fb => by kernel_rfl) rfl trivial ?_
  refine WL.done rfl (WX.next ?_)
  refine WC.ret ?_
  have hS14 := hS8.nilrow 3 encInt
  injection hf with hf
  subst hf
  exact WX.thenR (WX.ret_ [] (.tuple #[(sv none ([] : List Int) 0), (iv 2)]) [] (fun fb => by kernel_rfl) trivial ⟨_, rfl, none, 0, rfl, (hS14.sub [0] (by decide)).noR⟩)
 refine WC.condF2 (fun fb => by kernel_rfl) h13 ?_
 refine WC.skip (WX.next (WC.seq (WC.seq (WC.region ?_))))
 refine seg 5 [] [0, 1, 2, 3, 32] [(0, (sv Aa p0 ca)), (1, (iv p1)), (2, (iv p2)), (3, (iv p3)), (32, (bv (decide (minI p1 p2 < 0))))] [] (fun fb => by kernel_rfl) rfl trivial ?_
 refine WL.cutV (T := Bool) 10 (fun t => [(37, (bv t)), (0, (sv Aa p0 ca)), (1, (iv p1)), (2, (iv p2)), (3, (iv p3))]) (fun t => ((decide (minI p1 p2 < 0)) || (decide (maxI p1 p2 ≥ 1000))) = t) (fun K => ?_) ?_
 ·
  rcases Bool.eq_false_or_eq_true (decide (minI p1 p2 < 0)) with h15 | h15
  ·
   refine WL.setB 32 h15 rfl ?_
   refine seg 10 [] [0, 1, 2, 3, 37] [(0, (sv Aa p0 ca)), (1, (iv p1)), (2, (iv p2)), (3, (iv p3)), (37, (bv true))] [] (fun fb => by kernel_rfl) rfl trivial ?_
   exact WL.toV K true [37, 0, 1, 2, 3] rfl (by first | (rw [h15]; done) | (rw [h15]; rfl))
  refine WL.setB 32 h15 rfl ?_
  refine seg 10 [] [0, 1, 2, 3, 37] [(0, (sv Aa p0 ca)), (1, (iv p1)), (2, (iv p2)), (3, (iv p3)), (37, (bv (decide (maxI p1 p2 ≥ 1000))))] [] (fun fb => by kernel_rfl) rfl trivial ?_
  exact WL.toV K (decide (maxI p1 p2 ≥ 1000)) [37, 0, 1, 2, 3] rfl (by first | (rw [h15]; done) | (rw [h15]; rfl))
 rintro b17 rfl
 refine WL.done rfl (WX.next ?_)
 rcases br_some hf with ⟨h18, hf⟩ | ⟨h18, hf⟩
 ·refine WC.condT2 (fun fb => by kernel_rfl) h18 ?_
  refine WC.seq (WC.region ?_)
  refine seg 2 [] [8, 9] [(8, (.slice none 0 0)), (9, (iv 6))] [] (fun fb => by kernel_rfl) rfl trivial ?_
  refine WL.done rfl (WX.next ?_)
  refine WC.ret ?_
  have hS19 := hS8.nilrow 3 encInt
  injection hf with hf
  subst hf
  exact WX.thenR (WX.ret_ [] (.tuple #[(sv none ([] : List Int) 0), (iv 6)]) [] (fun fb => by kernel_rfl) trivial ⟨_, rfl, none, 0, rfl, (hS19.sub [0] (by decide)).noR⟩)
 refine WC.condF2 (fun fb => by kernel_rfl) h18 ?_
 refine WC.skip (WX.next (WC.seq (WC.region ?_)))
 refine seg 2 [] [0, 1, 2, 3, 39] [(0, (sv Aa p0 ca)), (1, (iv p1)), (2, (iv p2)), (3, (iv p3)), (39, (iv (w64 (p3 + 1))))] [] (fun fb => by kernel_rfl) rfl trivial ?_
 obtain ⟨h21, hf⟩ := as_some hf
 refine WL.make hS8 (e := enc_A16_Int) (T := 85) (tS := 91) (z := (.agg #[(.int .u64 0), (.int .u64 0), (.int .u64 0), (.int .u64 0), (.int .u64 0), (.int .u64 0), (.int .u64 0), (.int .u64 0), (.int .u64 0), (.int .u64 0), (.int .u64 0), (.int .u64 0), (.int .u64 0), (.int .u64 0), (.int .u64 0), (.int .u64 0)])) (bytes := 128) (d := 40) (z_A16_Int : A16_Int) (w64 (p3 + 1)) (fun fb => by kernel_rfl) (by kernel_rfl) (by kernel_rfl) rfl (by decide) h21 (by decide) (fun g22 w23 hS24 => ?_)
 refine ⟨trivial, ?_⟩
 refine seg 4 [] [0, 1, 2, 3, 10] [(0, (sv Aa p0 ca)), (1, (iv p1)), (2, (iv p2)), (3, (iv p3)), (10, (sv (some ⟨g22, 0, none⟩) (List.replicate (w64 (p3 + 1)).toNat (z_A16_Int : A16_Int)) ((w64 (p3 + 1)).toNat)))] [] (fun fb => by kernel_rfl) rfl trivial ?_
 refine WL.done rfl (WX.next (WC.seq (WC.region ?_)))
 refine seg 1 [] [0, 1, 2, 3, 10, 41] [(0, (sv Aa p0 ca)), (1, (iv p1)), (2, (iv p2)), (3, (iv p3)), (10, (sv (some ⟨g22, 0, none⟩) (List.replicate (w64 (p3 + 1)).toNat (z_A16_Int : A16_Int)) ((w64 (p3 + 1)).toNat))), (41, (sv (some ⟨g22, 0, none⟩) (List.replicate (w64 (p3 + 1)).toNat (z_A16_Int : A16_Int)) ((w64 (p3 + 1)).toNat)))] [] (fun fb => by kernel_rfl) rfl trivial ?_
 obtain ⟨h25, hf⟩ := as_some hf
 refine seg 3 [] [0, 1, 3, 10, 42, 43] [(0, (sv Aa p0 ca)), (1, (iv p1)), (3, (iv p3)), (10, (sv (some ⟨g22, 0, none⟩) (List.replicate (w64 (p3 + 1)).toNat (z_A16_Int : A16_Int)) ((w64 (p3 + 1)).toNat))), (42, (.pointer (some ((adr (some ⟨g22, 0, none⟩)).add (((0 : Int)).toNat * 16))))), (43, (iv p2))] [.idx (some ⟨g22, 0, none⟩) (0 : Int) (List.replicate (w64 (p3 + 1)).toNat (z_A16_Int : A16_Int)).length] (fun fb => by kernel_rfl) rfl ⟨rowR.adr (rowO.rd (hS24.own 0).1) h25.1 h25.2, trivial⟩ ?_
 obtain ⟨t26, ht27, hf⟩ := bind_some hf
 refine WL.call (some 44) 34 #[(.pointer (some ((adr (some ⟨g22, 0, none⟩)).add (((0 : Int)).toNat * 16)))), (iv p2)] (fun fb => by kernel_rfl) (strip_colours_put_el_calls (List.replicate (w64 (p3 + 1)).toNat (z_A16_Int : A16_Int)) (0 : Int) p2 (some ⟨g22, 0, none⟩) ((w64 (p3 + 1)).toNat) t26 _ (hS24.io [0] (by decide)) ht27) (fun v w28 hR29 => ?_)
 obtain ⟨rfl, hk_, hl0_⟩ := hR29
 have hS30 := hS.go w28 [rowO 85 enc_A16_Int (some ⟨g22, 0, none⟩) ((w64 (p3 + 1)).toNat) t26] (hS24.call hk_ [0] [] (fun g hg => fpL_sel g hg) (by decide) (by decide))
 refine ⟨trivial, ?_⟩
 refine WL.reE [0, 1, 3, 10] [(0, (.slice Aa p0.length ca)), (1, (iv p1)), (3, (iv p3)), (10, (.slice (some ⟨g22, 0, none⟩) (List.replicate (w64 (p3 + 1)).toNat (z_A16_Int : A16_Int)).length ((w64 (p3 + 1)).toNat)))] [(0, (.slice Aa p0.length ca)), (1, (iv p1)), (3, (iv p3)), (10, (.slice (some ⟨g22, 0, none⟩) t26.length ((w64 (p3 + 1)).toNat)))] rfl (by rw [hl0_]) ?_
 refine WL.done rfl (WX.next (WC.seq (WC.seq (WC.region ?_))))
 refine seg 1 [] [0, 1, 3, 10, 11] [(0, (sv Aa p0 ca)), (1, (iv p1)), (3, (iv p3)), (10, (sv (some ⟨g22, 0, none⟩) t26 ((w64 (p3 + 1)).toNat))), (11, (iv 1))] [] (fun fb => by kernel_rfl) rfl trivial ?_
 refine WL.done rfl (WX.next ?_)
 obtain ⟨x37, hx38, hf⟩ := bind_some hf
 let e8 := sv Aa p0 ca
 let e11 : Nat × Value := (51, (iv (p0.length : Int)))
 let e13 : List Nat := [0, 1, 3, 10, 11, 50, 51, 52]
 let e16 : Nat × Value := (1, (iv p1))
 let e17 : Nat × Value := (3, (iv p3))
 let e23 : List Own := [rowR enc_Tile Aa ca p0]
 refine WC.cutN (T := (List A16_Int) × (Option Addr) × Nat) (fun t => [(0, e8), e16, e17, (10, (sv t.2.1 t.1 t.2.2))]) (fun t w1 => St NoS w w1 e23 [rowO 85 enc_A16_Int t.2.1 t.2.2 t.1] ∧ x37 = t.1) (fun Kx37 => ?_) ?_
 ·
  refine WC.block ?_
  refine WC.loop (T := ((List A16_Int) × Int) × (Option Addr) × Nat) (fun t => [(0, e8), e16, e17, (10, (sv t.2.1 t.1.1 t.2.2)), (11, (iv t.1.2))]) (fun n t w1 => St NoS w w1 e23 [rowO 85 enc_A16_Int t.2.1 t.2.2 t.1.1] ∧ strip_Path.l0 n t.1.1 t.1.2 p0 p3 = some x37) k ((t26, 1), (some ⟨g22, 0, none⟩), (w64 (p3 + 1)).toNat) [0, 1, 3, 10, 11] rfl ⟨(hS30.subR [0]).sub [0] (by decide), hx38⟩ ?_
  rintro k39 ⟨⟨l33, x34⟩, A31, c32⟩ w40 ⟨hS41, hl42⟩
  let e18 : Nat × Value := (11, (iv x34))
  cases k39 with
  | zero => rw [strip_Path.l0] at hl42; cases hl42
  | succ k39 =>
   rw [strip_Path.l0] at hl42
   refine WC.seq (WC.seq (WC.region ?_))
   refine seg 3 [] [0, 1, 3, 10, 11, 47] [(0, e8), e16, e17, (10, (sv A31 l33 c32)), e18, (47, (bv (decide (x34 ≤ p3))))] [] (fun fb => by kernel_rfl) rfl trivial ?_
   refine WL.done rfl (WX.next ?_)
   rcases br_some hl42 with ⟨h43, hl42⟩ | ⟨h43, hl42⟩
   ·refine WC.condT2 (fun fb => by kernel_rfl) h43 ?_
    refine WC.skip (WX.next (WC.seq (WC.block (WC.seq (WC.region ?_)))))
    refine seg 3 [] e13 [(0, e8), e16, e17, (10, (sv A31 l33 c32)), e18, (50, e8), e11, (52, (iv 0))] [] (fun fb => by kernel_rfl) rfl trivial ?_
    refine WL.done rfl (WX.next ?_)
    obtain ⟨x50, hx51, hl42⟩ := bind_some hl42
    refine WC.cutN (T := (List A16_Int) × (Option Addr) × Nat) (fun t => [(0, e8), e16, e17, (10, (sv t.2.1 t.1 t.2.2)), e18]) (fun t w1 => St NoS w w1 e23 [rowO 85 enc_A16_Int t.2.1 t.2.2 t.1] ∧ x50 = t.1) (fun Kx50 => ?_) ?_
    ·
     refine WC.block ?_
     refine WC.loop (T := ((List A16_Int) × Int) × (Option Addr) × Nat) (fun t => [(0, e8), e16, e17, (10, (sv t.2.1 t.1.1 t.2.2)), e18, (50, e8), e11, (52, (iv t.1.2))]) (fun n t w1 => St NoS w w1 e23 [rowO 85 enc_A16_Int t.2.1 t.2.2 t.1.1] ∧ strip_Path.l1 n t.1.1 t.1.2 p0 x34 = some x50) k39 ((l33, 0), A31, c32) e13 rfl ⟨(hS41.subR [0]).sub [0] (by decide), hx51⟩ ?_
     rintro k52 ⟨⟨l46, x47⟩, A44, c45⟩ w53 ⟨hS54, hl55⟩
     let e2 := rdD p0 x47 z_Tile
     let e19 : Array Value := #[(iv (e2.N)), (iv (e2.E)), (iv (e2.S)), (iv (e2.W))]
     let e25 := (adr Aa).add ((x47).toNat * 4)
     let e29 : Nat × Value := (10, (sv A44 l46 c45))
     let e30 := iv (e2.E)
     let e31 := iv (e2.W)
     cases k52 with
     | zero => rw [strip_Path.l1] at hl55; cases hl55
     | succ k52 =>
      rw [strip_Path.l1] at hl55
      refine WC.seq (WC.region ?_)
      refine seg 1 [] [0, 1, 3, 10, 11, 50, 51, 52, 53] [(0, e8), e16, e17, e29, e18, (50, e8), e11, (52, (iv x47)), (53, (bv (decide (x47 < (p0.length : Int)))))] [] (fun fb => by kernel_rfl) rfl trivial ?_
      refine WL.done rfl (WX.next (WC.seq ?_))
      rcases br_some hl55 with ⟨h56, hl55⟩ | ⟨h56, hl55⟩
      ·refine WC.condT2 (fun fb => by kernel_rfl) h56 ?_
       refine WC.skip (WX.next (WC.seq (WC.block (WC.seq (WC.region ?_)))))
       obtain ⟨h57, hl55⟩ := as_some hl55
       refine seg 2 [.v (iv (e2.N)), .v e30, .v (iv (e2.S)), .v e31] [0, 1, 3, 10, 11, 50, 51, 52, 55] [(0, e8), e16, e17, e29, e18, (50, e8), e11, (52, (iv x47)), (55, (.agg e19))] [.idx Aa x47 p0.length, .cell e25 (iv (e2.N)), .cell (e25.add 1) e30, .cell (e25.add 2) (iv (e2.S)), .cell (e25.add 3) e31] (fun fb => by kernel_rfl) rfl ⟨rowR.adr (hS54.rd 0).1 h57.1 h57.2, rowR.cell (hS54.rd 0).1 z_Tile h57.1 h57.2 0 rfl, rowR.cell (hS54.rd 0).1 z_Tile h57.1 h57.2 1 rfl, rowR.cell (hS54.rd 0).1 z_Tile h57.1 h57.2 2 rfl, rowR.cell (hS54.rd 0).1 z_Tile h57.1 h57.2 3 rfl, trivial⟩ ?_
       refine WL.new hS54 13 [] (fun g => (pt g)) (.cells #[(iv 0), (iv 0), (iv 0), (iv 0)] 32 (0, 0)) [] (fun fb g => by kernel_rfl) trivial (fun g58 w59 hS60 => ?_)
       refine ⟨trivial, ?_⟩
       refine WL.store hS60 0 rfl [(0, (iv (e2.N))), (1, e30), (2, (iv (e2.S))), (3, e31)] e19 (fun fb => by kernel_rfl) (by kernel_rfl) rfl [1] (by decide) (by decide) (fun w61 hS62 => ?_)
       refine ⟨trivial, ?_⟩
       refine WL.done rfl (WX.next (WC.seq ?_))
       obtain ⟨h66, hl55⟩ := as_some hl55
       refine WC.regionD ([(5, ⟨g58, 1, none⟩, e30)], [0, 1, 2, 3, 4, 5], [[], [], [1], [0, 1, 2], [], [4], [0, 1, 2, 3, 4, 5]]) [[0, 1, 2, 3, 4, 5, 6]] (by kernel_rfl) (by kernel_rfl) (NoPanic.seq (NoPanic.block (NoPanic.seq (NoPanic.seq (NoPanic.block (NoPanic.block (NoPanic.seq (NoPanic.seq (NoPanic.block (NoPanic.seq (NoPanic.body))))))))))) ?_
       have hS65 := hS62.drew
       revert hS65
       generalize World.drew w61 = w63
       intro hS65
       refine ⟨⟨hS65.cell 0 rfl 1 rfl, trivial⟩, forallC ?_ (forallN)⟩
       refine segF 6 [.v e30] [0, 1, 3, 10, 11, 13, 50, 51, 52, 59, 61] [(0, e8), e16, e17, e29, e18, (13, (pt g58)), (50, e8), e11, (52, (iv x47)), (59, (.pointer (some ((adr A44).add ((w64 (x34 - 1)).toNat * 16))))), (61, e30)] [.idx A44 (w64 (x34 - 1)) l46.length] [0] [(5, ⟨g58, 1, none⟩, e30)] (fun fb => by kernel_rfl) rfl ⟨rowR.adr (rowO.rd (hS65.own 1).1) h66.1 h66.2, trivial⟩ rfl ?_
       obtain ⟨t67, ht68, hl55⟩ := bind_some hl55
       refine WL.call (some 62) 35 #[(.pointer (some ((adr A44).add ((w64 (x34 - 1)).toNat * 16)))), e30] (fun fb => by kernel_rfl) (strip_colours_has_el_calls l46 (w64 (x34 - 1)) (e2.E) A44 c45 t67 _ (hS65.ow 1).ofO ht68) (fun v w69 hR70 => ?_)
       obtain ⟨rfl, hk_⟩ := hR70
       have hS71 := hS65.keepN hk_
       refine ⟨trivial, ?_⟩
       refine WL.done rfl (WX.next ?_)
       obtain ⟨x74, hx75, hl55⟩ := bind_some hl55
       refine WC.cutN (T := (List A16_Int) × (Option Addr) × Nat) (fun t => [(0, e8), e16, e17, (10, (sv t.2.1 t.1 t.2.2)), e18, (50, e8), e11, (52, (iv x47))]) (fun t w1 => St NoS w w1 e23 [rowO 85 enc_A16_Int t.2.1 t.2.2 t.1] ∧ x74 = t.1) (fun Kx74 => ?_) ?_
       ·
        rcases br_some hx75 with ⟨h76, hx75⟩ | ⟨h76, hx75⟩
        ·refine WC.condT2 (fun fb => by kernel_rfl) h76 ?_
         obtain ⟨h79, hx75⟩ := as_some hx75
         refine WC.regionD ([(4, ⟨g58, 3, none⟩, e31)], [0, 1, 2, 3, 4], [[], [], [0, 1], [], [3], [0, 1, 2, 3, 4]]) [[0, 1, 2, 3, 4, 5]] (by kernel_rfl) (by kernel_rfl) (NoPanic.block (NoPanic.seq (NoPanic.seq (NoPanic.block (NoPanic.block (NoPanic.seq (NoPanic.seq (NoPanic.block (NoPanic.seq (NoPanic.body)))))))))) ?_
         have hS78 := hS71.drew
         revert hS78
         generalize World.drew w69 = w77
         intro hS78
         refine ⟨⟨hS78.cell 0 rfl 3 rfl, trivial⟩, forallC ?_ (forallN)⟩
         refine segF 5 [.v e31] [0, 1, 3, 10, 11, 50, 51, 52, 65, 67] [(0, e8), e16, e17, e29, e18, (50, e8), e11, (52, (iv x47)), (65, (.pointer (some ((adr A44).add ((x34).toNat * 16))))), (67, e31)] [.idx A44 x34 l46.length] [0] [(4, ⟨g58, 3, none⟩, e31)] (fun fb => by kernel_rfl) rfl ⟨rowR.adr (rowO.rd (hS78.own 1).1) h79.1 h79.2, trivial⟩ rfl ?_
         obtain ⟨t80, ht81, hx75⟩ := bind_some hx75
         refine WL.call (some 68) 34 #[(.pointer (some ((adr A44).add ((x34).toNat * 16)))), e31] (fun fb => by kernel_rfl) (strip_colours_put_el_calls l46 x34 (e2.W) A44 c45 t80 _ (hS78.io [1] (by decide)) ht81) (fun v w82 hR83 => ?_)
         obtain ⟨rfl, hk_, hl0_⟩ := hR83
         have hS84 := hS30.go w82 [rowO 85 enc_A16_Int A44 c45 t80, blk g58 (.cells e19 32 (0, 0))] (hS78.call hk_ [1] [0] (fun g hg => fpL_sel g hg) (by decide) (by decide))
         refine ⟨trivial, ?_⟩
         refine WL.reE [0, 1, 3, 10, 11, 50, 51, 52] [(0, (.slice Aa p0.length ca)), (1, (iv p1)), (3, (iv p3)), (10, (.slice A44 l46.length c45)), (11, (iv x34)), (50, (.slice Aa p0.length ca)), (51, (iv (p0.length : Int))), (52, (iv x47))] [(0, (.slice Aa p0.length ca)), (1, (iv p1)), (3, (iv p3)), (10, (.slice A44 t80.length c45)), (11, (iv x34)), (50, (.slice Aa p0.length ca)), (51, (iv (p0.length : Int))), (52, (iv x47))] rfl (by rw [hl0_]) ?_
         refine WL.done rfl ?_
         injection hx75 with hx75
         exact WX.to Kx74 (t80, A44, c45) e13 rfl ⟨(hS84.subR [0]).sub [0] (by decide), hx75.symm⟩
        refine WC.condF2 (fun fb => by kernel_rfl) h76 ?_
        refine WC.skip ?_
        injection hx75 with hx75
        exact WX.to Kx74 (l46, A44, c45) e13 rfl ⟨(hS71.subR [0]).sub [1] (by decide), hx75.symm⟩
       rintro ⟨y88, A72, c73⟩ w85 ⟨hS86, hq87⟩
       subst hq87
       refine WX.blockN (WX.next ?_)
       refine WC.region ?_
       refine seg 2 [] e13 [(0, e8), e16, e17, (10, (sv A72 x74 c73)), e18, (50, e8), e11, (52, (iv (w64 (x47 + 1))))] [] (fun fb => by kernel_rfl) rfl trivial ?_
       refine WL.done rfl ?_
       exact WX.again k52 (Nat.lt_succ_self _) ((x74, w64 (x47 + 1)), A72, c73) e13 rfl ⟨(hS86.subR [0]).sub [0] (by decide), hl55⟩
      refine WC.condF2 (fun fb => by kernel_rfl) h56 ?_
      refine WC.exit ?_
      injection hl55 with hl55
      exact WX.thenX (WX.thenX (WX.blockHere (WX.to Kx50 (l46, A44, c45) [0, 1, 3, 10, 11] rfl ⟨(hS54.subR [0]).sub [0] (by decide), hl55.symm⟩)))
    rintro ⟨y92, A48, c49⟩ w89 ⟨hS90, hq91⟩
    subst hq91
    refine WX.blockN (WX.next ?_)
    refine WC.region ?_
    refine seg 3 [] [0, 1, 3, 10, 11] [(0, e8), e16, e17, (10, (sv A48 x50 c49)), (11, (iv (w64 (x34 + 1))))] [] (fun fb => by kernel_rfl) rfl trivial ?_
    refine WL.done rfl ?_
    exact WX.again k39 (Nat.lt_succ_self _) ((x50, w64 (x34 + 1)), A48, c49) [0, 1, 3, 10, 11] rfl ⟨(hS90.subR [0]).sub [0] (by decide), hl42⟩
   refine WC.condF2 (fun fb => by kernel_rfl) h43 ?_
   refine WC.exit ?_
   injection hl42 with hl42
   exact WX.thenX (WX.thenX (WX.blockHere (WX.to Kx37 (l33, A31, c32) [0, 1, 3, 10] rfl ⟨(hS41.subR [0]).sub [0] (by decide), hl42.symm⟩)))
 rintro ⟨y96, A35, c36⟩ w93 ⟨hS94, hq95⟩
 subst hq95
 refine WX.next (WC.seq (WC.seq (WC.region ?_)))
 refine seg 2 [] [0, 1, 3, 10, 70, 71] [(0, e8), e16, e17, (10, (sv A35 x37 c36)), (70, (sv A35 x37 c36)), (71, (iv p3))] [] (fun fb => by kernel_rfl) rfl trivial ?_
 obtain ⟨h97, hf⟩ := as_some hf
 refine seg 4 [] [0, 1, 3, 10, 72, 73] [(0, e8), e16, e17, (10, (sv A35 x37 c36)), (72, (.pointer (some ((adr A35).add ((p3).toNat * 16))))), (73, (iv p1))] [.idx A35 p3 x37.length] (fun fb => by kernel_rfl) rfl ⟨rowR.adr (rowO.rd (hS94.own 0).1) h97.1 h97.2, trivial⟩ ?_
 obtain ⟨t98, ht99, hf⟩ := bind_some hf
 refine WL.call (some 74) 35 #[(.pointer (some ((adr A35).add ((p3).toNat * 16)))), (iv p1)] (fun fb => by kernel_rfl) (strip_colours_has_el_calls x37 p3 p1 A35 c36 t98 _ (hS94.ow 0).ofO ht99) (fun v w100 hR101 => ?_)
 obtain ⟨rfl, hk_⟩ := hR101
 have hS102 := hS94.keepN hk_
 refine ⟨trivial, ?_⟩
 refine seg 6 [] [0, 1, 3, 10, 75] [(0, e8), e16, e17, (10, (sv A35 x37 c36)), (75, (bv (!t98)))] [] (fun fb => by kernel_rfl) rfl trivial ?_
 refine WL.done rfl (WX.next ?_)
 rcases br_some hf with ⟨h103, hf⟩ | ⟨h103, hf⟩
 ·refine WC.condT2 (fun fb => by kernel_rfl) h103 ?_
  refine WC.seq (WC.region ?_)
  refine seg 2 [] [8, 9] [(8, (.slice none 0 0)), (9, (iv 6))] [] (fun fb => by kernel_rfl) rfl trivial ?_
  refine WL.done rfl (WX.next ?_)
  refine WC.ret ?_
  have hS104 := hS102.nilrow 3 encInt
  injection hf with hf
  subst hf
  exact WX.thenR (WX.ret_ [] (.tuple #[(sv none ([] : List Int) 0), (iv 6)]) [] (fun fb => by kernel_rfl) trivial ⟨_, rfl, none, 0, rfl, (hS104.sub [0] (by decide)).noR⟩)
 refine WC.condF2 (fun fb => by kernel_rfl) h103 ?_
 refine WC.skip (WX.next (WC.seq (WC.region ?_)))
 refine seg 1 [] [0, 1, 3, 10, 14] [(0, e8), e16, e17, (10, (sv A35 x37 c36)), (14, (.slice none 0 0))] [] (fun fb => by kernel_rfl) rfl trivial ?_
 refine WL.done rfl (WX.next (WC.seq (WC.seq (WC.region ?_))))
 refine seg 5 [] [0, 10, 14, 15, 16] [(0, e8), (10, (sv A35 x37 c36)), (14, (.slice none 0 0)), (15, (iv p1)), (16, (iv (w64 (p3 - 1))))] [] (fun fb => by kernel_rfl) rfl trivial ?_
 refine WL.done rfl (WX.next ?_)
 have hS105 := hS102.nilrow 3 encInt
 obtain ⟨x113, hx114, hf⟩ := bind_some hf
 let e3 : Nat × Value := (10, (sv A35 x37 c36))
 let e4 := sv Aa p0 ca
 let e5 : Nat × Value := (84, (iv (p0.length : Int)))
 let e9 := [[], [0], [], [0, 1, 2], [0, 1, 2, 3], [0, 1, 2, 3, 4], [0, 1, 2, 3, 4], [0, 1, 2, 3, 4, 5, 6], [0, 1, 2, 3, 4], [0, 1, 2, 3, 4, 8], [0, 1, 2, 3, 4, 5, 6, 7, 8, 9], [0, 1, 2, 3, 4, 5, 6, 7, 8, 9, 10]]
 let e14 : List Nat := [0, 10, 14, 15, 16, 17, 18, 83, 84, 85, 101]
 let e24 : List Nat := [0, 10, 14, 15, 16, 83, 84, 85]
 let e26 : List Nat := [0, 10, 14, 15, 16]
 refine WC.cutN (T := (List Int) × (Option Addr) × Nat) (fun t => [(14, (sv t.2.1 t.1 t.2.2))]) (fun t w1 => St NoS w w1 e23 [rowO 3 encInt t.2.1 t.2.2 t.1] ∧ x113 = t.1) (fun Kx113 => ?_) ?_
 ·
  refine WC.block ?_
  refine WC.loop (T := ((List Int) × Int × Int) × (Option Addr) × Nat) (fun t => [(0, e4), e3, (14, (sv t.2.1 t.1.1 t.2.2)), (15, (iv t.1.2.1)), (16, (iv t.1.2.2))]) (fun n t w1 => St NoS w w1 e23 [rowO 85 enc_A16_Int A35 c36 x37, rowO 3 encInt t.2.1 t.2.2 t.1.1] ∧ strip_Path.l2 n t.1.1 t.1.2.1 t.1.2.2 p0 x37 = some x113) k ((([] : List Int), p1, w64 (p3 - 1)), none, 0) e26 rfl ⟨(hS105.subR [0]).sub [1, 0] (by decide), hx114⟩ ?_
  rintro k115 ⟨⟨l108, x109, x110⟩, A106, c107⟩ w116 ⟨hS117, hl118⟩
  let e6 : Nat × Value := (14, (sv A106 l108 c107))
  let e7 : Nat × Value := (16, (iv x110))
  let e12 : Nat × Value := (15, (iv x109))
  cases k115 with
  | zero => rw [strip_Path.l2] at hl118; cases hl118
  | succ k115 =>
   rw [strip_Path.l2] at hl118
   refine WC.seq (WC.seq (WC.region ?_))
   refine seg 2 [] [0, 10, 14, 15, 16, 80] [(0, e4), e3, e6, e12, e7, (80, (bv (decide (x110 ≥ 0))))] [] (fun fb => by kernel_rfl) rfl trivial ?_
   refine WL.done rfl (WX.next ?_)
   rcases br_some hl118 with ⟨h119, hl118⟩ | ⟨h119, hl118⟩
   ·refine WC.condT2 (fun fb => by kernel_rfl) h119 ?_
    refine WC.skip (WX.next (WC.seq (WC.block (WC.seq (WC.region ?_)))))
    refine seg 3 [] e24 [(0, e4), e3, e6, e12, e7, (83, e4), e5, (85, (iv 0))] [] (fun fb => by kernel_rfl) rfl trivial ?_
    refine WL.done rfl (WX.next ?_)
    obtain ⟨x123, hx124, hl118⟩ := bind_some hl118
    refine WC.cutN (T := ((List Int) × Int) × (Option Addr) × Nat) (fun t => [(0, e4), e3, (14, (sv t.2.1 t.1.1 t.2.2)), (15, (iv t.1.2)), e7]) (fun t w1 => St NoS w w1 e23 [rowO 85 enc_A16_Int A35 c36 x37, rowO 3 encInt t.2.1 t.2.2 t.1.1] ∧ x123 = t.1) (fun Kx123 => ?_) ?_
    ·
     refine WC.block ?_
     refine WC.loop (T := Int) (fun t => [(0, e4), e3, e6, e12, e7, (83, e4), e5, (85, (iv t))]) (fun n t w1 => St NoS w w1 e23 [rowO 85 enc_A16_Int A35 c36 x37, rowO 3 encInt A106 c107 l108] ∧ strip_Path.l3 n t p0 x37 l108 x109 x110 = some x123) k115 0 e24 rfl ⟨(hS117.subR [0]).sub [0, 1] (by decide), hx124⟩ ?_
     rintro k125 x120 w126 ⟨hS127, hl128⟩
     let e1 := rdD p0 x120 z_Tile
     let e10 : Array Value := #[(iv (e1.N)), (iv (e1.E)), (iv (e1.S)), (iv (e1.W))]
     let e21 : Nat × Value := (85, (iv x120))
     let e22 := (adr Aa).add ((x120).toNat * 4)
     let e27 := iv (e1.E)
     let e28 : Nat × Value := (17, (iv x120))
     cases k125 with
     | zero => rw [strip_Path.l3] at hl128; cases hl128
     | succ k125 =>
      rw [strip_Path.l3] at hl128
      refine WC.seq (WC.region ?_)
      refine seg 1 [] [0, 10, 14, 15, 16, 83, 84, 85, 86] [(0, e4), e3, e6, e12, e7, (83, e4), e5, e21, (86, (bv (decide (x120 < (p0.length : Int)))))] [] (fun fb => by kernel_rfl) rfl trivial ?_
      refine WL.done rfl (WX.next (WC.seq ?_))
      rcases br_some hl128 with ⟨h129, hl128⟩ | ⟨h129, hl128⟩
      ·refine WC.condT2 (fun fb => by kernel_rfl) h129 ?_
       refine WC.skip (WX.next (WC.seq (WC.block (WC.seq (WC.region ?_)))))
       refine seg 1 [] [0, 10, 14, 15, 16, 83, 84, 85, 87] [(0, e4), e3, e6, e12, e7, (83, e4), e5, e21, (87, (iv x120))] [] (fun fb => by kernel_rfl) rfl trivial ?_
       obtain ⟨h130, hl128⟩ := as_some hl128
       refine seg 3 [.v (iv (e1.N)), .v e27, .v (iv (e1.S)), .v (iv (e1.W))] [0, 10, 14, 15, 16, 83, 84, 85, 87, 89] [(0, e4), e3, e6, e12, e7, (83, e4), e5, e21, (87, (iv x120)), (89, (.agg e10))] [.idx Aa x120 p0.length, .cell e22 (iv (e1.N)), .cell (e22.add 1) e27, .cell (e22.add 2) (iv (e1.S)), .cell (e22.add 3) (iv (e1.W))] (fun fb => by kernel_rfl) rfl ⟨rowR.adr (hS127.rd 0).1 h130.1 h130.2, rowR.cell (hS127.rd 0).1 z_Tile h130.1 h130.2 0 rfl, rowR.cell (hS127.rd 0).1 z_Tile h130.1 h130.2 1 rfl, rowR.cell (hS127.rd 0).1 z_Tile h130.1 h130.2 2 rfl, rowR.cell (hS127.rd 0).1 z_Tile h130.1 h130.2 3 rfl, trivial⟩ ?_
       refine WL.new hS127 18 [] (fun g => (pt g)) (.cells #[(iv 0), (iv 0), (iv 0), (iv 0)] 32 (0, 0)) [] (fun fb g => by kernel_rfl) trivial (fun g131 w132 hS133 => ?_)
       refine ⟨trivial, ?_⟩
       refine seg 5 [] [0, 10, 14, 15, 16, 17, 18, 83, 84, 85, 89] [(0, e4), e3, e6, e12, e7, e28, (18, (pt g131)), (83, e4), e5, e21, (89, (.agg e10))] [] (fun fb => by kernel_rfl) rfl trivial ?_
       refine WL.store hS133 0 rfl [(0, (iv (e1.N))), (1, e27), (2, (iv (e1.S))), (3, (iv (e1.W)))] e10 (fun fb => by kernel_rfl) (by kernel_rfl) rfl [1, 2] (by decide) (by decide) (fun w134 hS135 => ?_)
       refine ⟨trivial, ?_⟩
       refine WL.done rfl (WX.next (WC.seq ?_))
       obtain ⟨x136, hx137, hl128⟩ := bind_some hl128
       let e15 : List (Nat × Value) := [(0, e4), e3, e6, e12, e7, e28, (18, (pt g131)), (83, e4), e5, e21, (94, (bv ((e1.W) == x109)))]
       let e20 : Nat × Addr × Value := (1, ⟨g131, 3, none⟩, (iv (e1.W)))
       refine WC.cutN (T := Bool) (fun t => [(0, e4), e3, e6, e12, e7, e28, (18, (pt g131)), (83, e4), e5, e21, (101, (bv t))]) (fun t w1 => St NoS w w1 e23 [rowO 85 enc_A16_Int A35 c36 x37, rowO 3 encInt A106 c107 l108, blk g131 (.cells e10 32 (0, 0))] ∧ x136 = t) (fun Kx136 => ?_) ?_
       ·
        rcases br_some hx137 with ⟨h138, hx137⟩ | ⟨h138, hx137⟩
        ·
         obtain ⟨h141, hx137⟩ := as_some hx137
         refine WC.regionD ([e20, (9, ⟨g131, 1, none⟩, e27)], [0, 1, 2, 3, 4, 5, 6, 7, 8, 9, 11], e9) [[0, 1, 2, 3, 4, 5, 6, 7, 8, 9, 10, 11]] (by kernel_rfl) (by kernel_rfl) (NoPanic.seq (NoPanic.block (NoPanic.seq (NoPanic.seq (NoPanic.block (NoPanic.block (NoPanic.seq (NoPanic.seq (NoPanic.block (NoPanic.seq (NoPanic.body))))))))))) ?_
         have hS140 := hS135.drew
         revert hS140
         generalize World.drew w134 = w139
         intro hS140
         refine ⟨⟨hS140.cell 0 rfl 3 rfl, hS140.cell 0 rfl 1 rfl, trivial⟩, forallC ?_ (forallN)⟩
         refine segF 5 [.v (iv (e1.W))] [0, 10, 14, 15, 16, 17, 18, 83, 84, 85, 94] e15 [] [0] [e20] (fun fb => by kernel_rfl) rfl trivial rfl ?_
         refine WL.setB 94 h138 rfl ?_
         refine segF 10 [.v e27] [0, 10, 14, 15, 16, 17, 18, 83, 84, 85, 94, 97, 99] [(0, e4), e3, e6, e12, e7, e28, (18, (pt g131)), (83, e4), e5, e21, (94, (bv true)), (97, (.pointer (some ((adr A35).add ((x110).toNat * 16))))), (99, e27)] [.idx A35 x110 x37.length] [1] [(9, ⟨g131, 1, none⟩, e27)] (fun fb => by kernel_rfl) rfl ⟨rowR.adr (rowO.rd (hS140.own 1).1) h141.1 h141.2, trivial⟩ rfl ?_
         obtain ⟨t142, ht143, hx137⟩ := bind_some hx137
         refine WL.call (some 100) 35 #[(.pointer (some ((adr A35).add ((x110).toNat * 16)))), e27] (fun fb => by kernel_rfl) (strip_colours_has_el_calls x37 x110 (e1.E) A35 c36 t142 _ (hS140.ow 1).ofO ht143) (fun v w144 hR145 => ?_)
         obtain ⟨rfl, hk_⟩ := hR145
         have hS146 := hS140.keepN hk_
         refine ⟨trivial, ?_⟩
         refine seg 12 [] e14 [(0, e4), e3, e6, e12, e7, e28, (18, (pt g131)), (83, e4), e5, e21, (101, (bv t142))] [] (fun fb => by kernel_rfl) rfl trivial ?_
         refine WL.done rfl ?_
         injection hx137 with hx137
         exact WX.to Kx136 t142 e14 rfl ⟨(hS146.subR [0]).sub [1, 2, 0] (by decide), hx137.symm⟩
        refine WC.regionD ([e20], [0, 1, 2, 3, 4, 5, 6, 7, 8, 9, 11], e9) [[0, 1, 2, 3, 4, 5, 6, 7, 8, 9, 10, 11]] (by kernel_rfl) (by kernel_rfl) (NoPanic.seq (NoPanic.block (NoPanic.seq (NoPanic.seq (NoPanic.block (NoPanic.block (NoPanic.seq (NoPanic.seq (NoPanic.block (NoPanic.seq (NoPanic.body))))))))))) ?_
        have hS148 := hS135.drew
        revert hS148
        generalize World.drew w134 = w147
        intro hS148
        refine ⟨⟨hS148.cell 0 rfl 3 rfl, trivial⟩, forallC ?_ (forallN)⟩
        refine segF 5 [.v (iv (e1.W))] [0, 10, 14, 15, 16, 17, 18, 83, 84, 85, 94] e15 [] [0] [e20] (fun fb => by kernel_rfl) rfl trivial rfl ?_
        refine WL.setB 94 h138 rfl ?_
        refine seg 12 [] e14 [(0, e4), e3, e6, e12, e7, e28, (18, (pt g131)), (83, e4), e5, e21, (101, (bv false))] [] (fun fb => by kernel_rfl) rfl trivial ?_
        refine WL.done rfl ?_
        injection hx137 with hx137
        exact WX.to Kx136 false e14 rfl ⟨(hS148.subR [0]).sub [1, 2, 0] (by decide), hx137.symm⟩
       rintro y152 w149 ⟨hS150, hq151⟩
       subst hq151
       refine WX.next ?_
       rcases br_some hl128 with ⟨h153, hl128⟩ | ⟨h153, hl128⟩
       ·refine WC.condT2 (fun fb => by kernel_rfl) h153 ?_
        refine WC.seq (WC.region ?_)
        refine seg 2 [] [0, 10, 16, 18, 102, 103] [(0, e4), e3, e7, (18, (pt g131)), (102, (sv A106 l108 c107)), (103, (iv x120))] [] (fun fb => by kernel_rfl) rfl trivial ?_
        refine WL.new hS150 104 [] (fun g => (.slice (some ⟨g, 0, none⟩) 1 1)) (.cells #[(iv x120)] 3 (0, 0)) [] (fun fb g => by kernel_rfl) trivial (fun g154 w155 hS156 => ?_)
        refine ⟨trivial, ?_⟩
        have hS157 := hS30.go w155 [rowO 3 encInt (some ⟨g154, 0, none⟩) 1 [x120], rowO 85 enc_A16_Int A35 c36 x37, rowO 3 encInt A106 c107 l108, blk g131 (.cells e10 32 (0, 0))] (hS156.map1 0 _ (fun h => rowO.ofBlk h rfl (Nat.le_of_ble_eq_true (by kernel_rfl))) (fun _ h => by obtain ⟨_, h1, h2⟩ := h; injection h1 with h1; subst h1; exact h2) [1, 2, 3] (by decide) (by decide))
        obtain ⟨h158, hl128⟩ := as_some hl128
        refine WL.append hS157 2 (d := 105) (tS := 35) (z := (iv 0)) (bytes := 8) (c2 := 1) rfl (fun fb => by kernel_rfl) (rowO.rd (hS157.own 0).1) (by kernel_rfl) (by kernel_rfl) rfl (by decide) h158 (by decide) [0, 1, 3] (by decide) (by decide) (fun A159 c160 w161 hS162 => ?_)
        refine ⟨trivial, ?_⟩
        refine seg 5 [] [0, 10, 14, 16, 18] [(0, e4), e3, (14, (sv A159 (l108 ++ [x120]) c160)), e7, (18, (pt g131))] [] (fun fb => by kernel_rfl) rfl trivial ?_
        refine WL.done rfl (WX.next (WC.seq (WC.region ?_)))
        refine seg 3 [.v e27] e26 [(0, e4), e3, (14, (sv A159 (l108 ++ [x120]) c160)), (15, e27), e7] [.cell ⟨g131, 1, none⟩ e27] (fun fb => by kernel_rfl) rfl ⟨hS162.cell 3 rfl 1 rfl, trivial⟩ ?_
        refine WL.done rfl (WX.next ?_)
        refine WC.exit ?_
        injection hl128 with hl128
        exact WX.blockPast (by decide) (WX.thenX (WX.thenX (WX.blockHere (WX.to Kx123 ((l108 ++ [x120], e1.E), A159, c160) e26 rfl ⟨(hS162.subR [0]).sub [2, 0] (by decide), hl128.symm⟩))))
       refine WC.condF2 (fun fb => by kernel_rfl) h153 ?_
       refine WC.skip ?_
       refine WX.blockN (WX.next ?_)
       refine WC.region ?_
       refine seg 2 [] e24 [(0, e4), e3, e6, e12, e7, (83, e4), e5, (85, (iv (w64 (x120 + 1))))] [] (fun fb => by kernel_rfl) rfl trivial ?_
       refine WL.done rfl ?_
       exact WX.again k125 (Nat.lt_succ_self _) (w64 (x120 + 1)) e24 rfl ⟨(hS150.subR [0]).sub [0, 1] (by decide), hl128⟩
      refine WC.condF2 (fun fb => by kernel_rfl) h129 ?_
      refine WC.exit ?_
      injection hl128 with hl128
      exact WX.thenX (WX.thenX (WX.blockHere (WX.to Kx123 ((l108, x109), A106, c107) e26 rfl ⟨(hS127.subR [0]).sub [0, 1] (by decide), hl128.symm⟩)))
    rintro ⟨y166, A121, c122⟩ w163 ⟨hS164, hq165⟩
    subst hq165
    refine WX.blockN (WX.next ?_)
    refine WC.region ?_
    refine seg 3 [] e26 [(0, e4), e3, (14, (sv A121 x123.1 c122)), (15, (iv x123.2)), (16, (iv (w64 (x110 - 1))))] [] (fun fb => by kernel_rfl) rfl trivial ?_
    refine WL.done rfl ?_
    exact WX.again k115 (Nat.lt_succ_self _) ((x123.1, x123.2, w64 (x110 - 1)), A121, c122) e26 rfl ⟨(hS164.subR [0]).sub [0, 1] (by decide), hl118⟩
   refine WC.condF2 (fun fb => by kernel_rfl) h119 ?_
   refine WC.exit ?_
   injection hl118 with hl118
   exact WX.thenX (WX.thenX (WX.blockHere (WX.to Kx113 (l108, A106, c107) [14] rfl ⟨(hS117.subR [0]).sub [1] (by decide), hl118.symm⟩)))
 rintro ⟨y170, A111, c112⟩ w167 ⟨hS168, hq169⟩
 subst hq169
 refine WX.next (WC.seq (WC.region ?_))
 refine seg 3 [] [8, 9] [(8, (sv A111 x113 c112)), (9, (iv 0))] [] (fun fb => by kernel_rfl) rfl trivial ?_
 refine WL.done rfl (WX.next ?_)
 refine WC.ret ?_
 injection hf with hf
 subst hf
 exact WX.ret_ [] (.tuple #[(sv A111 x113 c112), (iv 0)]) [] (fun fb => by kernel_rfl) trivial ⟨_, rfl, A111, c112, rfl, (hS168.sub [0] (by decide)).noR⟩
end Gp
