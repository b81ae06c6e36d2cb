/- Walks: each function of the program computes its plain function. -/
import Derived.Test.YtchikbfmbfoaoaaDoorGx2
set_option linter.unusedVariables false
set_option linter.unusedSimpArgs false
set_option maxHeartbeats 4000000
set_option maxRecDepth 8000
namespace Gp
open Go Gw Go.Proofs
theorem law04_StripCore_calls (k : Nat) (p0 : List Tile) (p1 : Pattern) (Aa : Option Addr) (ca : Nat) (Ab : Option Addr) (cb : Nat) (mG : Glo) (r : Bool) (w : World) (hR0 : RO NoS w (rowR enc_Tile Aa ca p0)) (hR1 : RO NoS w (rowR encInt Ab cb p1.Cells)) (hR2 : RO NoS w (gloO Tryd.prog 2 5 0 1 mG)) (hf : law04_StripCore k p0 p1 = some r) :
  CallsR Tryd.prog 6 #[(sv Aa p0 ca), (.agg #[(iv p1.Width), (iv p1.Height), (sv Ab p1.Cells cb)])] w (fun v w' => v = (bv r) ∧ Keeps NoS w w') := by
 have hS : St NoS w w [rowR enc_Tile Aa ca p0, rowR encInt Ab cb p1.Cells, gloO Tryd.prog 2 5 0 1 mG] [] := St.init (ro_cons hR0 (ro_cons hR1 (ro_cons hR2 (ro_nil _ _))))
 refine enter 176 Tryd.func6 rfl Tryd.ntmps6 rfl ?_
 unfold law04_StripCore at hf
 refine WC.seq (WC.region ?_)
 refine WL.new hS 3 [] (fun g => (pt g)) (.cells #[(iv p1.Width), (iv p1.Height), (sv Ab p1.Cells cb)] 47 (0, 0)) [] (fun fb g => by kernel_rfl) trivial (fun g1 w2 hS3 => ?_)
 refine ⟨trivial, ?_⟩
 refine seg 2 [] [0, 3] [(0, (sv Aa p0 ca)), (3, (pt g1))] [] (fun fb => by kernel_rfl) rfl trivial ?_
 refine WL.done rfl (WX.next (WC.seq (WC.seq (WC.region ?_))))
 refine seg 4 [] [0, 3, 18] [(0, (sv Aa p0 ca)), (3, (pt g1)), (18, (bv (decide ((p0.length : Int) > 60))))] [] (fun fb => by kernel_rfl) rfl trivial ?_
 obtain ⟨x5, hx7, hf⟩ := bind_some hf
 refine WL.cutW (T := Bool) 8 (fun t => [(0, (sv Aa p0 ca)), (3, (pt g1)), (22, (bv t))]) (fun t w1 => (St NoS w w1 [rowR enc_Tile Aa ca p0, rowR encInt Ab cb p1.Cells, gloO Tryd.prog 2 5 0 1 mG] [blk g1 (.cells #[(iv p1.Width), (iv p1.Height), (sv Ab p1.Cells cb)] 47 (0, 0))] ∧ x5 = t) ∧ CellsOK [] w1) (fun K => ?_) ?_
 ·
  rcases br_some hx7 with ⟨h8, hx7⟩ | ⟨h8, hx7⟩
  ·
   refine WL.setB 18 h8 rfl ?_
   refine seg 8 [] [0, 3, 22] [(0, (sv Aa p0 ca)), (3, (pt g1)), (22, (bv true))] [] (fun fb => by kernel_rfl) rfl trivial ?_
   injection hx7 with hx7
   exact WL.to K true [0, 3, 22] rfl ⟨⟨(hS3.subR [0, 1, 2]).sub [0] (by decide), hx7.symm⟩, trivial⟩
  refine WL.setB 18 h8 rfl ?_
  refine seg 5 [] [0, 3, 18, 19] [(0, (sv Aa p0 ca)), (3, (pt g1)), (18, (bv false)), (19, (sv Aa p0 ca))] [] (fun fb => by kernel_rfl) rfl trivial ?_
  obtain ⟨t9, ht10, hx7⟩ := bind_some hx7
  refine WL.call (some 20) 8 #[(sv Aa p0 ca)] (fun fb => by kernel_rfl) (ref01_Valid_calls _ p0 Aa ca t9 _ (hS3.rd 0) ht10) (fun v w11 hR12 => ?_)
  obtain ⟨rfl, hk_⟩ := hR12
  have hS13 := hS3.keepN hk_
  refine ⟨trivial, ?_⟩
  refine seg 8 [] [0, 3, 22] [(0, (sv Aa p0 ca)), (3, (pt g1)), (22, (bv (!t9)))] [] (fun fb => by kernel_rfl) rfl trivial ?_
  injection hx7 with hx7
  exact WL.to K (!t9) [0, 3, 22] rfl ⟨⟨(hS13.subR [0, 1, 2]).sub [0] (by decide), hx7.symm⟩, trivial⟩
 rintro y14 w16 ⟨⟨hS17, hq15⟩, hF18⟩
 subst hq15
 refine seg 9 [] [0, 3, 23] [(0, (sv Aa p0 ca)), (3, (pt g1)), (23, (bv x5))] [] (fun fb => by kernel_rfl) rfl trivial ?_
 refine WL.cutV (T := Bool) 14 (fun t => [(28, (bv t)), (0, (sv Aa p0 ca)), (3, (pt g1))]) (fun t => (x5 || (decide ((p1.Cells.length : Int) > 40000))) = t) (fun K => ?_) ?_
 ·
  rcases Bool.eq_false_or_eq_true x5 with h19 | h19
  ·
   refine WL.setB 23 h19 rfl ?_
   refine seg 14 [] [0, 3, 28] [(0, (sv Aa p0 ca)), (3, (pt g1)), (28, (bv true))] [] (fun fb => by kernel_rfl) rfl trivial ?_
   exact WL.toV K true [28, 0, 3] rfl (by first | (rw [h19]; done) | (rw [h19]; rfl))
  refine WL.setB 23 h19 rfl ?_
  refine seg 14 [.v (sv Ab p1.Cells cb)] [0, 3, 28] [(0, (sv Aa p0 ca)), (3, (pt g1)), (28, (bv (decide ((p1.Cells.length : Int) > 40000))))] [.cell ⟨g1, 2, none⟩ (sv Ab p1.Cells cb)] (fun fb => by kernel_rfl) rfl ⟨hS17.cell 0 rfl 2 rfl, trivial⟩ ?_
  exact WL.toV K (decide ((p1.Cells.length : Int) > 40000)) [28, 0, 3] rfl (by first | (rw [h19]; done) | (rw [h19]; rfl))
 rintro b20 rfl
 refine WL.done rfl (WX.next ?_)
 rcases br_some hf with ⟨h21, hf⟩ | ⟨h21, hf⟩
 ·refine WC.condT2 (fun fb => by kernel_rfl) h21 ?_
  refine WC.seq (WC.region ?_)
  obtain ⟨t22, ht23, hf⟩ := bind_some hf
  refine WL.call (some 29) 9 #[] (fun fb => by kernel_rfl) (law04_awake_calls _ mG t22 _ (hS17.rd 2) ht23) (fun v w24 hR25 => ?_)
  obtain ⟨rfl, hk_⟩ := hR25
  have hS26 := hS17.keepN hk_
  refine ⟨trivial, ?_⟩
  refine seg 2 [] [4] [(4, (bv t22))] [] (fun fb => by kernel_rfl) rfl trivial ?_
  refine WL.done rfl (WX.next ?_)
  refine WC.ret ?_
  injection hf with hf
  subst hf
  exact WX.thenR (WX.ret_ [] (bv t22) [] (fun fb => by kernel_rfl) trivial ⟨_, rfl, rfl, hS26.keep⟩)
 refine WC.condF2 (fun fb => by kernel_rfl) h21 ?_
 refine WC.skip (WX.next (WC.seq (WC.region ?_)))
 refine seg 1 [] [0, 3, 31] [(0, (sv Aa p0 ca)), (3, (pt g1)), (31, (sv Aa p0 ca))] [] (fun fb => by kernel_rfl) rfl trivial ?_
 obtain ⟨t27, ht28, hf⟩ := bind_some hf
 refine WL.call (some 32) 10 #[(sv Aa p0 ca)] (fun fb => by kernel_rfl) (strip_Core_calls _ p0 Aa ca t27 _ (hS17.rd 0) ht28) (fun v w29 hR30 => ?_)
 obtain ⟨A32, c33, rfl, hk_⟩ := hR30
 have hS31 := hS.go w29 [rowO 3 encInt A32 c33 t27.1, blk g1 (.cells #[(iv p1.Width), (iv p1.Height), (.slice Ab p1.Cells.length cb)] 47 (0, 0))] (hS17.call hk_ [] [0] (fun g hg => hg.elim) (by simp) (by decide))
 refine ⟨trivial, ?_⟩
 refine seg 7 [] [0, 3, 5, 6] [(0, (sv Aa p0 ca)), (3, (pt g1)), (5, (sv A32 t27.1 c33)), (6, (iv t27.2))] [] (fun fb => by kernel_rfl) rfl trivial ?_
 refine WL.done rfl (WX.next (WC.seq (WC.region ?_)))
 refine seg 2 [] [0, 3, 6, 36, 37] [(0, (sv Aa p0 ca)), (3, (pt g1)), (6, (iv t27.2)), (36, (sv Aa p0 ca)), (37, (sv A32 t27.1 c33))] [] (fun fb => by kernel_rfl) rfl trivial ?_
 obtain ⟨t34, ht35, hf⟩ := bind_some hf
 refine WL.call (some 38) 21 #[(sv Aa p0 ca), (sv A32 t27.1 c33)] (fun fb => by kernel_rfl) (law04_part_calls _ p0 t27.1 Aa ca A32 c33 t34 _ (hS31.rd 0) (hS31.ow 0).ofO ht35) (fun v w36 hR37 => ?_)
 obtain ⟨A39, c40, rfl, hk_⟩ := hR37
 have hS38 := hS31.go w36 [rowO 53 enc_Tile A39 c40 t34.1, rowO 3 encInt A32 c33 t27.1, blk g1 (.cells #[(iv p1.Width), (iv p1.Height), (.slice Ab p1.Cells.length cb)] 47 (0, 0))] (hS31.call hk_ [] [0, 1] (fun g hg => hg.elim) (by simp) (by decide))
 refine ⟨trivial, ?_⟩
 refine seg 8 [] [0, 3, 6, 7, 8] [(0, (sv Aa p0 ca)), (3, (pt g1)), (6, (iv t27.2)), (7, (sv A39 t34.1 c40)), (8, (bv t34.2))] [] (fun fb => by kernel_rfl) rfl trivial ?_
 refine WL.done rfl (WX.next (WC.seq (WC.seq (WC.region ?_))))
 refine seg 3 [] [0, 3, 7, 8, 43] [(0, (sv Aa p0 ca)), (3, (pt g1)), (7, (sv A39 t34.1 c40)), (8, (bv t34.2)), (43, (bv (t27.2 != 0)))] [] (fun fb => by kernel_rfl) rfl trivial ?_
 refine WL.cutV (T := Bool) 6 (fun t => [(46, (bv t)), (0, (sv Aa p0 ca)), (3, (pt g1)), (7, (sv A39 t34.1 c40))]) (fun t => ((t27.2 != 0) || (!t34.2)) = t) (fun K => ?_) ?_
 ·
  rcases Bool.eq_false_or_eq_true (t27.2 != 0) with h41 | h41
  ·
   refine WL.setB 43 h41 rfl ?_
   refine seg 6 [] [0, 3, 7, 46] [(0, (sv Aa p0 ca)), (3, (pt g1)), (7, (sv A39 t34.1 c40)), (46, (bv true))] [] (fun fb => by kernel_rfl) rfl trivial ?_
   exact WL.toV K true [46, 0, 3, 7] rfl (by first | (rw [h41]; done) | (rw [h41]; rfl))
  refine WL.setB 43 h41 rfl ?_
  refine seg 6 [] [0, 3, 7, 46] [(0, (sv Aa p0 ca)), (3, (pt g1)), (7, (sv A39 t34.1 c40)), (46, (bv (!t34.2)))] [] (fun fb => by kernel_rfl) rfl trivial ?_
  exact WL.toV K (!t34.2) [46, 0, 3, 7] rfl (by first | (rw [h41]; done) | (rw [h41]; rfl))
 rintro b42 rfl
 refine seg 7 [] [0, 3, 7, 47] [(0, (sv Aa p0 ca)), (3, (pt g1)), (7, (sv A39 t34.1 c40)), (47, (bv ((t27.2 != 0) || (!t34.2))))] [] (fun fb => by kernel_rfl) rfl trivial ?_
 obtain ⟨x43, hx44, hf⟩ := bind_some hf
 refine WL.cutW (T := Bool) 11 (fun t => [(0, (sv Aa p0 ca)), (3, (pt g1)), (7, (sv A39 t34.1 c40)), (51, (bv t))]) (fun t w1 => (St NoS w w1 [rowR enc_Tile Aa ca p0, rowR encInt Ab cb p1.Cells, gloO Tryd.prog 2 5 0 1 mG] [blk g1 (.cells #[(iv p1.Width), (iv p1.Height), (sv Ab p1.Cells cb)] 47 (0, 0)), rowO 53 enc_Tile A39 c40 t34.1] ∧ x43 = t) ∧ CellsOK [] w1) (fun K => ?_) ?_
 ·
  rcases br_some hx44 with ⟨h45, hx44⟩ | ⟨h45, hx44⟩
  ·
   refine WL.setB 47 h45 rfl ?_
   refine seg 11 [] [0, 3, 7, 51] [(0, (sv Aa p0 ca)), (3, (pt g1)), (7, (sv A39 t34.1 c40)), (51, (bv true))] [] (fun fb => by kernel_rfl) rfl trivial ?_
   injection hx44 with hx44
   exact WL.to K true [0, 3, 7, 51] rfl ⟨⟨(hS38.subR [0, 1, 2]).sub [2, 0] (by decide), hx44.symm⟩, trivial⟩
  refine WL.setB 47 h45 rfl ?_
  refine seg 8 [] [0, 3, 7, 47, 48] [(0, (sv Aa p0 ca)), (3, (pt g1)), (7, (sv A39 t34.1 c40)), (47, (bv false)), (48, (sv A39 t34.1 c40))] [] (fun fb => by kernel_rfl) rfl trivial ?_
  obtain ⟨t46, ht47, hx44⟩ := bind_some hx44
  refine WL.call (some 49) 8 #[(sv A39 t34.1 c40)] (fun fb => by kernel_rfl) (ref01_Valid_calls _ t34.1 A39 c40 t46 _ (hS38.ow 0).ofO ht47) (fun v w48 hR49 => ?_)
  obtain ⟨rfl, hk_⟩ := hR49
  have hS50 := hS38.keepN hk_
  refine ⟨trivial, ?_⟩
  refine seg 11 [] [0, 3, 7, 51] [(0, (sv Aa p0 ca)), (3, (pt g1)), (7, (sv A39 t34.1 c40)), (51, (bv (!t46)))] [] (fun fb => by kernel_rfl) rfl trivial ?_
  injection hx44 with hx44
  exact WL.to K (!t46) [0, 3, 7, 51] rfl ⟨⟨(hS50.subR [0, 1, 2]).sub [2, 0] (by decide), hx44.symm⟩, trivial⟩
 rintro y51 w53 ⟨⟨hS54, hq52⟩, hF55⟩
 subst hq52
 refine WL.done rfl (WX.next ?_)
 rcases br_some hf with ⟨h56, hf⟩ | ⟨h56, hf⟩
 ·refine WC.condT2 (fun fb => by kernel_rfl) h56 ?_
  refine WC.seq (WC.region ?_)
  refine seg 1 [] [4] [(4, (bv false))] [] (fun fb => by kernel_rfl) rfl trivial ?_
  refine WL.done rfl (WX.next ?_)
  refine WC.ret ?_
  injection hf with hf
  subst hf
  exact WX.thenR (WX.ret_ [] (bv false) [] (fun fb => by kernel_rfl) trivial ⟨_, rfl, rfl, hS54.keep⟩)
 refine WC.condF2 (fun fb => by kernel_rfl) h56 ?_
 refine WC.skip (WX.next (WC.seq (WC.region ?_)))
 refine seg 1 [] [0, 3, 7, 53] [(0, (sv Aa p0 ca)), (3, (pt g1)), (7, (sv A39 t34.1 c40)), (53, (sv A39 t34.1 c40))] [] (fun fb => by kernel_rfl) rfl trivial ?_
 obtain ⟨t57, ht58, hf⟩ := bind_some hf
 refine WL.call (some 54) 10 #[(sv A39 t34.1 c40)] (fun fb => by kernel_rfl) (strip_Core_calls _ t34.1 A39 c40 t57 _ (hS54.ow 1).ofO ht58) (fun v w59 hR60 => ?_)
 obtain ⟨A62, c63, rfl, hk_⟩ := hR60
 have hS61 := hS38.go w59 [rowO 3 encInt A62 c63 t57.1, blk g1 (.cells #[(iv p1.Width), (iv p1.Height), (.slice Ab p1.Cells.length cb)] 47 (0, 0)), rowO 53 enc_Tile A39 c40 t34.1] (hS54.call hk_ [] [0, 1] (fun g hg => hg.elim) (by simp) (by decide))
 refine ⟨trivial, ?_⟩
 refine seg 7 [] [0, 3, 7, 9, 10] [(0, (sv Aa p0 ca)), (3, (pt g1)), (7, (sv A39 t34.1 c40)), (9, (sv A62 t57.1 c63)), (10, (iv t57.2))] [] (fun fb => by kernel_rfl) rfl trivial ?_
 refine WL.done rfl (WX.next (WC.seq (WC.seq (WC.region ?_))))
 refine seg 3 [] [0, 3, 7, 9, 59] [(0, (sv Aa p0 ca)), (3, (pt g1)), (7, (sv A39 t34.1 c40)), (9, (sv A62 t57.1 c63)), (59, (bv (t57.2 != 0)))] [] (fun fb => by kernel_rfl) rfl trivial ?_
 refine WL.cutV (T := Bool) 9 (fun t => [(65, (bv t)), (0, (sv Aa p0 ca)), (3, (pt g1)), (7, (sv A39 t34.1 c40))]) (fun t => ((t57.2 != 0) || ((t57.1.length : Int) != (t34.1.length : Int))) = t) (fun K => ?_) ?_
 ·
  rcases Bool.eq_false_or_eq_true (t57.2 != 0) with h65 | h65
  ·
   refine WL.setB 59 h65 rfl ?_
   refine seg 9 [] [0, 3, 7, 65] [(0, (sv Aa p0 ca)), (3, (pt g1)), (7, (sv A39 t34.1 c40)), (65, (bv true))] [] (fun fb => by kernel_rfl) rfl trivial ?_
   exact WL.toV K true [65, 0, 3, 7] rfl (by first | (rw [h65]; done) | (rw [h65]; rfl))
  refine WL.setB 59 h65 rfl ?_
  refine seg 9 [] [0, 3, 7, 65] [(0, (sv Aa p0 ca)), (3, (pt g1)), (7, (sv A39 t34.1 c40)), (65, (bv ((t57.1.length : Int) != (t34.1.length : Int))))] [] (fun fb => by kernel_rfl) rfl trivial ?_
  exact WL.toV K ((t57.1.length : Int) != (t34.1.length : Int)) [65, 0, 3, 7] rfl (by first | (rw [h65]; done) | (rw [h65]; rfl))
 rintro b66 rfl
 refine WL.done rfl (WX.next ?_)
 rcases br_some hf with ⟨h67, hf⟩ | ⟨h67, hf⟩
 ·refine WC.condT2 (fun fb => by kernel_rfl) h67 ?_
  refine WC.seq (WC.region ?_)
  refine seg 1 [] [4] [(4, (bv false))] [] (fun fb => by kernel_rfl) rfl trivial ?_
  refine WL.done rfl (WX.next ?_)
  refine WC.ret ?_
  injection hf with hf
  subst hf
  exact WX.thenR (WX.ret_ [] (bv false) [] (fun fb => by kernel_rfl) trivial ⟨_, rfl, rfl, hS61.keep⟩)
 refine WC.condF2 (fun fb => by kernel_rfl) h67 ?_
 refine WC.skip (WX.next (WC.seq (WC.seq (WC.region ?_))))
 refine seg 1 [] [0, 3, 7, 11] [(0, (sv Aa p0 ca)), (3, (pt g1)), (7, (sv A39 t34.1 c40)), (11, (iv 0))] [] (fun fb => by kernel_rfl) rfl trivial ?_
 refine WL.done rfl (WX.next ?_)
 obtain ⟨x69, hx70, hf⟩ := bind_some hf
 refine WC.cutN (T := Unit) (fun t => [(0, (sv Aa p0 ca)), (3, (pt g1)), (7, (sv A39 t34.1 c40))]) (fun t w1 => St NoS w w1 [rowR enc_Tile Aa ca p0, rowR encInt Ab cb p1.Cells, gloO Tryd.prog 2 5 0 1 mG] [blk g1 (.cells #[(iv p1.Width), (iv p1.Height), (sv Ab p1.Cells cb)] 47 (0, 0)), rowO 53 enc_Tile A39 c40 t34.1] ∧ x69 = .inr t) (fun Kx69 => ?_) ?_
 ·
  refine WC.block ?_
  refine WC.loop (T := Int) (fun t => [(0, (sv Aa p0 ca)), (3, (pt g1)), (7, (sv A39 t34.1 c40)), (11, (iv t))]) (fun n t w1 => St NoS w w1 [rowR enc_Tile Aa ca p0, rowR encInt Ab cb p1.Cells, gloO Tryd.prog 2 5 0 1 mG] [blk g1 (.cells #[(iv p1.Width), (iv p1.Height), (sv Ab p1.Cells cb)] 47 (0, 0)), rowO 53 enc_Tile A39 c40 t34.1] ∧ law04_StripCore.l0 n t t34 = some x69) k 0 [0, 3, 7, 11] rfl ⟨(hS61.subR [0, 1, 2]).sub [1, 2] (by decide), hx70⟩ ?_
  rintro k71 x68 w72 ⟨hS73, hl74⟩
  cases k71 with
  | zero => rw [law04_StripCore.l0] at hl74; cases hl74
  | succ k71 =>
   rw [law04_StripCore.l0] at hl74
   refine WC.seq (WC.seq (WC.region ?_))
   refine seg 4 [] [0, 3, 7, 11, 69] [(0, (sv Aa p0 ca)), (3, (pt g1)), (7, (sv A39 t34.1 c40)), (11, (iv x68)), (69, (bv (decide (x68 < (t34.1.length : Int)))))] [] (fun fb => by kernel_rfl) rfl trivial ?_
   refine WL.done rfl (WX.next ?_)
   rcases br_some hl74 with ⟨h75, hl74⟩ | ⟨h75, hl74⟩
   ·refine WC.condT2 (fun fb => by kernel_rfl) h75 ?_
    refine WC.skip (WX.next (WC.seq (WC.block (WC.seq (WC.region ?_)))))
    refine WL.new hS73 12 [] (fun g => (pt g)) (.cells #[(bv false), (bv false), (bv false), (bv false)] 50 (0, 0)) [] (fun fb g => by kernel_rfl) trivial (fun g76 w77 hS78 => ?_)
    refine ⟨trivial, ?_⟩
    refine WL.done rfl (WX.next (WC.seq (WC.seq (WC.region ?_))))
    refine seg 1 [] [0, 3, 7, 11, 12, 13] [(0, (sv Aa p0 ca)), (3, (pt g1)), (7, (sv A39 t34.1 c40)), (11, (iv x68)), (12, (pt g76)), (13, (iv 0))] [] (fun fb => by kernel_rfl) rfl trivial ?_
    refine WL.done rfl (WX.next ?_)
    obtain ⟨x84, hx85, hl74⟩ := bind_some hl74
    refine WC.cutN (T := Bool × Bool × Bool × Bool) (fun t => [(0, (sv Aa p0 ca)), (3, (pt g1)), (7, (sv A39 t34.1 c40)), (11, (iv x68)), (12, (pt g76))]) (fun t w1 => St NoS w w1 [rowR enc_Tile Aa ca p0, rowR encInt Ab cb p1.Cells, gloO Tryd.prog 2 5 0 1 mG] [blk g1 (.cells #[(iv p1.Width), (iv p1.Height), (sv Ab p1.Cells cb)] 47 (0, 0)), rowO 53 enc_Tile A39 c40 t34.1, blk g76 (.cells #[(bv t.1), (bv t.2.1), (bv t.2.2.1), (bv t.2.2.2)] 50 (0, 0))] ∧ x84 = t) (fun Kx84 => ?_) ?_
    ·
     refine WC.block ?_
     refine WC.loop (T := Bool × Bool × Bool × Bool × Int) (fun t => [(0, (sv Aa p0 ca)), (3, (pt g1)), (7, (sv A39 t34.1 c40)), (11, (iv x68)), (12, (pt g76)), (13, (iv t.2.2.2.2))]) (fun n t w1 => St NoS w w1 [rowR enc_Tile Aa ca p0, rowR encInt Ab cb p1.Cells, gloO Tryd.prog 2 5 0 1 mG] [blk g1 (.cells #[(iv p1.Width), (iv p1.Height), (sv Ab p1.Cells cb)] 47 (0, 0)), rowO 53 enc_Tile A39 c40 t34.1, blk g76 (.cells #[(bv t.1), (bv t.2.1), (bv t.2.2.1), (bv t.2.2.2.1)] 50 (0, 0))] ∧ law04_StripCore.l1 n t.1 t.2.1 t.2.2.1 t.2.2.2.1 t.2.2.2.2 t34 x68 = some x84) k71 (false, false, false, false, 0) [0, 3, 7, 11, 12, 13] rfl ⟨(hS78.subR [0, 1, 2]).sub [1, 2, 0] (by decide), hx85⟩ ?_
     rintro k86 ⟨b79, b80, b81, b82, x83⟩ w87 ⟨hS88, hl89⟩
     cases k86 with
     | zero => rw [law04_StripCore.l1] at hl89; cases hl89
     | succ k86 =>
      rw [law04_StripCore.l1] at hl89
      refine WC.seq (WC.seq (WC.region ?_))
      refine seg 4 [] [0, 3, 7, 11, 12, 13, 75] [(0, (sv Aa p0 ca)), (3, (pt g1)), (7, (sv A39 t34.1 c40)), (11, (iv x68)), (12, (pt g76)), (13, (iv x83)), (75, (bv (decide (x83 < (t34.1.length : Int)))))] [] (fun fb => by kernel_rfl) rfl trivial ?_
      refine WL.done rfl (WX.next ?_)
      rcases br_some hl89 with ⟨h90, hl89⟩ | ⟨h90, hl89⟩
      ·refine WC.condT2 (fun fb => by kernel_rfl) h90 ?_
       refine WC.skip (WX.next (WC.seq (WC.block (WC.seq ?_))))
       obtain ⟨x91, hx92, hl89⟩ := bind_some hl89
       refine WC.cutN (T := Bool × Bool) (fun t => [(0, (sv Aa p0 ca)), (3, (pt g1)), (7, (sv A39 t34.1 c40)), (11, (iv x68)), (12, (pt g76)), (13, (iv x83))]) (fun t w1 => St NoS w w1 [rowR enc_Tile Aa ca p0, rowR encInt Ab cb p1.Cells, gloO Tryd.prog 2 5 0 1 mG] [blk g1 (.cells #[(iv p1.Width), (iv p1.Height), (sv Ab p1.Cells cb)] 47 (0, 0)), rowO 53 enc_Tile A39 c40 t34.1, blk g76 (.cells #[(bv t.1), (bv t.2), (bv b81), (bv b82)] 50 (0, 0))] ∧ x91 = t) (fun Kx91 => ?_) ?_
       ·
        rcases br_some hx92 with ⟨h93, hx92⟩ | ⟨h93, hx92⟩
        ·
         rcases br_some hx92 with ⟨h94, hx92⟩ | ⟨h94, hx92⟩
         ·
          refine WC.regionD ([(1, ⟨g76, 0, none⟩, (bv b79)), (14, ⟨g76, 1, none⟩, (bv b80))], [0, 1, 2, 3, 4, 5, 6, 7, 8, 9, 10, 12, 13, 14, 15, 16, 17, 18, 20, 21, 22, 25, 26, 28], [[], [0], [0, 1], [0, 1, 2], [0, 1, 2], [0, 1, 2, 3, 4], [0, 1, 2, 3, 4, 5], [0, 1, 2], [0, 1, 2], [0, 1, 2, 7, 8], [0, 1, 2, 7, 8, 9], [0, 1, 2, 3, 4, 5, 6, 7, 8, 9, 10], [0, 1, 2, 3, 4, 5, 6, 7, 8, 9, 10, 11], [], [13], [0, 1, 2, 3, 4, 5, 6, 7, 8, 9, 10, 11, 13, 14], [0, 1, 2, 3, 4, 5, 6, 7, 8, 9, 10, 11, 13, 14, 15], [0, 1, 2, 3, 4, 5, 6, 7, 8, 9, 10, 11, 13, 14, 15], [0, 1, 2, 3, 4, 5, 6, 7, 8, 9, 10, 11, 13, 14, 15, 16, 17], [0, 1, 2, 3, 4, 5, 6, 7, 8, 9, 10, 11, 13, 14, 15, 16, 17, 18], [0, 1, 2, 3, 4, 5, 6, 7, 8, 9, 10, 11, 13, 14, 15], [0, 1, 2, 3, 4, 5, 6, 7, 8, 9, 10, 11, 13, 14, 15], [0, 1, 2, 3, 4, 5, 6, 7, 8, 9, 10, 11, 13, 14, 15, 20, 21], [0, 1, 2, 3, 4, 5, 6, 7, 8, 9, 10, 11, 13, 14, 15, 20, 21, 22], [0, 1, 2, 3, 4, 5, 6, 7, 8, 9, 10, 11, 13, 14, 15, 16, 17, 18, 19, 20, 21, 22, 23], [0, 1, 2, 3, 4, 5, 6, 7, 8, 9, 10, 11, 13, 14, 15, 16, 17, 18, 19, 20, 21, 22, 23, 24], [0, 1, 2, 3, 4, 5, 6, 7, 8, 9, 10, 11, 12, 13, 14], [0, 1, 2, 3, 4, 5, 6, 7, 8, 9, 10, 11, 12, 13, 14, 15, 16, 17, 18, 19, 20, 21, 22, 23, 24, 26], [0, 1, 2, 3, 4, 5, 6, 7, 8, 9, 10, 11, 12, 13, 14, 15, 16, 17, 18, 19, 20, 21, 22, 23, 24, 25, 26, 27], [0, 1, 2, 3, 4, 5, 6, 7, 8, 9, 10, 11, 12, 13, 14, 15, 16, 17, 18, 19, 20, 21, 22, 23, 24, 25, 26, 27, 28]]) [[0, 1, 2, 3, 4, 5, 6, 7, 8, 9, 10, 13, 14, 11, 12, 15, 16, 17, 18, 20, 21, 22, 26, 19, 23, 24, 25, 27, 28, 29], [0, 1, 2, 3, 4, 5, 6, 7, 8, 9, 10, 13, 14, 11, 12, 15, 16, 17, 18, 20, 21, 22, 26, 23, 19, 24, 25, 27, 28, 29]] (by kernel_rfl) (by kernel_rfl) (NoPanic.seq (NoPanic.block (NoPanic.seq (NoPanic.seq (NoPanic.block (NoPanic.seq (NoPanic.block (NoPanic.seq (NoPanic.seq (NoPanic.block (NoPanic.seq (NoPanic.body)))))))))))) ?_
          have hS96 := hS88.drew
          revert hS96
          generalize World.drew w87 = w95
          intro hS96
          refine ⟨⟨hS96.cell 2 rfl 0 rfl, hS96.cell 2 rfl 1 rfl, trivial⟩, forallC ?_ (forallC ?_ (forallN))⟩
          ·
           refine segF 3 [.v (bv b79)] [0, 3, 7, 11, 12, 13, 80] [(0, (sv Aa p0 ca)), (3, (pt g1)), (7, (sv A39 t34.1 c40)), (11, (iv x68)), (12, (pt g76)), (13, (iv x83)), (80, (bv b79))] [] [0] [(1, ⟨g76, 0, none⟩, (bv b79))] (fun fb => by kernel_rfl) rfl trivial rfl ?_
           refine WL.setB 80 h93 rfl ?_
           refine segF 16 [.v (bv b80)] [0, 3, 7, 11, 12, 13, 90, 93] [(0, (sv Aa p0 ca)), (3, (pt g1)), (7, (sv A39 t34.1 c40)), (11, (iv x68)), (12, (pt g76)), (13, (iv x83)), (90, (bv true)), (93, (bv b80))] [] [1] [(14, ⟨g76, 1, none⟩, (bv b80))] (fun fb => by kernel_rfl) rfl trivial rfl ?_
           refine WL.setB 93 h94 rfl ?_
           refine seg 27 [] [0, 3, 7, 11, 12, 13, 90, 103, 104] [(0, (sv Aa p0 ca)), (3, (pt g1)), (7, (sv A39 t34.1 c40)), (11, (iv x68)), (12, (pt g76)), (13, (iv x83)), (90, (bv true)), (103, (bv true)), (104, (pt g76))] [] (fun fb => by kernel_rfl) rfl trivial ?_
           refine WL.store hS96 2 rfl [(0, (bv true))] #[(bv true), (bv b80), (bv b81), (bv b82)] (fun fb => by kernel_rfl) (by kernel_rfl) rfl [0, 1] (by decide) (by decide) (fun w97 hS98 => ?_)
           refine ⟨trivial, ?_⟩
           refine seg 29 [] [0, 3, 7, 11, 12, 13, 103, 105] [(0, (sv Aa p0 ca)), (3, (pt g1)), (7, (sv A39 t34.1 c40)), (11, (iv x68)), (12, (pt g76)), (13, (iv x83)), (103, (bv true)), (105, (.pointer (some ⟨g76, 1, none⟩)))] [] (fun fb => by kernel_rfl) rfl trivial ?_
           refine WL.store hS98 0 rfl [(1, (bv true))] #[(bv true), (bv true), (bv b81), (bv b82)] (fun fb => by kernel_rfl) (by kernel_rfl) rfl [1, 2] (by decide) (by decide) (fun w99 hS100 => ?_)
           refine ⟨trivial, ?_⟩
           refine WL.done rfl ?_
           injection hx92 with hx92
           exact WX.to Kx91 (true, true) [0, 3, 7, 11, 12, 13] rfl ⟨(hS100.subR [0, 1, 2]).sub [1, 2, 0] (by decide), hx92.symm⟩
          refine segF 3 [.v (bv b79)] [0, 3, 7, 11, 12, 13, 80] [(0, (sv Aa p0 ca)), (3, (pt g1)), (7, (sv A39 t34.1 c40)), (11, (iv x68)), (12, (pt g76)), (13, (iv x83)), (80, (bv b79))] [] [0] [(1, ⟨g76, 0, none⟩, (bv b79))] (fun fb => by kernel_rfl) rfl trivial rfl ?_
          refine WL.setB 80 h93 rfl ?_
          refine segF 16 [.v (bv b80)] [0, 3, 7, 11, 12, 13, 90, 93] [(0, (sv Aa p0 ca)), (3, (pt g1)), (7, (sv A39 t34.1 c40)), (11, (iv x68)), (12, (pt g76)), (13, (iv x83)), (90, (bv true)), (93, (bv b80))] [] [1] [(14, ⟨g76, 1, none⟩, (bv b80))] (fun fb => by kernel_rfl) rfl trivial rfl ?_
          refine WL.setB 93 h94 rfl ?_
          refine seg 27 [] [0, 3, 7, 11, 12, 13, 90, 103, 104] [(0, (sv Aa p0 ca)), (3, (pt g1)), (7, (sv A39 t34.1 c40)), (11, (iv x68)), (12, (pt g76)), (13, (iv x83)), (90, (bv true)), (103, (bv true)), (104, (pt g76))] [] (fun fb => by kernel_rfl) rfl trivial ?_
          refine WL.store hS96 2 rfl [(0, (bv true))] #[(bv true), (bv b80), (bv b81), (bv b82)] (fun fb => by kernel_rfl) (by kernel_rfl) rfl [0, 1] (by decide) (by decide) (fun w101 hS102 => ?_)
          refine ⟨trivial, ?_⟩
          refine seg 29 [] [0, 3, 7, 11, 12, 13, 103, 105] [(0, (sv Aa p0 ca)), (3, (pt g1)), (7, (sv A39 t34.1 c40)), (11, (iv x68)), (12, (pt g76)), (13, (iv x83)), (103, (bv true)), (105, (.pointer (some ⟨g76, 1, none⟩)))] [] (fun fb => by kernel_rfl) rfl trivial ?_
          refine WL.store hS102 0 rfl [(1, (bv true))] #[(bv true), (bv true), (bv b81), (bv b82)] (fun fb => by kernel_rfl) (by kernel_rfl) rfl [1, 2] (by decide) (by decide) (fun w103 hS104 => ?_)
          refine ⟨trivial, ?_⟩
          refine WL.done rfl ?_
          injection hx92 with hx92
          exact WX.to Kx91 (true, true) [0, 3, 7, 11, 12, 13] rfl ⟨(hS104.subR [0, 1, 2]).sub [1, 2, 0] (by decide), hx92.symm⟩
         refine WC.regionD ([(1, ⟨g76, 0, none⟩, (bv b79)), (14, ⟨g76, 1, none⟩, (bv b80))], [0, 1, 2, 3, 4, 5, 6, 7, 8, 9, 10, 12, 13, 14, 15, 16, 17, 18, 20, 21, 22, 25, 26, 28], [[], [0], [0, 1], [0, 1, 2], [0, 1, 2], [0, 1, 2, 3, 4], [0, 1, 2, 3, 4, 5], [0, 1, 2], [0, 1, 2], [0, 1, 2, 7, 8], [0, 1, 2, 7, 8, 9], [0, 1, 2, 3, 4, 5, 6, 7, 8, 9, 10], [0, 1, 2, 3, 4, 5, 6, 7, 8, 9, 10, 11], [], [13], [0, 1, 2, 3, 4, 5, 6, 7, 8, 9, 10, 11, 13, 14], [0, 1, 2, 3, 4, 5, 6, 7, 8, 9, 10, 11, 13, 14, 15], [0, 1, 2, 3, 4, 5, 6, 7, 8, 9, 10, 11, 13, 14, 15], [0, 1, 2, 3, 4, 5, 6, 7, 8, 9, 10, 11, 13, 14, 15, 16, 17], [0, 1, 2, 3, 4, 5, 6, 7, 8, 9, 10, 11, 13, 14, 15, 16, 17, 18], [0, 1, 2, 3, 4, 5, 6, 7, 8, 9, 10, 11, 13, 14, 15], [0, 1, 2, 3, 4, 5, 6, 7, 8, 9, 10, 11, 13, 14, 15], [0, 1, 2, 3, 4, 5, 6, 7, 8, 9, 10, 11, 13, 14, 15, 20, 21], [0, 1, 2, 3, 4, 5, 6, 7, 8, 9, 10, 11, 13, 14, 15, 20, 21, 22], [0, 1, 2, 3, 4, 5, 6, 7, 8, 9, 10, 11, 13, 14, 15, 16, 17, 18, 19, 20, 21, 22, 23], [0, 1, 2, 3, 4, 5, 6, 7, 8, 9, 10, 11, 13, 14, 15, 16, 17, 18, 19, 20, 21, 22, 23, 24], [0, 1, 2, 3, 4, 5, 6, 7, 8, 9, 10, 11, 12, 13, 14], [0, 1, 2, 3, 4, 5, 6, 7, 8, 9, 10, 11, 12, 13, 14, 15, 16, 17, 18, 19, 20, 21, 22, 23, 24, 26], [0, 1, 2, 3, 4, 5, 6, 7, 8, 9, 10, 11, 12, 13, 14, 15, 16, 17, 18, 19, 20, 21, 22, 23, 24, 25, 26, 27], [0, 1, 2, 3, 4, 5, 6, 7, 8, 9, 10, 11, 12, 13, 14, 15, 16, 17, 18, 19, 20, 21, 22, 23, 24, 25, 26, 27, 28]]) [[0, 1, 2, 3, 4, 5, 6, 7, 8, 9, 10, 13, 14, 11, 12, 15, 16, 17, 18, 20, 21, 22, 26, 19, 23, 24, 25, 27, 28, 29], [0, 1, 2, 3, 4, 5, 6, 7, 8, 9, 10, 13, 14, 11, 12, 15, 16, 17, 18, 20, 21, 22, 26, 23, 19, 24, 25, 27, 28, 29]] (by kernel_rfl) (by kernel_rfl) (NoPanic.seq (NoPanic.block (NoPanic.seq (NoPanic.seq (NoPanic.block (NoPanic.seq (NoPanic.block (NoPanic.seq (NoPanic.seq (NoPanic.block (NoPanic.seq (NoPanic.body)))))))))))) ?_
         have hS106 := hS88.drew
         revert hS106
         generalize World.drew w87 = w105
         intro hS106
         refine ⟨⟨hS106.cell 2 rfl 0 rfl, hS106.cell 2 rfl 1 rfl, trivial⟩, forallC ?_ (forallC ?_ (forallN))⟩
         ·
          refine segF 3 [.v (bv b79)] [0, 3, 7, 11, 12, 13, 80] [(0, (sv Aa p0 ca)), (3, (pt g1)), (7, (sv A39 t34.1 c40)), (11, (iv x68)), (12, (pt g76)), (13, (iv x83)), (80, (bv b79))] [] [0] [(1, ⟨g76, 0, none⟩, (bv b79))] (fun fb => by kernel_rfl) rfl trivial rfl ?_
          refine WL.setB 80 h93 rfl ?_
          refine segF 16 [.v (bv b80)] [0, 3, 7, 11, 12, 13, 90, 93] [(0, (sv Aa p0 ca)), (3, (pt g1)), (7, (sv A39 t34.1 c40)), (11, (iv x68)), (12, (pt g76)), (13, (iv x83)), (90, (bv true)), (93, (bv b80))] [] [1] [(14, ⟨g76, 1, none⟩, (bv b80))] (fun fb => by kernel_rfl) rfl trivial rfl ?_
          refine WL.setB 93 h94 rfl ?_
          refine seg 18 [] [0, 3, 7, 11, 12, 13, 90, 93, 94, 95] [(0, (sv Aa p0 ca)), (3, (pt g1)), (7, (sv A39 t34.1 c40)), (11, (iv x68)), (12, (pt g76)), (13, (iv x83)), (90, (bv true)), (93, (bv false)), (94, (sv A39 t34.1 c40)), (95, (iv x83))] [] (fun fb => by kernel_rfl) rfl trivial ?_
          obtain ⟨h107, hx92⟩ := as_some hx92
          refine seg 21 [] [0, 3, 7, 11, 12, 13, 90, 93, 96, 98, 99] [(0, (sv Aa p0 ca)), (3, (pt g1)), (7, (sv A39 t34.1 c40)), (11, (iv x68)), (12, (pt g76)), (13, (iv x83)), (90, (bv true)), (93, (bv false)), (96, (.pointer (some ((adr A39).add ((x83).toNat * 4))))), (98, (sv A39 t34.1 c40)), (99, (iv x68))] [.idx A39 x83 t34.1.length] (fun fb => by kernel_rfl) rfl ⟨rowR.adr (rowO.rd (hS106.own 1).1) h107.1 h107.2, trivial⟩ ?_
          obtain ⟨h108, hx92⟩ := as_some hx92
          refine seg 25 [.v (iv ((rdD t34.1 x83 z_Tile).N)), .v (iv ((rdD t34.1 x83 z_Tile).E)), .v (iv ((rdD t34.1 x83 z_Tile).S)), .v (iv ((rdD t34.1 x83 z_Tile).W)), .v (iv ((rdD t34.1 x68 z_Tile).N)), .v (iv ((rdD t34.1 x68 z_Tile).E)), .v (iv ((rdD t34.1 x68 z_Tile).S)), .v (iv ((rdD t34.1 x68 z_Tile).W))] [0, 3, 7, 11, 12, 13, 90, 93, 97, 101, 104] [(0, (sv Aa p0 ca)), (3, (pt g1)), (7, (sv A39 t34.1 c40)), (11, (iv x68)), (12, (pt g76)), (13, (iv x83)), (90, (bv true)), (93, (bv false)), (97, (.agg #[(iv ((rdD t34.1 x83 z_Tile).N)), (iv ((rdD t34.1 x83 z_Tile).E)), (iv ((rdD t34.1 x83 z_Tile).S)), (iv ((rdD t34.1 x83 z_Tile).W))])), (101, (.agg #[(iv ((rdD t34.1 x68 z_Tile).N)), (iv ((rdD t34.1 x68 z_Tile).E)), (iv ((rdD t34.1 x68 z_Tile).S)), (iv ((rdD t34.1 x68 z_Tile).W))])), (104, (pt g76))] [.idx A39 x68 t34.1.length, .cell ((adr A39).add ((x83).toNat * 4)) (iv ((rdD t34.1 x83 z_Tile).N)), .cell (((adr A39).add ((x83).toNat * 4)).add 1) (iv ((rdD t34.1 x83 z_Tile).E)), .cell (((adr A39).add ((x83).toNat * 4)).add 2) (iv ((rdD t34.1 x83 z_Tile).S)), .cell (((adr A39).add ((x83).toNat * 4)).add 3) (iv ((rdD t34.1 x83 z_Tile).W)), .cell ((adr A39).add ((x68).toNat * 4)) (iv ((rdD t34.1 x68 z_Tile).N)), .cell (((adr A39).add ((x68).toNat * 4)).add 1) (iv ((rdD t34.1 x68 z_Tile).E)), .cell (((adr A39).add ((x68).toNat * 4)).add 2) (iv ((rdD t34.1 x68 z_Tile).S)), .cell (((adr A39).add ((x68).toNat * 4)).add 3) (iv ((rdD t34.1 x68 z_Tile).W))] (fun fb => by kernel_rfl) rfl ⟨rowR.adr (rowO.rd (hS106.own 1).1) h108.1 h108.2, rowR.cell (rowO.rd (hS106.own 1).1) z_Tile h107.1 h107.2 0 rfl, rowR.cell (rowO.rd (hS106.own 1).1) z_Tile h107.1 h107.2 1 rfl, rowR.cell (rowO.rd (hS106.own 1).1) z_Tile h107.1 h107.2 2 rfl, rowR.cell (rowO.rd (hS106.own 1).1) z_Tile h107.1 h107.2 3 rfl, rowR.cell (rowO.rd (hS106.own 1).1) z_Tile h108.1 h108.2 0 rfl, rowR.cell (rowO.rd (hS106.own 1).1) z_Tile h108.1 h108.2 1 rfl, rowR.cell (rowO.rd (hS106.own 1).1) z_Tile h108.1 h108.2 2 rfl, rowR.cell (rowO.rd (hS106.own 1).1) z_Tile h108.1 h108.2 3 rfl, trivial⟩ ?_
          obtain ⟨t109, ht110, hx92⟩ := bind_some hx92
          refine WL.call (some 102) 22 #[(.agg #[(iv ((rdD t34.1 x83 z_Tile).N)), (iv ((rdD t34.1 x83 z_Tile).E)), (iv ((rdD t34.1 x83 z_Tile).S)), (iv ((rdD t34.1 x83 z_Tile).W))]), (.agg #[(iv ((rdD t34.1 x68 z_Tile).N)), (iv ((rdD t34.1 x68 z_Tile).E)), (iv ((rdD t34.1 x68 z_Tile).S)), (iv ((rdD t34.1 x68 z_Tile).W))]), (bv false)] (fun fb => by kernel_rfl) (ref04_Leads_calls (rdD t34.1 x83 z_Tile) (rdD t34.1 x68 z_Tile) false t109 _ ht110) (fun v w111 hR112 => ?_)
          obtain ⟨rfl, hk_⟩ := hR112
          have hS113 := hS106.keepN hk_
          refine ⟨trivial, ?_⟩
          refine seg 27 [] [0, 3, 7, 11, 12, 13, 90, 103, 104] [(0, (sv Aa p0 ca)), (3, (pt g1)), (7, (sv A39 t34.1 c40)), (11, (iv x68)), (12, (pt g76)), (13, (iv x83)), (90, (bv true)), (103, (bv t109)), (104, (pt g76))] [] (fun fb => by kernel_rfl) rfl trivial ?_
          refine WL.store hS113 2 rfl [(0, (bv true))] #[(bv true), (bv b80), (bv b81), (bv b82)] (fun fb => by kernel_rfl) (by kernel_rfl) rfl [0, 1] (by decide) (by decide) (fun w114 hS115 => ?_)
          refine ⟨trivial, ?_⟩
          refine seg 29 [] [0, 3, 7, 11, 12, 13, 103, 105] [(0, (sv Aa p0 ca)), (3, (pt g1)), (7, (sv A39 t34.1 c40)), (11, (iv x68)), (12, (pt g76)), (13, (iv x83)), (103, (bv t109)), (105, (.pointer (some ⟨g76, 1, none⟩)))] [] (fun fb => by kernel_rfl) rfl trivial ?_
          refine WL.store hS115 0 rfl [(1, (bv t109))] #[(bv true), (bv t109), (bv b81), (bv b82)] (fun fb => by kernel_rfl) (by kernel_rfl) rfl [1, 2] (by decide) (by decide) (fun w116 hS117 => ?_)
          refine ⟨trivial, ?_⟩
          refine WL.done rfl ?_
          injection hx92 with hx92
          exact WX.to Kx91 (true, t109) [0, 3, 7, 11, 12, 13] rfl ⟨(hS117.subR [0, 1, 2]).sub [1, 2, 0] (by decide), hx92.symm⟩
         refine segF 3 [.v (bv b79)] [0, 3, 7, 11, 12, 13, 80] [(0, (sv Aa p0 ca)), (3, (pt g1)), (7, (sv A39 t34.1 c40)), (11, (iv x68)), (12, (pt g76)), (13, (iv x83)), (80, (bv b79))] [] [0] [(1, ⟨g76, 0, none⟩, (bv b79))] (fun fb => by kernel_rfl) rfl trivial rfl ?_
         refine WL.setB 80 h93 rfl ?_
         refine segF 16 [.v (bv b80)] [0, 3, 7, 11, 12, 13, 90, 93] [(0, (sv Aa p0 ca)), (3, (pt g1)), (7, (sv A39 t34.1 c40)), (11, (iv x68)), (12, (pt g76)), (13, (iv x83)), (90, (bv true)), (93, (bv b80))] [] [1] [(14, ⟨g76, 1, none⟩, (bv b80))] (fun fb => by kernel_rfl) rfl trivial rfl ?_
         refine WL.setB 93 h94 rfl ?_
         refine seg 18 [] [0, 3, 7, 11, 12, 13, 90, 93, 94, 95] [(0, (sv Aa p0 ca)), (3, (pt g1)), (7, (sv A39 t34.1 c40)), (11, (iv x68)), (12, (pt g76)), (13, (iv x83)), (90, (bv true)), (93, (bv false)), (94, (sv A39 t34.1 c40)), (95, (iv x83))] [] (fun fb => by kernel_rfl) rfl trivial ?_
         obtain ⟨h118, hx92⟩ := as_some hx92
         refine seg 21 [] [0, 3, 7, 11, 12, 13, 90, 93, 96, 98, 99] [(0, (sv Aa p0 ca)), (3, (pt g1)), (7, (sv A39 t34.1 c40)), (11, (iv x68)), (12, (pt g76)), (13, (iv x83)), (90, (bv true)), (93, (bv false)), (96, (.pointer (some ((adr A39).add ((x83).toNat * 4))))), (98, (sv A39 t34.1 c40)), (99, (iv x68))] [.idx A39 x83 t34.1.length] (fun fb => by kernel_rfl) rfl ⟨rowR.adr (rowO.rd (hS106.own 1).1) h118.1 h118.2, trivial⟩ ?_
         obtain ⟨h119, hx92⟩ := as_some hx92
         refine seg 25 [.v (iv ((rdD t34.1 x68 z_Tile).N)), .v (iv ((rdD t34.1 x68 z_Tile).E)), .v (iv ((rdD t34.1 x68 z_Tile).S)), .v (iv ((rdD t34.1 x68 z_Tile).W)), .v (iv ((rdD t34.1 x83 z_Tile).N)), .v (iv ((rdD t34.1 x83 z_Tile).E)), .v (iv ((rdD t34.1 x83 z_Tile).S)), .v (iv ((rdD t34.1 x83 z_Tile).W))] [0, 3, 7, 11, 12, 13, 90, 93, 97, 101, 104] [(0, (sv Aa p0 ca)), (3, (pt g1)), (7, (sv A39 t34.1 c40)), (11, (iv x68)), (12, (pt g76)), (13, (iv x83)), (90, (bv true)), (93, (bv false)), (97, (.agg #[(iv ((rdD t34.1 x83 z_Tile).N)), (iv ((rdD t34.1 x83 z_Tile).E)), (iv ((rdD t34.1 x83 z_Tile).S)), (iv ((rdD t34.1 x83 z_Tile).W))])), (101, (.agg #[(iv ((rdD t34.1 x68 z_Tile).N)), (iv ((rdD t34.1 x68 z_Tile).E)), (iv ((rdD t34.1 x68 z_Tile).S)), (iv ((rdD t34.1 x68 z_Tile).W))])), (104, (pt g76))] [.idx A39 x68 t34.1.length, .cell ((adr A39).add ((x68).toNat * 4)) (iv ((rdD t34.1 x68 z_Tile).N)), .cell (((adr A39).add ((x68).toNat * 4)).add 1) (iv ((rdD t34.1 x68 z_Tile).E)), .cell (((adr A39).add ((x68).toNat * 4)).add 2) (iv ((rdD t34.1 x68 z_Tile).S)), .cell (((adr A39).add ((x68).toNat * 4)).add 3) (iv ((rdD t34.1 x68 z_Tile).W)), .cell ((adr A39).add ((x83).toNat * 4)) (iv ((rdD t34.1 x83 z_Tile).N)), .cell (((adr A39).add ((x83).toNat * 4)).add 1) (iv ((rdD t34.1 x83 z_Tile).E)), .cell (((adr A39).add ((x83).toNat * 4)).add 2) (iv ((rdD t34.1 x83 z_Tile).S)), .cell (((adr A39).add ((x83).toNat * 4)).add 3) (iv ((rdD t34.1 x83 z_Tile).W))] (fun fb => by kernel_rfl) rfl ⟨rowR.adr (rowO.rd (hS106.own 1).1) h119.1 h119.2, rowR.cell (rowO.rd (hS106.own 1).1) z_Tile h119.1 h119.2 0 rfl, rowR.cell (rowO.rd (hS106.own 1).1) z_Tile h119.1 h119.2 1 rfl, rowR.cell (rowO.rd (hS106.own 1).1) z_Tile h119.1 h119.2 2 rfl, rowR.cell (rowO.rd (hS106.own 1).1) z_Tile h119.1 h119.2 3 rfl, rowR.cell (rowO.rd (hS106.own 1).1) z_Tile h118.1 h118.2 0 rfl, rowR.cell (rowO.rd (hS106.own 1).1) z_Tile h118.1 h118.2 1 rfl, rowR.cell (rowO.rd (hS106.own 1).1) z_Tile h118.1 h118.2 2 rfl, rowR.cell (rowO.rd (hS106.own 1).1) z_Tile h118.1 h118.2 3 rfl, trivial⟩ ?_
         obtain ⟨t120, ht121, hx92⟩ := bind_some hx92
         refine WL.call (some 102) 22 #[(.agg #[(iv ((rdD t34.1 x83 z_Tile).N)), (iv ((rdD t34.1 x83 z_Tile).E)), (iv ((rdD t34.1 x83 z_Tile).S)), (iv ((rdD t34.1 x83 z_Tile).W))]), (.agg #[(iv ((rdD t34.1 x68 z_Tile).N)), (iv ((rdD t34.1 x68 z_Tile).E)), (iv ((rdD t34.1 x68 z_Tile).S)), (iv ((rdD t34.1 x68 z_Tile).W))]), (bv false)] (fun fb => by kernel_rfl) (ref04_Leads_calls (rdD t34.1 x83 z_Tile) (rdD t34.1 x68 z_Tile) false t120 _ ht121) (fun v w122 hR123 => ?_)
         obtain ⟨rfl, hk_⟩ := hR123
         have hS124 := hS106.keepN hk_
         refine ⟨trivial, ?_⟩
         refine seg 27 [] [0, 3, 7, 11, 12, 13, 90, 103, 104] [(0, (sv Aa p0 ca)), (3, (pt g1)), (7, (sv A39 t34.1 c40)), (11, (iv x68)), (12, (pt g76)), (13, (iv x83)), (90, (bv true)), (103, (bv t120)), (104, (pt g76))] [] (fun fb => by kernel_rfl) rfl trivial ?_
         refine WL.store hS124 2 rfl [(0, (bv true))] #[(bv true), (bv b80), (bv b81), (bv b82)] (fun fb => by kernel_rfl) (by kernel_rfl) rfl [0, 1] (by decide) (by decide) (fun w125 hS126 => ?_)
         refine ⟨trivial, ?_⟩
         refine seg 29 [] [0, 3, 7, 11, 12, 13, 103, 105] [(0, (sv Aa p0 ca)), (3, (pt g1)), (7, (sv A39 t34.1 c40)), (11, (iv x68)), (12, (pt g76)), (13, (iv x83)), (103, (bv t120)), (105, (.pointer (some ⟨g76, 1, none⟩)))] [] (fun fb => by kernel_rfl) rfl trivial ?_
         refine WL.store hS126 0 rfl [(1, (bv t120))] #[(bv true), (bv t120), (bv b81), (bv b82)] (fun fb => by kernel_rfl) (by kernel_rfl) rfl [1, 2] (by decide) (by decide) (fun w127 hS128 => ?_)
         refine ⟨trivial, ?_⟩
         refine WL.done rfl ?_
         injection hx92 with hx92
         exact WX.to Kx91 (true, t120) [0, 3, 7, 11, 12, 13] rfl ⟨(hS128.subR [0, 1, 2]).sub [1, 2, 0] (by decide), hx92.symm⟩
        rcases br_some hx92 with ⟨h129, hx92⟩ | ⟨h129, hx92⟩
        ·
         obtain ⟨h132, hx92⟩ := as_some hx92
         obtain ⟨h133, hx92⟩ := as_some hx92
         refine WC.regionD ([(1, ⟨g76, 0, none⟩, (bv b79)), (6, ((adr A39).add ((x68).toNat * 4)), (iv ((rdD t34.1 x68 z_Tile).N))), (6, (((adr A39).add ((x68).toNat * 4)).add 1), (iv ((rdD t34.1 x68 z_Tile).E))), (6, (((adr A39).add ((x68).toNat * 4)).add 2), (iv ((rdD t34.1 x68 z_Tile).S))), (6, (((adr A39).add ((x68).toNat * 4)).add 3), (iv ((rdD t34.1 x68 z_Tile).W))), (10, ((adr A39).add ((x83).toNat * 4)), (iv ((rdD t34.1 x83 z_Tile).N))), (10, (((adr A39).add ((x83).toNat * 4)).add 1), (iv ((rdD t34.1 x83 z_Tile).E))), (10, (((adr A39).add ((x83).toNat * 4)).add 2), (iv ((rdD t34.1 x83 z_Tile).S))), (10, (((adr A39).add ((x83).toNat * 4)).add 3), (iv ((rdD t34.1 x83 z_Tile).W))), (14, ⟨g76, 1, none⟩, (bv b80))], [0, 1, 2, 3, 4, 5, 6, 7, 8, 9, 10, 12, 13, 14, 15, 16, 17, 18, 20, 21, 22, 25, 26, 28], [[], [0], [0, 1], [0, 1, 2], [0, 1, 2], [0, 1, 2, 3, 4], [0, 1, 2, 3, 4, 5], [0, 1, 2], [0, 1, 2], [0, 1, 2, 7, 8], [0, 1, 2, 7, 8, 9], [0, 1, 2, 3, 4, 5, 6, 7, 8, 9, 10], [0, 1, 2, 3, 4, 5, 6, 7, 8, 9, 10, 11], [], [13], [0, 1, 2, 3, 4, 5, 6, 7, 8, 9, 10, 11, 13, 14], [0, 1, 2, 3, 4, 5, 6, 7, 8, 9, 10, 11, 13, 14, 15], [0, 1, 2, 3, 4, 5, 6, 7, 8, 9, 10, 11, 13, 14, 15], [0, 1, 2, 3, 4, 5, 6, 7, 8, 9, 10, 11, 13, 14, 15, 16, 17], [0, 1, 2, 3, 4, 5, 6, 7, 8, 9, 10, 11, 13, 14, 15, 16, 17, 18], [0, 1, 2, 3, 4, 5, 6, 7, 8, 9, 10, 11, 13, 14, 15], [0, 1, 2, 3, 4, 5, 6, 7, 8, 9, 10, 11, 13, 14, 15], [0, 1, 2, 3, 4, 5, 6, 7, 8, 9, 10, 11, 13, 14, 15, 20, 21], [0, 1, 2, 3, 4, 5, 6, 7, 8, 9, 10, 11, 13, 14, 15, 20, 21, 22], [0, 1, 2, 3, 4, 5, 6, 7, 8, 9, 10, 11, 13, 14, 15, 16, 17, 18, 19, 20, 21, 22, 23], [0, 1, 2, 3, 4, 5, 6, 7, 8, 9, 10, 11, 13, 14, 15, 16, 17, 18, 19, 20, 21, 22, 23, 24], [0, 1, 2, 3, 4, 5, 6, 7, 8, 9, 10, 11, 12, 13, 14], [0, 1, 2, 3, 4, 5, 6, 7, 8, 9, 10, 11, 12, 13, 14, 15, 16, 17, 18, 19, 20, 21, 22, 23, 24, 26], [0, 1, 2, 3, 4, 5, 6, 7, 8, 9, 10, 11, 12, 13, 14, 15, 16, 17, 18, 19, 20, 21, 22, 23, 24, 25, 26, 27], [0, 1, 2, 3, 4, 5, 6, 7, 8, 9, 10, 11, 12, 13, 14, 15, 16, 17, 18, 19, 20, 21, 22, 23, 24, 25, 26, 27, 28]]) [[0, 1, 2, 3, 4, 5, 6, 7, 8, 9, 10, 13, 14, 11, 12, 15, 16, 17, 18, 20, 21, 22, 26, 19, 23, 24, 25, 27, 28, 29], [0, 1, 2, 3, 4, 5, 6, 7, 8, 9, 10, 13, 14, 11, 12, 15, 16, 17, 18, 20, 21, 22, 26, 23, 19, 24, 25, 27, 28, 29]] (by kernel_rfl) (by kernel_rfl) (NoPanic.seq (NoPanic.block (NoPanic.seq (NoPanic.seq (NoPanic.block (NoPanic.seq (NoPanic.block (NoPanic.seq (NoPanic.seq (NoPanic.block (NoPanic.seq (NoPanic.body)))))))))))) ?_
         have hS131 := hS88.drew
         revert hS131
         generalize World.drew w87 = w130
         intro hS131
         refine ⟨⟨hS131.cell 2 rfl 0 rfl, rowR.cell (rowO.rd (hS131.own 1).1) z_Tile h132.1 h132.2 0 rfl, rowR.cell (rowO.rd (hS131.own 1).1) z_Tile h132.1 h132.2 1 rfl, rowR.cell (rowO.rd (hS131.own 1).1) z_Tile h132.1 h132.2 2 rfl, rowR.cell (rowO.rd (hS131.own 1).1) z_Tile h132.1 h132.2 3 rfl, rowR.cell (rowO.rd (hS131.own 1).1) z_Tile h133.1 h133.2 0 rfl, rowR.cell (rowO.rd (hS131.own 1).1) z_Tile h133.1 h133.2 1 rfl, rowR.cell (rowO.rd (hS131.own 1).1) z_Tile h133.1 h133.2 2 rfl, rowR.cell (rowO.rd (hS131.own 1).1) z_Tile h133.1 h133.2 3 rfl, hS131.cell 2 rfl 1 rfl, trivial⟩, forallC ?_ (forallC ?_ (forallN))⟩
         ·
          refine segF 3 [.v (bv b79)] [0, 3, 7, 11, 12, 13, 80] [(0, (sv Aa p0 ca)), (3, (pt g1)), (7, (sv A39 t34.1 c40)), (11, (iv x68)), (12, (pt g76)), (13, (iv x83)), (80, (bv b79))] [] [0] [(1, ⟨g76, 0, none⟩, (bv b79))] (fun fb => by kernel_rfl) rfl trivial rfl ?_
          refine WL.setB 80 h93 rfl ?_
          refine segF 13 [.v (iv ((rdD t34.1 x68 z_Tile).N)), .v (iv ((rdD t34.1 x68 z_Tile).E)), .v (iv ((rdD t34.1 x68 z_Tile).S)), .v (iv ((rdD t34.1 x68 z_Tile).W)), .v (iv ((rdD t34.1 x83 z_Tile).N)), .v (iv ((rdD t34.1 x83 z_Tile).E)), .v (iv ((rdD t34.1 x83 z_Tile).S)), .v (iv ((rdD t34.1 x83 z_Tile).W)), .v (bv b80)] [0, 3, 7, 11, 12, 13, 80, 84, 88, 92] [(0, (sv Aa p0 ca)), (3, (pt g1)), (7, (sv A39 t34.1 c40)), (11, (iv x68)), (12, (pt g76)), (13, (iv x83)), (80, (bv false)), (84, (.agg #[(iv ((rdD t34.1 x68 z_Tile).N)), (iv ((rdD t34.1 x68 z_Tile).E)), (iv ((rdD t34.1 x68 z_Tile).S)), (iv ((rdD t34.1 x68 z_Tile).W))])), (88, (.agg #[(iv ((rdD t34.1 x83 z_Tile).N)), (iv ((rdD t34.1 x83 z_Tile).E)), (iv ((rdD t34.1 x83 z_Tile).S)), (iv ((rdD t34.1 x83 z_Tile).W))])), (92, (bv b80))] [.idx A39 x68 t34.1.length, .idx A39 x83 t34.1.length] [1, 2, 3, 4, 5, 6, 7, 8, 9] [(6, ((adr A39).add ((x68).toNat * 4)), (iv ((rdD t34.1 x68 z_Tile).N))), (6, (((adr A39).add ((x68).toNat * 4)).add 1), (iv ((rdD t34.1 x68 z_Tile).E))), (6, (((adr A39).add ((x68).toNat * 4)).add 2), (iv ((rdD t34.1 x68 z_Tile).S))), (6, (((adr A39).add ((x68).toNat * 4)).add 3), (iv ((rdD t34.1 x68 z_Tile).W))), (10, ((adr A39).add ((x83).toNat * 4)), (iv ((rdD t34.1 x83 z_Tile).N))), (10, (((adr A39).add ((x83).toNat * 4)).add 1), (iv ((rdD t34.1 x83 z_Tile).E))), (10, (((adr A39).add ((x83).toNat * 4)).add 2), (iv ((rdD t34.1 x83 z_Tile).S))), (10, (((adr A39).add ((x83).toNat * 4)).add 3), (iv ((rdD t34.1 x83 z_Tile).W))), (14, ⟨g76, 1, none⟩, (bv b80))] (fun fb => by kernel_rfl) rfl ⟨rowR.adr (rowO.rd (hS131.own 1).1) h132.1 h132.2, rowR.adr (rowO.rd (hS131.own 1).1) h133.1 h133.2, trivial⟩ rfl ?_
          obtain ⟨t134, ht135, hx92⟩ := bind_some hx92
          refine WL.call (some 89) 22 #[(.agg #[(iv ((rdD t34.1 x68 z_Tile).N)), (iv ((rdD t34.1 x68 z_Tile).E)), (iv ((rdD t34.1 x68 z_Tile).S)), (iv ((rdD t34.1 x68 z_Tile).W))]), (.agg #[(iv ((rdD t34.1 x83 z_Tile).N)), (iv ((rdD t34.1 x83 z_Tile).E)), (iv ((rdD t34.1 x83 z_Tile).S)), (iv ((rdD t34.1 x83 z_Tile).W))]), (bv false)] (fun fb => by kernel_rfl) (ref04_Leads_calls (rdD t34.1 x68 z_Tile) (rdD t34.1 x83 z_Tile) false t134 _ ht135) (fun v w136 hR137 => ?_)
          obtain ⟨rfl, hk_⟩ := hR137
          have hS138 := hS131.keepN hk_
          refine ⟨⟨hS138.cell 2 rfl 1 rfl, trivial⟩, ?_⟩
          refine seg 16 [] [0, 3, 7, 11, 12, 13, 90, 93] [(0, (sv Aa p0 ca)), (3, (pt g1)), (7, (sv A39 t34.1 c40)), (11, (iv x68)), (12, (pt g76)), (13, (iv x83)), (90, (bv t134)), (93, (bv b80))] [] (fun fb => by kernel_rfl) rfl trivial ?_
          refine WL.setB 93 h129 rfl ?_
          refine seg 27 [] [0, 3, 7, 11, 12, 13, 90, 103, 104] [(0, (sv Aa p0 ca)), (3, (pt g1)), (7, (sv A39 t34.1 c40)), (11, (iv x68)), (12, (pt g76)), (13, (iv x83)), (90, (bv t134)), (103, (bv true)), (104, (pt g76))] [] (fun fb => by kernel_rfl) rfl trivial ?_
          refine WL.store hS138 2 rfl [(0, (bv t134))] #[(bv t134), (bv b80), (bv b81), (bv b82)] (fun fb => by kernel_rfl) (by kernel_rfl) rfl [0, 1] (by decide) (by decide) (fun w139 hS140 => ?_)
          refine ⟨trivial, ?_⟩
          refine seg 29 [] [0, 3, 7, 11, 12, 13, 103, 105] [(0, (sv Aa p0 ca)), (3, (pt g1)), (7, (sv A39 t34.1 c40)), (11, (iv x68)), (12, (pt g76)), (13, (iv x83)), (103, (bv true)), (105, (.pointer (some ⟨g76, 1, none⟩)))] [] (fun fb => by kernel_rfl) rfl trivial ?_
          refine WL.store hS140 0 rfl [(1, (bv true))] #[(bv t134), (bv true), (bv b81), (bv b82)] (fun fb => by kernel_rfl) (by kernel_rfl) rfl [1, 2] (by decide) (by decide) (fun w141 hS142 => ?_)
          refine ⟨trivial, ?_⟩
          refine WL.done rfl ?_
          injection hx92 with hx92
          exact WX.to Kx91 (t134, true) [0, 3, 7, 11, 12, 13] rfl ⟨(hS142.subR [0, 1, 2]).sub [1, 2, 0] (by decide), hx92.symm⟩
         refine segF 3 [.v (bv b79)] [0, 3, 7, 11, 12, 13, 80] [(0, (sv Aa p0 ca)), (3, (pt g1)), (7, (sv A39 t34.1 c40)), (11, (iv x68)), (12, (pt g76)), (13, (iv x83)), (80, (bv b79))] [] [0] [(1, ⟨g76, 0, none⟩, (bv b79))] (fun fb => by kernel_rfl) rfl trivial rfl ?_
         refine WL.setB 80 h93 rfl ?_
         refine segF 13 [.v (iv ((rdD t34.1 x68 z_Tile).N)), .v (iv ((rdD t34.1 x68 z_Tile).E)), .v (iv ((rdD t34.1 x68 z_Tile).S)), .v (iv ((rdD t34.1 x68 z_Tile).W)), .v (iv ((rdD t34.1 x83 z_Tile).N)), .v (iv ((rdD t34.1 x83 z_Tile).E)), .v (iv ((rdD t34.1 x83 z_Tile).S)), .v (iv ((rdD t34.1 x83 z_Tile).W)), .v (bv b80)] [0, 3, 7, 11, 12, 13, 80, 84, 88, 92] [(0, (sv Aa p0 ca)), (3, (pt g1)), (7, (sv A39 t34.1 c40)), (11, (iv x68)), (12, (pt g76)), (13, (iv x83)), (80, (bv false)), (84, (.agg #[(iv ((rdD t34.1 x68 z_Tile).N)), (iv ((rdD t34.1 x68 z_Tile).E)), (iv ((rdD t34.1 x68 z_Tile).S)), (iv ((rdD t34.1 x68 z_Tile).W))])), (88, (.agg #[(iv ((rdD t34.1 x83 z_Tile).N)), (iv ((rdD t34.1 x83 z_Tile).E)), (iv ((rdD t34.1 x83 z_Tile).S)), (iv ((rdD t34.1 x83 z_Tile).W))])), (92, (bv b80))] [.idx A39 x68 t34.1.length, .idx A39 x83 t34.1.length] [1, 2, 3, 4, 5, 6, 7, 8, 9] [(6, ((adr A39).add ((x68).toNat * 4)), (iv ((rdD t34.1 x68 z_Tile).N))), (6, (((adr A39).add ((x68).toNat * 4)).add 1), (iv ((rdD t34.1 x68 z_Tile).E))), (6, (((adr A39).add ((x68).toNat * 4)).add 2), (iv ((rdD t34.1 x68 z_Tile).S))), (6, (((adr A39).add ((x68).toNat * 4)).add 3), (iv ((rdD t34.1 x68 z_Tile).W))), (10, ((adr A39).add ((x83).toNat * 4)), (iv ((rdD t34.1 x83 z_Tile).N))), (10, (((adr A39).add ((x83).toNat * 4)).add 1), (iv ((rdD t34.1 x83 z_Tile).E))), (10, (((adr A39).add ((x83).toNat * 4)).add 2), (iv ((rdD t34.1 x83 z_Tile).S))), (10, (((adr A39).add ((x83).toNat * 4)).add 3), (iv ((rdD t34.1 x83 z_Tile).W))), (14, ⟨g76, 1, none⟩, (bv b80))] (fun fb => by kernel_rfl) rfl ⟨rowR.adr (rowO.rd (hS131.own 1).1) h132.1 h132.2, rowR.adr (rowO.rd (hS131.own 1).1) h133.1 h133.2, trivial⟩ rfl ?_
         obtain ⟨t143, ht144, hx92⟩ := bind_some hx92
         refine WL.call (some 89) 22 #[(.agg #[(iv ((rdD t34.1 x68 z_Tile).N)), (iv ((rdD t34.1 x68 z_Tile).E)), (iv ((rdD t34.1 x68 z_Tile).S)), (iv ((rdD t34.1 x68 z_Tile).W))]), (.agg #[(iv ((rdD t34.1 x83 z_Tile).N)), (iv ((rdD t34.1 x83 z_Tile).E)), (iv ((rdD t34.1 x83 z_Tile).S)), (iv ((rdD t34.1 x83 z_Tile).W))]), (bv false)] (fun fb => by kernel_rfl) (ref04_Leads_calls (rdD t34.1 x68 z_Tile) (rdD t34.1 x83 z_Tile) false t143 _ ht144) (fun v w145 hR146 => ?_)
         obtain ⟨rfl, hk_⟩ := hR146
         have hS147 := hS131.keepN hk_
         refine ⟨⟨hS147.cell 2 rfl 1 rfl, trivial⟩, ?_⟩
         refine seg 16 [] [0, 3, 7, 11, 12, 13, 90, 93] [(0, (sv Aa p0 ca)), (3, (pt g1)), (7, (sv A39 t34.1 c40)), (11, (iv x68)), (12, (pt g76)), (13, (iv x83)), (90, (bv t143)), (93, (bv b80))] [] (fun fb => by kernel_rfl) rfl trivial ?_
         refine WL.setB 93 h129 rfl ?_
         refine seg 27 [] [0, 3, 7, 11, 12, 13, 90, 103, 104] [(0, (sv Aa p0 ca)), (3, (pt g1)), (7, (sv A39 t34.1 c40)), (11, (iv x68)), (12, (pt g76)), (13, (iv x83)), (90, (bv t143)), (103, (bv true)), (104, (pt g76))] [] (fun fb => by kernel_rfl) rfl trivial ?_
         refine WL.store hS147 2 rfl [(0, (bv t143))] #[(bv t143), (bv b80), (bv b81), (bv b82)] (fun fb => by kernel_rfl) (by kernel_rfl) rfl [0, 1] (by decide) (by decide) (fun w148 hS149 => ?_)
         refine ⟨trivial, ?_⟩
         refine seg 29 [] [0, 3, 7, 11, 12, 13, 103, 105] [(0, (sv Aa p0 ca)), (3, (pt g1)), (7, (sv A39 t34.1 c40)), (11, (iv x68)), (12, (pt g76)), (13, (iv x83)), (103, (bv true)), (105, (.pointer (some ⟨g76, 1, none⟩)))] [] (fun fb => by kernel_rfl) rfl trivial ?_
         refine WL.store hS149 0 rfl [(1, (bv true))] #[(bv t143), (bv true), (bv b81), (bv b82)] (fun fb => by kernel_rfl) (by kernel_rfl) rfl [1, 2] (by decide) (by decide) (fun w150 hS151 => ?_)
         refine ⟨trivial, ?_⟩
         refine WL.done rfl ?_
         injection hx92 with hx92
         exact WX.to Kx91 (t143, true) [0, 3, 7, 11, 12, 13] rfl ⟨(hS151.subR [0, 1, 2]).sub [1, 2, 0] (by decide), hx92.symm⟩
        obtain ⟨h154, hx92⟩ := as_some hx92
        obtain ⟨h155, hx92⟩ := as_some hx92
        refine WC.regionD ([(1, ⟨g76, 0, none⟩, (bv b79)), (6, ((adr A39).add ((x68).toNat * 4)), (iv ((rdD t34.1 x68 z_Tile).N))), (6, (((adr A39).add ((x68).toNat * 4)).add 1), (iv ((rdD t34.1 x68 z_Tile).E))), (6, (((adr A39).add ((x68).toNat * 4)).add 2), (iv ((rdD t34.1 x68 z_Tile).S))), (6, (((adr A39).add ((x68).toNat * 4)).add 3), (iv ((rdD t34.1 x68 z_Tile).W))), (10, ((adr A39).add ((x83).toNat * 4)), (iv ((rdD t34.1 x83 z_Tile).N))), (10, (((adr A39).add ((x83).toNat * 4)).add 1), (iv ((rdD t34.1 x83 z_Tile).E))), (10, (((adr A39).add ((x83).toNat * 4)).add 2), (iv ((rdD t34.1 x83 z_Tile).S))), (10, (((adr A39).add ((x83).toNat * 4)).add 3), (iv ((rdD t34.1 x83 z_Tile).W))), (14, ⟨g76, 1, none⟩, (bv b80))], [0, 1, 2, 3, 4, 5, 6, 7, 8, 9, 10, 12, 13, 14, 15, 16, 17, 18, 20, 21, 22, 25, 26, 28], [[], [0], [0, 1], [0, 1, 2], [0, 1, 2], [0, 1, 2, 3, 4], [0, 1, 2, 3, 4, 5], [0, 1, 2], [0, 1, 2], [0, 1, 2, 7, 8], [0, 1, 2, 7, 8, 9], [0, 1, 2, 3, 4, 5, 6, 7, 8, 9, 10], [0, 1, 2, 3, 4, 5, 6, 7, 8, 9, 10, 11], [], [13], [0, 1, 2, 3, 4, 5, 6, 7, 8, 9, 10, 11, 13, 14], [0, 1, 2, 3, 4, 5, 6, 7, 8, 9, 10, 11, 13, 14, 15], [0, 1, 2, 3, 4, 5, 6, 7, 8, 9, 10, 11, 13, 14, 15], [0, 1, 2, 3, 4, 5, 6, 7, 8, 9, 10, 11, 13, 14, 15, 16, 17], [0, 1, 2, 3, 4, 5, 6, 7, 8, 9, 10, 11, 13, 14, 15, 16, 17, 18], [0, 1, 2, 3, 4, 5, 6, 7, 8, 9, 10, 11, 13, 14, 15], [0, 1, 2, 3, 4, 5, 6, 7, 8, 9, 10, 11, 13, 14, 15], [0, 1, 2, 3, 4, 5, 6, 7, 8, 9, 10, 11, 13, 14, 15, 20, 21], [0, 1, 2, 3, 4, 5, 6, 7, 8, 9, 10, 11, 13, 14, 15, 20, 21, 22], [0, 1, 2, 3, 4, 5, 6, 7, 8, 9, 10, 11, 13, 14, 15, 16, 17, 18, 19, 20, 21, 22, 23], [0, 1, 2, 3, 4, 5, 6, 7, 8, 9, 10, 11, 13, 14, 15, 16, 17, 18, 19, 20, 21, 22, 23, 24], [0, 1, 2, 3, 4, 5, 6, 7, 8, 9, 10, 11, 12, 13, 14], [0, 1, 2, 3, 4, 5, 6, 7, 8, 9, 10, 11, 12, 13, 14, 15, 16, 17, 18, 19, 20, 21, 22, 23, 24, 26], [0, 1, 2, 3, 4, 5, 6, 7, 8, 9, 10, 11, 12, 13, 14, 15, 16, 17, 18, 19, 20, 21, 22, 23, 24, 25, 26, 27], [0, 1, 2, 3, 4, 5, 6, 7, 8, 9, 10, 11, 12, 13, 14, 15, 16, 17, 18, 19, 20, 21, 22, 23, 24, 25, 26, 27, 28]]) [[0, 1, 2, 3, 4, 5, 6, 7, 8, 9, 10, 13, 14, 11, 12, 15, 16, 17, 18, 20, 21, 22, 26, 19, 23, 24, 25, 27, 28, 29], [0, 1, 2, 3, 4, 5, 6, 7, 8, 9, 10, 13, 14, 11, 12, 15, 16, 17, 18, 20, 21, 22, 26, 23, 19, 24, 25, 27, 28, 29]] (by kernel_rfl) (by kernel_rfl) (NoPanic.seq (NoPanic.block (NoPanic.seq (NoPanic.seq (NoPanic.block (NoPanic.seq (NoPanic.block (NoPanic.seq (NoPanic.seq (NoPanic.block (NoPanic.seq (NoPanic.body)))))))))))) ?_
        have hS153 := hS88.drew
        revert hS153
        generalize World.drew w87 = w152
        intro hS153
        refine ⟨⟨hS153.cell 2 rfl 0 rfl, rowR.cell (rowO.rd (hS153.own 1).1) z_Tile h154.1 h154.2 0 rfl, rowR.cell (rowO.rd (hS153.own 1).1) z_Tile h154.1 h154.2 1 rfl, rowR.cell (rowO.rd (hS153.own 1).1) z_Tile h154.1 h154.2 2 rfl, rowR.cell (rowO.rd (hS153.own 1).1) z_Tile h154.1 h154.2 3 rfl, rowR.cell (rowO.rd (hS153.own 1).1) z_Tile h155.1 h155.2 0 rfl, rowR.cell (rowO.rd (hS153.own 1).1) z_Tile h155.1 h155.2 1 rfl, rowR.cell (rowO.rd (hS153.own 1).1) z_Tile h155.1 h155.2 2 rfl, rowR.cell (rowO.rd (hS153.own 1).1) z_Tile h155.1 h155.2 3 rfl, hS153.cell 2 rfl 1 rfl, trivial⟩, forallC ?_ (forallC ?_ (forallN))⟩
        ·
         refine segF 3 [.v (bv b79)] [0, 3, 7, 11, 12, 13, 80] [(0, (sv Aa p0 ca)), (3, (pt g1)), (7, (sv A39 t34.1 c40)), (11, (iv x68)), (12, (pt g76)), (13, (iv x83)), (80, (bv b79))] [] [0] [(1, ⟨g76, 0, none⟩, (bv b79))] (fun fb => by kernel_rfl) rfl trivial rfl ?_
         refine WL.setB 80 h93 rfl ?_
         refine segF 13 [.v (iv ((rdD t34.1 x68 z_Tile).N)), .v (iv ((rdD t34.1 x68 z_Tile).E)), .v (iv ((rdD t34.1 x68 z_Tile).S)), .v (iv ((rdD t34.1 x68 z_Tile).W)), .v (iv ((rdD t34.1 x83 z_Tile).N)), .v (iv ((rdD t34.1 x83 z_Tile).E)), .v (iv ((rdD t34.1 x83 z_Tile).S)), .v (iv ((rdD t34.1 x83 z_Tile).W)), .v (bv b80)] [0, 3, 7, 11, 12, 13, 80, 84, 88, 92] [(0, (sv Aa p0 ca)), (3, (pt g1)), (7, (sv A39 t34.1 c40)), (11, (iv x68)), (12, (pt g76)), (13, (iv x83)), (80, (bv false)), (84, (.agg #[(iv ((rdD t34.1 x68 z_Tile).N)), (iv ((rdD t34.1 x68 z_Tile).E)), (iv ((rdD t34.1 x68 z_Tile).S)), (iv ((rdD t34.1 x68 z_Tile).W))])), (88, (.agg #[(iv ((rdD t34.1 x83 z_Tile).N)), (iv ((rdD t34.1 x83 z_Tile).E)), (iv ((rdD t34.1 x83 z_Tile).S)), (iv ((rdD t34.1 x83 z_Tile).W))])), (92, (bv b80))] [.idx A39 x68 t34.1.length, .idx A39 x83 t34.1.length] [1, 2, 3, 4, 5, 6, 7, 8, 9] [(6, ((adr A39).add ((x68).toNat * 4)), (iv ((rdD t34.1 x68 z_Tile).N))), (6, (((adr A39).add ((x68).toNat * 4)).add 1), (iv ((rdD t34.1 x68 z_Tile).E))), (6, (((adr A39).add ((x68).toNat * 4)).add 2), (iv ((rdD t34.1 x68 z_Tile).S))), (6, (((adr A39).add ((x68).toNat * 4)).add 3), (iv ((rdD t34.1 x68 z_Tile).W))), (10, ((adr A39).add ((x83).toNat * 4)), (iv ((rdD t34.1 x83 z_Tile).N))), (10, (((adr A39).add ((x83).toNat * 4)).add 1), (iv ((rdD t34.1 x83 z_Tile).E))), (10, (((adr A39).add ((x83).toNat * 4)).add 2), (iv ((rdD t34.1 x83 z_Tile).S))), (10, (((adr A39).add ((x83).toNat * 4)).add 3), (iv ((rdD t34.1 x83 z_Tile).W))), (14, ⟨g76, 1, none⟩, (bv b80))] (fun fb => by kernel_rfl) rfl ⟨rowR.adr (rowO.rd (hS153.own 1).1) h154.1 h154.2, rowR.adr (rowO.rd (hS153.own 1).1) h155.1 h155.2, trivial⟩ rfl ?_
         obtain ⟨t156, ht157, hx92⟩ := bind_some hx92
         refine WL.call (some 89) 22 #[(.agg #[(iv ((rdD t34.1 x68 z_Tile).N)), (iv ((rdD t34.1 x68 z_Tile).E)), (iv ((rdD t34.1 x68 z_Tile).S)), (iv ((rdD t34.1 x68 z_Tile).W))]), (.agg #[(iv ((rdD t34.1 x83 z_Tile).N)), (iv ((rdD t34.1 x83 z_Tile).E)), (iv ((rdD t34.1 x83 z_Tile).S)), (iv ((rdD t34.1 x83 z_Tile).W))]), (bv false)] (fun fb => by kernel_rfl) (ref04_Leads_calls (rdD t34.1 x68 z_Tile) (rdD t34.1 x83 z_Tile) false t156 _ ht157) (fun v w158 hR159 => ?_)
         obtain ⟨rfl, hk_⟩ := hR159
         have hS160 := hS153.keepN hk_
         refine ⟨⟨hS160.cell 2 rfl 1 rfl, trivial⟩, ?_⟩
         refine seg 16 [] [0, 3, 7, 11, 12, 13, 90, 93] [(0, (sv Aa p0 ca)), (3, (pt g1)), (7, (sv A39 t34.1 c40)), (11, (iv x68)), (12, (pt g76)), (13, (iv x83)), (90, (bv t156)), (93, (bv b80))] [] (fun fb => by kernel_rfl) rfl trivial ?_
         refine WL.setB 93 h129 rfl ?_
         refine seg 25 [.v (iv ((rdD t34.1 x83 z_Tile).N)), .v (iv ((rdD t34.1 x83 z_Tile).E)), .v (iv ((rdD t34.1 x83 z_Tile).S)), .v (iv ((rdD t34.1 x83 z_Tile).W)), .v (iv ((rdD t34.1 x68 z_Tile).N)), .v (iv ((rdD t34.1 x68 z_Tile).E)), .v (iv ((rdD t34.1 x68 z_Tile).S)), .v (iv ((rdD t34.1 x68 z_Tile).W))] [0, 3, 7, 11, 12, 13, 90, 93, 97, 101, 104] [(0, (sv Aa p0 ca)), (3, (pt g1)), (7, (sv A39 t34.1 c40)), (11, (iv x68)), (12, (pt g76)), (13, (iv x83)), (90, (bv t156)), (93, (bv false)), (97, (.agg #[(iv ((rdD t34.1 x83 z_Tile).N)), (iv ((rdD t34.1 x83 z_Tile).E)), (iv ((rdD t34.1 x83 z_Tile).S)), (iv ((rdD t34.1 x83 z_Tile).W))])), (101, (.agg #[(iv ((rdD t34.1 x68 z_Tile).N)), (iv ((rdD t34.1 x68 z_Tile).E)), (iv ((rdD t34.1 x68 z_Tile).S)), (iv ((rdD t34.1 x68 z_Tile).W))])), (104, (pt g76))] [.idx A39 x83 t34.1.length, .idx A39 x68 t34.1.length, .cell ((adr A39).add ((x83).toNat * 4)) (iv ((rdD t34.1 x83 z_Tile).N)), .cell (((adr A39).add ((x83).toNat * 4)).add 1) (iv ((rdD t34.1 x83 z_Tile).E)), .cell (((adr A39).add ((x83).toNat * 4)).add 2) (iv ((rdD t34.1 x83 z_Tile).S)), .cell (((adr A39).add ((x83).toNat * 4)).add 3) (iv ((rdD t34.1 x83 z_Tile).W)), .cell ((adr A39).add ((x68).toNat * 4)) (iv ((rdD t34.1 x68 z_Tile).N)), .cell (((adr A39).add ((x68).toNat * 4)).add 1) (iv ((rdD t34.1 x68 z_Tile).E)), .cell (((adr A39).add ((x68).toNat * 4)).add 2) (iv ((rdD t34.1 x68 z_Tile).S)), .cell (((adr A39).add ((x68).toNat * 4)).add 3) (iv ((rdD t34.1 x68 z_Tile).W))] (fun fb => by kernel_rfl) rfl ⟨rowR.adr (rowO.rd (hS160.own 1).1) h155.1 h155.2, rowR.adr (rowO.rd (hS160.own 1).1) h154.1 h154.2, rowR.cell (rowO.rd (hS160.own 1).1) z_Tile h155.1 h155.2 0 rfl, rowR.cell (rowO.rd (hS160.own 1).1) z_Tile h155.1 h155.2 1 rfl, rowR.cell (rowO.rd (hS160.own 1).1) z_Tile h155.1 h155.2 2 rfl, rowR.cell (rowO.rd (hS160.own 1).1) z_Tile h155.1 h155.2 3 rfl, rowR.cell (rowO.rd (hS160.own 1).1) z_Tile h154.1 h154.2 0 rfl, rowR.cell (rowO.rd (hS160.own 1).1) z_Tile h154.1 h154.2 1 rfl, rowR.cell (rowO.rd (hS160.own 1).1) z_Tile h154.1 h154.2 2 rfl, rowR.cell (rowO.rd (hS160.own 1).1) z_Tile h154.1 h154.2 3 rfl, trivial⟩ ?_
         obtain ⟨t161, ht162, hx92⟩ := bind_some hx92
         refine WL.call (some 102) 22 #[(.agg #[(iv ((rdD t34.1 x83 z_Tile).N)), (iv ((rdD t34.1 x83 z_Tile).E)), (iv ((rdD t34.1 x83 z_Tile).S)), (iv ((rdD t34.1 x83 z_Tile).W))]), (.agg #[(iv ((rdD t34.1 x68 z_Tile).N)), (iv ((rdD t34.1 x68 z_Tile).E)), (iv ((rdD t34.1 x68 z_Tile).S)), (iv ((rdD t34.1 x68 z_Tile).W))]), (bv false)] (fun fb => by kernel_rfl) (ref04_Leads_calls (rdD t34.1 x83 z_Tile) (rdD t34.1 x68 z_Tile) false t161 _ ht162) (fun v w163 hR164 => ?_)
         obtain ⟨rfl, hk_⟩ := hR164
         have hS165 := hS160.keepN hk_
         refine ⟨trivial, ?_⟩
         refine seg 27 [] [0, 3, 7, 11, 12, 13, 90, 103, 104] [(0, (sv Aa p0 ca)), (3, (pt g1)), (7, (sv A39 t34.1 c40)), (11, (iv x68)), (12, (pt g76)), (13, (iv x83)), (90, (bv t156)), (103, (bv t161)), (104, (pt g76))] [] (fun fb => by kernel_rfl) rfl trivial ?_
         refine WL.store hS165 2 rfl [(0, (bv t156))] #[(bv t156), (bv b80), (bv b81), (bv b82)] (fun fb => by kernel_rfl) (by kernel_rfl) rfl [0, 1] (by decide) (by decide) (fun w166 hS167 => ?_)
         refine ⟨trivial, ?_⟩
         refine seg 29 [] [0, 3, 7, 11, 12, 13, 103, 105] [(0, (sv Aa p0 ca)), (3, (pt g1)), (7, (sv A39 t34.1 c40)), (11, (iv x68)), (12, (pt g76)), (13, (iv x83)), (103, (bv t161)), (105, (.pointer (some ⟨g76, 1, none⟩)))] [] (fun fb => by kernel_rfl) rfl trivial ?_
         refine WL.store hS167 0 rfl [(1, (bv t161))] #[(bv t156), (bv t161), (bv b81), (bv b82)] (fun fb => by kernel_rfl) (by kernel_rfl) rfl [1, 2] (by decide) (by decide) (fun w168 hS169 => ?_)
         refine ⟨trivial, ?_⟩
         refine WL.done rfl ?_
         injection hx92 with hx92
         exact WX.to Kx91 (t156, t161) [0, 3, 7, 11, 12, 13] rfl ⟨(hS169.subR [0, 1, 2]).sub [1, 2, 0] (by decide), hx92.symm⟩
        refine segF 3 [.v (bv b79)] [0, 3, 7, 11, 12, 13, 80] [(0, (sv Aa p0 ca)), (3, (pt g1)), (7, (sv A39 t34.1 c40)), (11, (iv x68)), (12, (pt g76)), (13, (iv x83)), (80, (bv b79))] [] [0] [(1, ⟨g76, 0, none⟩, (bv b79))] (fun fb => by kernel_rfl) rfl trivial rfl ?_
        refine WL.setB 80 h93 rfl ?_
        refine segF 13 [.v (iv ((rdD t34.1 x68 z_Tile).N)), .v (iv ((rdD t34.1 x68 z_Tile).E)), .v (iv ((rdD t34.1 x68 z_Tile).S)), .v (iv ((rdD t34.1 x68 z_Tile).W)), .v (iv ((rdD t34.1 x83 z_Tile).N)), .v (iv ((rdD t34.1 x83 z_Tile).E)), .v (iv ((rdD t34.1 x83 z_Tile).S)), .v (iv ((rdD t34.1 x83 z_Tile).W)), .v (bv b80)] [0, 3, 7, 11, 12, 13, 80, 84, 88, 92] [(0, (sv Aa p0 ca)), (3, (pt g1)), (7, (sv A39 t34.1 c40)), (11, (iv x68)), (12, (pt g76)), (13, (iv x83)), (80, (bv false)), (84, (.agg #[(iv ((rdD t34.1 x68 z_Tile).N)), (iv ((rdD t34.1 x68 z_Tile).E)), (iv ((rdD t34.1 x68 z_Tile).S)), (iv ((rdD t34.1 x68 z_Tile).W))])), (88, (.agg #[(iv ((rdD t34.1 x83 z_Tile).N)), (iv ((rdD t34.1 x83 z_Tile).E)), (iv ((rdD t34.1 x83 z_Tile).S)), (iv ((rdD t34.1 x83 z_Tile).W))])), (92, (bv b80))] [.idx A39 x68 t34.1.length, .idx A39 x83 t34.1.length] [1, 2, 3, 4, 5, 6, 7, 8, 9] [(6, ((adr A39).add ((x68).toNat * 4)), (iv ((rdD t34.1 x68 z_Tile).N))), (6, (((adr A39).add ((x68).toNat * 4)).add 1), (iv ((rdD t34.1 x68 z_Tile).E))), (6, (((adr A39).add ((x68).toNat * 4)).add 2), (iv ((rdD t34.1 x68 z_Tile).S))), (6, (((adr A39).add ((x68).toNat * 4)).add 3), (iv ((rdD t34.1 x68 z_Tile).W))), (10, ((adr A39).add ((x83).toNat * 4)), (iv ((rdD t34.1 x83 z_Tile).N))), (10, (((adr A39).add ((x83).toNat * 4)).add 1), (iv ((rdD t34.1 x83 z_Tile).E))), (10, (((adr A39).add ((x83).toNat * 4)).add 2), (iv ((rdD t34.1 x83 z_Tile).S))), (10, (((adr A39).add ((x83).toNat * 4)).add 3), (iv ((rdD t34.1 x83 z_Tile).W))), (14, ⟨g76, 1, none⟩, (bv b80))] (fun fb => by kernel_rfl) rfl ⟨rowR.adr (rowO.rd (hS153.own 1).1) h154.1 h154.2, rowR.adr (rowO.rd (hS153.own 1).1) h155.1 h155.2, trivial⟩ rfl ?_
        obtain ⟨t170, ht171, hx92⟩ := bind_some hx92
        refine WL.call (some 89) 22 #[(.agg #[(iv ((rdD t34.1 x68 z_Tile).N)), (iv ((rdD t34.1 x68 z_Tile).E)), (iv ((rdD t34.1 x68 z_Tile).S)), (iv ((rdD t34.1 x68 z_Tile).W))]), (.agg #[(iv ((rdD t34.1 x83 z_Tile).N)), (iv ((rdD t34.1 x83 z_Tile).E)), (iv ((rdD t34.1 x83 z_Tile).S)), (iv ((rdD t34.1 x83 z_Tile).W))]), (bv false)] (fun fb => by kernel_rfl) (ref04_Leads_calls (rdD t34.1 x68 z_Tile) (rdD t34.1 x83 z_Tile) false t170 _ ht171) (fun v w172 hR173 => ?_)
        obtain ⟨rfl, hk_⟩ := hR173
        have hS174 := hS153.keepN hk_
        refine ⟨⟨hS174.cell 2 rfl 1 rfl, trivial⟩, ?_⟩
        refine seg 16 [] [0, 3, 7, 11, 12, 13, 90, 93] [(0, (sv Aa p0 ca)), (3, (pt g1)), (7, (sv A39 t34.1 c40)), (11, (iv x68)), (12, (pt g76)), (13, (iv x83)), (90, (bv t170)), (93, (bv b80))] [] (fun fb => by kernel_rfl) rfl trivial ?_
        refine WL.setB 93 h129 rfl ?_
        refine seg 25 [.v (iv ((rdD t34.1 x68 z_Tile).N)), .v (iv ((rdD t34.1 x68 z_Tile).E)), .v (iv ((rdD t34.1 x68 z_Tile).S)), .v (iv ((rdD t34.1 x68 z_Tile).W)), .v (iv ((rdD t34.1 x83 z_Tile).N)), .v (iv ((rdD t34.1 x83 z_Tile).E)), .v (iv ((rdD t34.1 x83 z_Tile).S)), .v (iv ((rdD t34.1 x83 z_Tile).W))] [0, 3, 7, 11, 12, 13, 90, 93, 97, 101, 104] [(0, (sv Aa p0 ca)), (3, (pt g1)), (7, (sv A39 t34.1 c40)), (11, (iv x68)), (12, (pt g76)), (13, (iv x83)), (90, (bv t170)), (93, (bv false)), (97, (.agg #[(iv ((rdD t34.1 x83 z_Tile).N)), (iv ((rdD t34.1 x83 z_Tile).E)), (iv ((rdD t34.1 x83 z_Tile).S)), (iv ((rdD t34.1 x83 z_Tile).W))])), (101, (.agg #[(iv ((rdD t34.1 x68 z_Tile).N)), (iv ((rdD t34.1 x68 z_Tile).E)), (iv ((rdD t34.1 x68 z_Tile).S)), (iv ((rdD t34.1 x68 z_Tile).W))])), (104, (pt g76))] [.idx A39 x83 t34.1.length, .idx A39 x68 t34.1.length, .cell ((adr A39).add ((x68).toNat * 4)) (iv ((rdD t34.1 x68 z_Tile).N)), .cell (((adr A39).add ((x68).toNat * 4)).add 1) (iv ((rdD t34.1 x68 z_Tile).E)), .cell (((adr A39).add ((x68).toNat * 4)).add 2) (iv ((rdD t34.1 x68 z_Tile).S)), .cell (((adr A39).add ((x68).toNat * 4)).add 3) (iv ((rdD t34.1 x68 z_Tile).W)), .cell ((adr A39).add ((x83).toNat * 4)) (iv ((rdD t34.1 x83 z_Tile).N)), .cell (((adr A39).add ((x83).toNat * 4)).add 1) (iv ((rdD t34.1 x83 z_Tile).E)), .cell (((adr A39).add ((x83).toNat * 4)).add 2) (iv ((rdD t34.1 x83 z_Tile).S)), .cell (((adr A39).add ((x83).toNat * 4)).add 3) (iv ((rdD t34.1 x83 z_Tile).W))] (fun fb => by kernel_rfl) rfl ⟨rowR.adr (rowO.rd (hS174.own 1).1) h155.1 h155.2, rowR.adr (rowO.rd (hS174.own 1).1) h154.1 h154.2, rowR.cell (rowO.rd (hS174.own 1).1) z_Tile h154.1 h154.2 0 rfl, rowR.cell (rowO.rd (hS174.own 1).1) z_Tile h154.1 h154.2 1 rfl, rowR.cell (rowO.rd (hS174.own 1).1) z_Tile h154.1 h154.2 2 rfl, rowR.cell (rowO.rd (hS174.own 1).1) z_Tile h154.1 h154.2 3 rfl, rowR.cell (rowO.rd (hS174.own 1).1) z_Tile h155.1 h155.2 0 rfl, rowR.cell (rowO.rd (hS174.own 1).1) z_Tile h155.1 h155.2 1 rfl, rowR.cell (rowO.rd (hS174.own 1).1) z_Tile h155.1 h155.2 2 rfl, rowR.cell (rowO.rd (hS174.own 1).1) z_Tile h155.1 h155.2 3 rfl, trivial⟩ ?_
        obtain ⟨t175, ht176, hx92⟩ := bind_some hx92
        refine WL.call (some 102) 22 #[(.agg #[(iv ((rdD t34.1 x83 z_Tile).N)), (iv ((rdD t34.1 x83 z_Tile).E)), (iv ((rdD t34.1 x83 z_Tile).S)), (iv ((rdD t34.1 x83 z_Tile).W))]), (.agg #[(iv ((rdD t34.1 x68 z_Tile).N)), (iv ((rdD t34.1 x68 z_Tile).E)), (iv ((rdD t34.1 x68 z_Tile).S)), (iv ((rdD t34.1 x68 z_Tile).W))]), (bv false)] (fun fb => by kernel_rfl) (ref04_Leads_calls (rdD t34.1 x83 z_Tile) (rdD t34.1 x68 z_Tile) false t175 _ ht176) (fun v w177 hR178 => ?_)
        obtain ⟨rfl, hk_⟩ := hR178
        have hS179 := hS174.keepN hk_
        refine ⟨trivial, ?_⟩
        refine seg 27 [] [0, 3, 7, 11, 12, 13, 90, 103, 104] [(0, (sv Aa p0 ca)), (3, (pt g1)), (7, (sv A39 t34.1 c40)), (11, (iv x68)), (12, (pt g76)), (13, (iv x83)), (90, (bv t170)), (103, (bv t175)), (104, (pt g76))] [] (fun fb => by kernel_rfl) rfl trivial ?_
        refine WL.store hS179 2 rfl [(0, (bv t170))] #[(bv t170), (bv b80), (bv b81), (bv b82)] (fun fb => by kernel_rfl) (by kernel_rfl) rfl [0, 1] (by decide) (by decide) (fun w180 hS181 => ?_)
        refine ⟨trivial, ?_⟩
        refine seg 29 [] [0, 3, 7, 11, 12, 13, 103, 105] [(0, (sv Aa p0 ca)), (3, (pt g1)), (7, (sv A39 t34.1 c40)), (11, (iv x68)), (12, (pt g76)), (13, (iv x83)), (103, (bv t175)), (105, (.pointer (some ⟨g76, 1, none⟩)))] [] (fun fb => by kernel_rfl) rfl trivial ?_
        refine WL.store hS181 0 rfl [(1, (bv t175))] #[(bv t170), (bv t175), (bv b81), (bv b82)] (fun fb => by kernel_rfl) (by kernel_rfl) rfl [1, 2] (by decide) (by decide) (fun w182 hS183 => ?_)
        refine ⟨trivial, ?_⟩
        refine WL.done rfl ?_
        injection hx92 with hx92
        exact WX.to Kx91 (t170, t175) [0, 3, 7, 11, 12, 13] rfl ⟨(hS183.subR [0, 1, 2]).sub [1, 2, 0] (by decide), hx92.symm⟩
       rintro y187 w184 ⟨hS185, hq186⟩
       subst hq186
       refine WX.next ?_
       obtain ⟨x188, hx189, hl89⟩ := bind_some hl89
       refine WC.cutN (T := Bool × Bool) (fun t => [(0, (sv Aa p0 ca)), (3, (pt g1)), (7, (sv A39 t34.1 c40)), (11, (iv x68)), (12, (pt g76)), (13, (iv x83))]) (fun t w1 => St NoS w w1 [rowR enc_Tile Aa ca p0, rowR encInt Ab cb p1.Cells, gloO Tryd.prog 2 5 0 1 mG] [blk g1 (.cells #[(iv p1.Width), (iv p1.Height), (sv Ab p1.Cells cb)] 47 (0, 0)), rowO 53 enc_Tile A39 c40 t34.1, blk g76 (.cells #[(bv x91.1), (bv x91.2), (bv t.1), (bv t.2)] 50 (0, 0))] ∧ x188 = t) (fun Kx188 => ?_) ?_
       ·
        rcases br_some hx189 with ⟨h190, hx189⟩ | ⟨h190, hx189⟩
        ·
         rcases br_some hx189 with ⟨h191, hx189⟩ | ⟨h191, hx189⟩
         ·
          refine WC.regionD ([(1, ⟨g76, 2, none⟩, (bv b81)), (14, ⟨g76, 3, none⟩, (bv b82))], [0, 1, 2, 3, 4, 5, 6, 7, 8, 9, 10, 12, 13, 14, 15, 16, 17, 18, 20, 21, 22, 25, 26, 28], [[], [0], [0, 1], [0, 1, 2], [0, 1, 2], [0, 1, 2, 3, 4], [0, 1, 2, 3, 4, 5], [0, 1, 2], [0, 1, 2], [0, 1, 2, 7, 8], [0, 1, 2, 7, 8, 9], [0, 1, 2, 3, 4, 5, 6, 7, 8, 9, 10], [0, 1, 2, 3, 4, 5, 6, 7, 8, 9, 10, 11], [], [13], [0, 1, 2, 3, 4, 5, 6, 7, 8, 9, 10, 11, 13, 14], [0, 1, 2, 3, 4, 5, 6, 7, 8, 9, 10, 11, 13, 14, 15], [0, 1, 2, 3, 4, 5, 6, 7, 8, 9, 10, 11, 13, 14, 15], [0, 1, 2, 3, 4, 5, 6, 7, 8, 9, 10, 11, 13, 14, 15, 16, 17], [0, 1, 2, 3, 4, 5, 6, 7, 8, 9, 10, 11, 13, 14, 15, 16, 17, 18], [0, 1, 2, 3, 4, 5, 6, 7, 8, 9, 10, 11, 13, 14, 15], [0, 1, 2, 3, 4, 5, 6, 7, 8, 9, 10, 11, 13, 14, 15], [0, 1, 2, 3, 4, 5, 6, 7, 8, 9, 10, 11, 13, 14, 15, 20, 21], [0, 1, 2, 3, 4, 5, 6, 7, 8, 9, 10, 11, 13, 14, 15, 20, 21, 22], [0, 1, 2, 3, 4, 5, 6, 7, 8, 9, 10, 11, 13, 14, 15, 16, 17, 18, 19, 20, 21, 22, 23], [0, 1, 2, 3, 4, 5, 6, 7, 8, 9, 10, 11, 13, 14, 15, 16, 17, 18, 19, 20, 21, 22, 23, 24], [0, 1, 2, 3, 4, 5, 6, 7, 8, 9, 10, 11, 12, 13, 14], [0, 1, 2, 3, 4, 5, 6, 7, 8, 9, 10, 11, 12, 13, 14, 15, 16, 17, 18, 19, 20, 21, 22, 23, 24, 26], [0, 1, 2, 3, 4, 5, 6, 7, 8, 9, 10, 11, 12, 13, 14, 15, 16, 17, 18, 19, 20, 21, 22, 23, 24, 25, 26, 27], [0, 1, 2, 3, 4, 5, 6, 7, 8, 9, 10, 11, 12, 13, 14, 15, 16, 17, 18, 19, 20, 21, 22, 23, 24, 25, 26, 27, 28]]) [[0, 1, 2, 3, 4, 5, 6, 7, 8, 9, 10, 13, 14, 11, 12, 15, 16, 17, 18, 20, 21, 22, 26, 19, 23, 24, 25, 27, 28, 29], [0, 1, 2, 3, 4, 5, 6, 7, 8, 9, 10, 13, 14, 11, 12, 15, 16, 17, 18, 20, 21, 22, 26, 23, 19, 24, 25, 27, 28, 29]] (by kernel_rfl) (by kernel_rfl) (NoPanic.block (NoPanic.seq (NoPanic.seq (NoPanic.block (NoPanic.seq (NoPanic.block (NoPanic.seq (NoPanic.seq (NoPanic.block (NoPanic.seq (NoPanic.body))))))))))) ?_
          have hS193 := hS185.drew
          revert hS193
          generalize World.drew w184 = w192
          intro hS193
          refine ⟨⟨hS193.cell 2 rfl 2 rfl, hS193.cell 2 rfl 3 rfl, trivial⟩, forallC ?_ (forallC ?_ (forallN))⟩
          ·
           refine segF 3 [.v (bv b81)] [0, 3, 7, 11, 12, 13, 108] [(0, (sv Aa p0 ca)), (3, (pt g1)), (7, (sv A39 t34.1 c40)), (11, (iv x68)), (12, (pt g76)), (13, (iv x83)), (108, (bv b81))] [] [0] [(1, ⟨g76, 2, none⟩, (bv b81))] (fun fb => by kernel_rfl) rfl trivial rfl ?_
           refine WL.setB 108 h190 rfl ?_
           refine segF 16 [.v (bv b82)] [0, 3, 7, 11, 12, 13, 118, 121] [(0, (sv Aa p0 ca)), (3, (pt g1)), (7, (sv A39 t34.1 c40)), (11, (iv x68)), (12, (pt g76)), (13, (iv x83)), (118, (bv true)), (121, (bv b82))] [] [1] [(14, ⟨g76, 3, none⟩, (bv b82))] (fun fb => by kernel_rfl) rfl trivial rfl ?_
           refine WL.setB 121 h191 rfl ?_
           refine seg 27 [] [0, 3, 7, 11, 12, 13, 118, 131, 132] [(0, (sv Aa p0 ca)), (3, (pt g1)), (7, (sv A39 t34.1 c40)), (11, (iv x68)), (12, (pt g76)), (13, (iv x83)), (118, (bv true)), (131, (bv true)), (132, (.pointer (some ⟨g76, 2, none⟩)))] [] (fun fb => by kernel_rfl) rfl trivial ?_
           refine WL.store hS193 2 rfl [(2, (bv true))] #[(bv x91.1), (bv x91.2), (bv true), (bv b82)] (fun fb => by kernel_rfl) (by kernel_rfl) rfl [0, 1] (by decide) (by decide) (fun w194 hS195 => ?_)
           refine ⟨trivial, ?_⟩
           refine seg 29 [] [0, 3, 7, 11, 12, 13, 131, 133] [(0, (sv Aa p0 ca)), (3, (pt g1)), (7, (sv A39 t34.1 c40)), (11, (iv x68)), (12, (pt g76)), (13, (iv x83)), (131, (bv true)), (133, (.pointer (some ⟨g76, 3, none⟩)))] [] (fun fb => by kernel_rfl) rfl trivial ?_
           refine WL.store hS195 0 rfl [(3, (bv true))] #[(bv x91.1), (bv x91.2), (bv true), (bv true)] (fun fb => by kernel_rfl) (by kernel_rfl) rfl [1, 2] (by decide) (by decide) (fun w196 hS197 => ?_)
           refine ⟨trivial, ?_⟩
           refine WL.done rfl ?_
           injection hx189 with hx189
           exact WX.to Kx188 (true, true) [0, 3, 7, 11, 12, 13] rfl ⟨(hS197.subR [0, 1, 2]).sub [1, 2, 0] (by decide), hx189.symm⟩
          refine segF 3 [.v (bv b81)] [0, 3, 7, 11, 12, 13, 108] [(0, (sv Aa p0 ca)), (3, (pt g1)), (7, (sv A39 t34.1 c40)), (11, (iv x68)), (12, (pt g76)), (13, (iv x83)), (108, (bv b81))] [] [0] [(1, ⟨g76, 2, none⟩, (bv b81))] (fun fb => by kernel_rfl) rfl trivial rfl ?_
          refine WL.setB 108 h190 rfl ?_
          refine segF 16 [.v (bv b82)] [0, 3, 7, 11, 12, 13, 118, 121] [(0, (sv Aa p0 ca)), (3, (pt g1)), (7, (sv A39 t34.1 c40)), (11, (iv x68)), (12, (pt g76)), (13, (iv x83)), (118, (bv true)), (121, (bv b82))] [] [1] [(14, ⟨g76, 3, none⟩, (bv b82))] (fun fb => by kernel_rfl) rfl trivial rfl ?_
          refine WL.setB 121 h191 rfl ?_
          refine seg 27 [] [0, 3, 7, 11, 12, 13, 118, 131, 132] [(0, (sv Aa p0 ca)), (3, (pt g1)), (7, (sv A39 t34.1 c40)), (11, (iv x68)), (12, (pt g76)), (13, (iv x83)), (118, (bv true)), (131, (bv true)), (132, (.pointer (some ⟨g76, 2, none⟩)))] [] (fun fb => by kernel_rfl) rfl trivial ?_
          refine WL.store hS193 2 rfl [(2, (bv true))] #[(bv x91.1), (bv x91.2), (bv true), (bv b82)] (fun fb => by kernel_rfl) (by kernel_rfl) rfl [0, 1] (by decide) (by decide) (fun w198 hS199 => ?_)
          refine ⟨trivial, ?_⟩
          refine seg 29 [] [0, 3, 7, 11, 12, 13, 131, 133] [(0, (sv Aa p0 ca)), (3, (pt g1)), (7, (sv A39 t34.1 c40)), (11, (iv x68)), (12, (pt g76)), (13, (iv x83)), (131, (bv true)), (133, (.pointer (some ⟨g76, 3, none⟩)))] [] (fun fb => by kernel_rfl) rfl trivial ?_
          refine WL.store hS199 0 rfl [(3, (bv true))] #[(bv x91.1), (bv x91.2), (bv true), (bv true)] (fun fb => by kernel_rfl) (by kernel_rfl) rfl [1, 2] (by decide) (by decide) (fun w200 hS201 => ?_)
          refine ⟨trivial, ?_⟩
          refine WL.done rfl ?_
          injection hx189 with hx189
          exact WX.to Kx188 (true, true) [0, 3, 7, 11, 12, 13] rfl ⟨(hS201.subR [0, 1, 2]).sub [1, 2, 0] (by decide), hx189.symm⟩
         refine WC.regionD ([(1, ⟨g76, 2, none⟩, (bv b81)), (14, ⟨g76, 3, none⟩, (bv b82))], [0, 1, 2, 3, 4, 5, 6, 7, 8, 9, 10, 12, 13, 14, 15, 16, 17, 18, 20, 21, 22, 25, 26, 28], [[], [0], [0, 1], [0, 1, 2], [0, 1, 2], [0, 1, 2, 3, 4], [0, 1, 2, 3, 4, 5], [0, 1, 2], [0, 1, 2], [0, 1, 2, 7, 8], [0, 1, 2, 7, 8, 9], [0, 1, 2, 3, 4, 5, 6, 7, 8, 9, 10], [0, 1, 2, 3, 4, 5, 6, 7, 8, 9, 10, 11], [], [13], [0, 1, 2, 3, 4, 5, 6, 7, 8, 9, 10, 11, 13, 14], [0, 1, 2, 3, 4, 5, 6, 7, 8, 9, 10, 11, 13, 14, 15], [0, 1, 2, 3, 4, 5, 6, 7, 8, 9, 10, 11, 13, 14, 15], [0, 1, 2, 3, 4, 5, 6, 7, 8, 9, 10, 11, 13, 14, 15, 16, 17], [0, 1, 2, 3, 4, 5, 6, 7, 8, 9, 10, 11, 13, 14, 15, 16, 17, 18], [0, 1, 2, 3, 4, 5, 6, 7, 8, 9, 10, 11, 13, 14, 15], [0, 1, 2, 3, 4, 5, 6, 7, 8, 9, 10, 11, 13, 14, 15], [0, 1, 2, 3, 4, 5, 6, 7, 8, 9, 10, 11, 13, 14, 15, 20, 21], [0, 1, 2, 3, 4, 5, 6, 7, 8, 9, 10, 11, 13, 14, 15, 20, 21, 22], [0, 1, 2, 3, 4, 5, 6, 7, 8, 9, 10, 11, 13, 14, 15, 16, 17, 18, 19, 20, 21, 22, 23], [0, 1, 2, 3, 4, 5, 6, 7, 8, 9, 10, 11, 13, 14, 15, 16, 17, 18, 19, 20, 21, 22, 23, 24], [0, 1, 2, 3, 4, 5, 6, 7, 8, 9, 10, 11, 12, 13, 14], [0, 1, 2, 3, 4, 5, 6, 7, 8, 9, 10, 11, 12, 13, 14, 15, 16, 17, 18, 19, 20, 21, 22, 23, 24, 26], [0, 1, 2, 3, 4, 5, 6, 7, 8, 9, 10, 11, 12, 13, 14, 15, 16, 17, 18, 19, 20, 21, 22, 23, 24, 25, 26, 27], [0, 1, 2, 3, 4, 5, 6, 7, 8, 9, 10, 11, 12, 13, 14, 15, 16, 17, 18, 19, 20, 21, 22, 23, 24, 25, 26, 27, 28]]) [[0, 1, 2, 3, 4, 5, 6, 7, 8, 9, 10, 13, 14, 11, 12, 15, 16, 17, 18, 20, 21, 22, 26, 19, 23, 24, 25, 27, 28, 29], [0, 1, 2, 3, 4, 5, 6, 7, 8, 9, 10, 13, 14, 11, 12, 15, 16, 17, 18, 20, 21, 22, 26, 23, 19, 24, 25, 27, 28, 29]] (by kernel_rfl) (by kernel_rfl) (NoPanic.block (NoPanic.seq (NoPanic.seq (NoPanic.block (NoPanic.seq (NoPanic.block (NoPanic.seq (NoPanic.seq (NoPanic.block (NoPanic.seq (NoPanic.body))))))))))) ?_
         have hS203 := hS185.drew
         revert hS203
         generalize World.drew w184 = w202
         intro hS203
         refine ⟨⟨hS203.cell 2 rfl 2 rfl, hS203.cell 2 rfl 3 rfl, trivial⟩, forallC ?_ (forallC ?_ (forallN))⟩
         ·
          refine segF 3 [.v (bv b81)] [0, 3, 7, 11, 12, 13, 108] [(0, (sv Aa p0 ca)), (3, (pt g1)), (7, (sv A39 t34.1 c40)), (11, (iv x68)), (12, (pt g76)), (13, (iv x83)), (108, (bv b81))] [] [0] [(1, ⟨g76, 2, none⟩, (bv b81))] (fun fb => by kernel_rfl) rfl trivial rfl ?_
          refine WL.setB 108 h190 rfl ?_
          refine segF 16 [.v (bv b82)] [0, 3, 7, 11, 12, 13, 118, 121] [(0, (sv Aa p0 ca)), (3, (pt g1)), (7, (sv A39 t34.1 c40)), (11, (iv x68)), (12, (pt g76)), (13, (iv x83)), (118, (bv true)), (121, (bv b82))] [] [1] [(14, ⟨g76, 3, none⟩, (bv b82))] (fun fb => by kernel_rfl) rfl trivial rfl ?_
          refine WL.setB 121 h191 rfl ?_
          refine seg 18 [] [0, 3, 7, 11, 12, 13, 118, 121, 122, 123] [(0, (sv Aa p0 ca)), (3, (pt g1)), (7, (sv A39 t34.1 c40)), (11, (iv x68)), (12, (pt g76)), (13, (iv x83)), (118, (bv true)), (121, (bv false)), (122, (sv A39 t34.1 c40)), (123, (iv x83))] [] (fun fb => by kernel_rfl) rfl trivial ?_
          obtain ⟨h204, hx189⟩ := as_some hx189
          refine seg 21 [] [0, 3, 7, 11, 12, 13, 118, 121, 124, 126, 127] [(0, (sv Aa p0 ca)), (3, (pt g1)), (7, (sv A39 t34.1 c40)), (11, (iv x68)), (12, (pt g76)), (13, (iv x83)), (118, (bv true)), (121, (bv false)), (124, (.pointer (some ((adr A39).add ((x83).toNat * 4))))), (126, (sv A39 t34.1 c40)), (127, (iv x68))] [.idx A39 x83 t34.1.length] (fun fb => by kernel_rfl) rfl ⟨rowR.adr (rowO.rd (hS203.own 1).1) h204.1 h204.2, trivial⟩ ?_
          obtain ⟨h205, hx189⟩ := as_some hx189
          refine seg 25 [.v (iv ((rdD t34.1 x83 z_Tile).N)), .v (iv ((rdD t34.1 x83 z_Tile).E)), .v (iv ((rdD t34.1 x83 z_Tile).S)), .v (iv ((rdD t34.1 x83 z_Tile).W)), .v (iv ((rdD t34.1 x68 z_Tile).N)), .v (iv ((rdD t34.1 x68 z_Tile).E)), .v (iv ((rdD t34.1 x68 z_Tile).S)), .v (iv ((rdD t34.1 x68 z_Tile).W))] [0, 3, 7, 11, 12, 13, 118, 121, 125, 129, 132] [(0, (sv Aa p0 ca)), (3, (pt g1)), (7, (sv A39 t34.1 c40)), (11, (iv x68)), (12, (pt g76)), (13, (iv x83)), (118, (bv true)), (121, (bv false)), (125, (.agg #[(iv ((rdD t34.1 x83 z_Tile).N)), (iv ((rdD t34.1 x83 z_Tile).E)), (iv ((rdD t34.1 x83 z_Tile).S)), (iv ((rdD t34.1 x83 z_Tile).W))])), (129, (.agg #[(iv ((rdD t34.1 x68 z_Tile).N)), (iv ((rdD t34.1 x68 z_Tile).E)), (iv ((rdD t34.1 x68 z_Tile).S)), (iv ((rdD t34.1 x68 z_Tile).W))])), (132, (.pointer (some ⟨g76, 2, none⟩)))] [.idx A39 x68 t34.1.length, .cell ((adr A39).add ((x83).toNat * 4)) (iv ((rdD t34.1 x83 z_Tile).N)), .cell (((adr A39).add ((x83).toNat * 4)).add 1) (iv ((rdD t34.1 x83 z_Tile).E)), .cell (((adr A39).add ((x83).toNat * 4)).add 2) (iv ((rdD t34.1 x83 z_Tile).S)), .cell (((adr A39).add ((x83).toNat * 4)).add 3) (iv ((rdD t34.1 x83 z_Tile).W)), .cell ((adr A39).add ((x68).toNat * 4)) (iv ((rdD t34.1 x68 z_Tile).N)), .cell (((adr A39).add ((x68).toNat * 4)).add 1) (iv ((rdD t34.1 x68 z_Tile).E)), .cell (((adr A39).add ((x68).toNat * 4)).add 2) (iv ((rdD t34.1 x68 z_Tile).S)), .cell (((adr A39).add ((x68).toNat * 4)).add 3) (iv ((rdD t34.1 x68 z_Tile).W))] (fun fb => by kernel_rfl) rfl ⟨rowR.adr (rowO.rd (hS203.own 1).1) h205.1 h205.2, rowR.cell (rowO.rd (hS203.own 1).1) z_Tile h204.1 h204.2 0 rfl, rowR.cell (rowO.rd (hS203.own 1).1) z_Tile h204.1 h204.2 1 rfl, rowR.cell (rowO.rd (hS203.own 1).1) z_Tile h204.1 h204.2 2 rfl, rowR.cell (rowO.rd (hS203.own 1).1) z_Tile h204.1 h204.2 3 rfl, rowR.cell (rowO.rd (hS203.own 1).1) z_Tile h205.1 h205.2 0 rfl, rowR.cell (rowO.rd (hS203.own 1).1) z_Tile h205.1 h205.2 1 rfl, rowR.cell (rowO.rd (hS203.own 1).1) z_Tile h205.1 h205.2 2 rfl, rowR.cell (rowO.rd (hS203.own 1).1) z_Tile h205.1 h205.2 3 rfl, trivial⟩ ?_
          obtain ⟨t206, ht207, hx189⟩ := bind_some hx189
          refine WL.call (some 130) 22 #[(.agg #[(iv ((rdD t34.1 x83 z_Tile).N)), (iv ((rdD t34.1 x83 z_Tile).E)), (iv ((rdD t34.1 x83 z_Tile).S)), (iv ((rdD t34.1 x83 z_Tile).W))]), (.agg #[(iv ((rdD t34.1 x68 z_Tile).N)), (iv ((rdD t34.1 x68 z_Tile).E)), (iv ((rdD t34.1 x68 z_Tile).S)), (iv ((rdD t34.1 x68 z_Tile).W))]), (bv true)] (fun fb => by kernel_rfl) (ref04_Leads_calls (rdD t34.1 x83 z_Tile) (rdD t34.1 x68 z_Tile) true t206 _ ht207) (fun v w208 hR209 => ?_)
          obtain ⟨rfl, hk_⟩ := hR209
          have hS210 := hS203.keepN hk_
          refine ⟨trivial, ?_⟩
          refine seg 27 [] [0, 3, 7, 11, 12, 13, 118, 131, 132] [(0, (sv Aa p0 ca)), (3, (pt g1)), (7, (sv A39 t34.1 c40)), (11, (iv x68)), (12, (pt g76)), (13, (iv x83)), (118, (bv true)), (131, (bv t206)), (132, (.pointer (some ⟨g76, 2, none⟩)))] [] (fun fb => by kernel_rfl) rfl trivial ?_
          refine WL.store hS210 2 rfl [(2, (bv true))] #[(bv x91.1), (bv x91.2), (bv true), (bv b82)] (fun fb => by kernel_rfl) (by kernel_rfl) rfl [0, 1] (by decide) (by decide) (fun w211 hS212 => ?_)
          refine ⟨trivial, ?_⟩
          refine seg 29 [] [0, 3, 7, 11, 12, 13, 131, 133] [(0, (sv Aa p0 ca)), (3, (pt g1)), (7, (sv A39 t34.1 c40)), (11, (iv x68)), (12, (pt g76)), (13, (iv x83)), (131, (bv t206)), (133, (.pointer (some ⟨g76, 3, none⟩)))] [] (fun fb => by kernel_rfl) rfl trivial ?_
          refine WL.store hS212 0 rfl [(3, (bv t206))] #[(bv x91.1), (bv x91.2), (bv true), (bv t206)] (fun fb => by kernel_rfl) (by kernel_rfl) rfl [1, 2] (by decide) (by decide) (fun w213 hS214 => ?_)
          refine ⟨trivial, ?_⟩
          refine WL.done rfl ?_
          injection hx189 with hx189
          exact WX.to Kx188 (true, t206) [0, 3, 7, 11, 12, 13] rfl ⟨(hS214.subR [0, 1, 2]).sub [1, 2, 0] (by decide), hx189.symm⟩
         refine segF 3 [.v (bv b81)] [0, 3, 7, 11, 12, 13, 108] [(0, (sv Aa p0 ca)), (3, (pt g1)), (7, (sv A39 t34.1 c40)), (11, (iv x68)), (12, (pt g76)), (13, (iv x83)), (108, (bv b81))] [] [0] [(1, ⟨g76, 2, none⟩, (bv b81))] (fun fb => by kernel_rfl) rfl trivial rfl ?_
         refine WL.setB 108 h190 rfl ?_
         refine segF 16 [.v (bv b82)] [0, 3, 7, 11, 12, 13, 118, 121] [(0, (sv Aa p0 ca)), (3, (pt g1)), (7, (sv A39 t34.1 c40)), (11, (iv x68)), (12, (pt g76)), (13, (iv x83)), (118, (bv true)), (121, (bv b82))] [] [1] [(14, ⟨g76, 3, none⟩, (bv b82))] (fun fb => by kernel_rfl) rfl trivial rfl ?_
         refine WL.setB 121 h191 rfl ?_
         refine seg 18 [] [0, 3, 7, 11, 12, 13, 118, 121, 122, 123] [(0, (sv Aa p0 ca)), (3, (pt g1)), (7, (sv A39 t34.1 c40)), (11, (iv x68)), (12, (pt g76)), (13, (iv x83)), (118, (bv true)), (121, (bv false)), (122, (sv A39 t34.1 c40)), (123, (iv x83))] [] (fun fb => by kernel_rfl) rfl trivial ?_
         obtain ⟨h215, hx189⟩ := as_some hx189
         refine seg 21 [] [0, 3, 7, 11, 12, 13, 118, 121, 124, 126, 127] [(0, (sv Aa p0 ca)), (3, (pt g1)), (7, (sv A39 t34.1 c40)), (11, (iv x68)), (12, (pt g76)), (13, (iv x83)), (118, (bv true)), (121, (bv false)), (124, (.pointer (some ((adr A39).add ((x83).toNat * 4))))), (126, (sv A39 t34.1 c40)), (127, (iv x68))] [.idx A39 x83 t34.1.length] (fun fb => by kernel_rfl) rfl ⟨rowR.adr (rowO.rd (hS203.own 1).1) h215.1 h215.2, trivial⟩ ?_
         obtain ⟨h216, hx189⟩ := as_some hx189
         refine seg 25 [.v (iv ((rdD t34.1 x68 z_Tile).N)), .v (iv ((rdD t34.1 x68 z_Tile).E)), .v (iv ((rdD t34.1 x68 z_Tile).S)), .v (iv ((rdD t34.1 x68 z_Tile).W)), .v (iv ((rdD t34.1 x83 z_Tile).N)), .v (iv ((rdD t34.1 x83 z_Tile).E)), .v (iv ((rdD t34.1 x83 z_Tile).S)), .v (iv ((rdD t34.1 x83 z_Tile).W))] [0, 3, 7, 11, 12, 13, 118, 121, 125, 129, 132] [(0, (sv Aa p0 ca)), (3, (pt g1)), (7, (sv A39 t34.1 c40)), (11, (iv x68)), (12, (pt g76)), (13, (iv x83)), (118, (bv true)), (121, (bv false)), (125, (.agg #[(iv ((rdD t34.1 x83 z_Tile).N)), (iv ((rdD t34.1 x83 z_Tile).E)), (iv ((rdD t34.1 x83 z_Tile).S)), (iv ((rdD t34.1 x83 z_Tile).W))])), (129, (.agg #[(iv ((rdD t34.1 x68 z_Tile).N)), (iv ((rdD t34.1 x68 z_Tile).E)), (iv ((rdD t34.1 x68 z_Tile).S)), (iv ((rdD t34.1 x68 z_Tile).W))])), (132, (.pointer (some ⟨g76, 2, none⟩)))] [.idx A39 x68 t34.1.length, .cell ((adr A39).add ((x68).toNat * 4)) (iv ((rdD t34.1 x68 z_Tile).N)), .cell (((adr A39).add ((x68).toNat * 4)).add 1) (iv ((rdD t34.1 x68 z_Tile).E)), .cell (((adr A39).add ((x68).toNat * 4)).add 2) (iv ((rdD t34.1 x68 z_Tile).S)), .cell (((adr A39).add ((x68).toNat * 4)).add 3) (iv ((rdD t34.1 x68 z_Tile).W)), .cell ((adr A39).add ((x83).toNat * 4)) (iv ((rdD t34.1 x83 z_Tile).N)), .cell (((adr A39).add ((x83).toNat * 4)).add 1) (iv ((rdD t34.1 x83 z_Tile).E)), .cell (((adr A39).add ((x83).toNat * 4)).add 2) (iv ((rdD t34.1 x83 z_Tile).S)), .cell (((adr A39).add ((x83).toNat * 4)).add 3) (iv ((rdD t34.1 x83 z_Tile).W))] (fun fb => by kernel_rfl) rfl ⟨rowR.adr (rowO.rd (hS203.own 1).1) h216.1 h216.2, rowR.cell (rowO.rd (hS203.own 1).1) z_Tile h216.1 h216.2 0 rfl, rowR.cell (rowO.rd (hS203.own 1).1) z_Tile h216.1 h216.2 1 rfl, rowR.cell (rowO.rd (hS203.own 1).1) z_Tile h216.1 h216.2 2 rfl, rowR.cell (rowO.rd (hS203.own 1).1) z_Tile h216.1 h216.2 3 rfl, rowR.cell (rowO.rd (hS203.own 1).1) z_Tile h215.1 h215.2 0 rfl, rowR.cell (rowO.rd (hS203.own 1).1) z_Tile h215.1 h215.2 1 rfl, rowR.cell (rowO.rd (hS203.own 1).1) z_Tile h215.1 h215.2 2 rfl, rowR.cell (rowO.rd (hS203.own 1).1) z_Tile h215.1 h215.2 3 rfl, trivial⟩ ?_
         obtain ⟨t217, ht218, hx189⟩ := bind_some hx189
         refine WL.call (some 130) 22 #[(.agg #[(iv ((rdD t34.1 x83 z_Tile).N)), (iv ((rdD t34.1 x83 z_Tile).E)), (iv ((rdD t34.1 x83 z_Tile).S)), (iv ((rdD t34.1 x83 z_Tile).W))]), (.agg #[(iv ((rdD t34.1 x68 z_Tile).N)), (iv ((rdD t34.1 x68 z_Tile).E)), (iv ((rdD t34.1 x68 z_Tile).S)), (iv ((rdD t34.1 x68 z_Tile).W))]), (bv true)] (fun fb => by kernel_rfl) (ref04_Leads_calls (rdD t34.1 x83 z_Tile) (rdD t34.1 x68 z_Tile) true t217 _ ht218) (fun v w219 hR220 => ?_)
         obtain ⟨rfl, hk_⟩ := hR220
         have hS221 := hS203.keepN hk_
         refine ⟨trivial, ?_⟩
         refine seg 27 [] [0, 3, 7, 11, 12, 13, 118, 131, 132] [(0, (sv Aa p0 ca)), (3, (pt g1)), (7, (sv A39 t34.1 c40)), (11, (iv x68)), (12, (pt g76)), (13, (iv x83)), (118, (bv true)), (131, (bv t217)), (132, (.pointer (some ⟨g76, 2, none⟩)))] [] (fun fb => by kernel_rfl) rfl trivial ?_
         refine WL.store hS221 2 rfl [(2, (bv true))] #[(bv x91.1), (bv x91.2), (bv true), (bv b82)] (fun fb => by kernel_rfl) (by kernel_rfl) rfl [0, 1] (by decide) (by decide) (fun w222 hS223 => ?_)
         refine ⟨trivial, ?_⟩
         refine seg 29 [] [0, 3, 7, 11, 12, 13, 131, 133] [(0, (sv Aa p0 ca)), (3, (pt g1)), (7, (sv A39 t34.1 c40)), (11, (iv x68)), (12, (pt g76)), (13, (iv x83)), (131, (bv t217)), (133, (.pointer (some ⟨g76, 3, none⟩)))] [] (fun fb => by kernel_rfl) rfl trivial ?_
         refine WL.store hS223 0 rfl [(3, (bv t217))] #[(bv x91.1), (bv x91.2), (bv true), (bv t217)] (fun fb => by kernel_rfl) (by kernel_rfl) rfl [1, 2] (by decide) (by decide) (fun w224 hS225 => ?_)
         refine ⟨trivial, ?_⟩
         refine WL.done rfl ?_
         injection hx189 with hx189
         exact WX.to Kx188 (true, t217) [0, 3, 7, 11, 12, 13] rfl ⟨(hS225.subR [0, 1, 2]).sub [1, 2, 0] (by decide), hx189.symm⟩
        rcases br_some hx189 with ⟨h226, hx189⟩ | ⟨h226, hx189⟩
        ·
         obtain ⟨h229, hx189⟩ := as_some hx189
         obtain ⟨h230, hx189⟩ := as_some hx189
         refine WC.regionD ([(1, ⟨g76, 2, none⟩, (bv b81)), (6, ((adr A39).add ((x68).toNat * 4)), (iv ((rdD t34.1 x68 z_Tile).N))), (6, (((adr A39).add ((x68).toNat * 4)).add 1), (iv ((rdD t34.1 x68 z_Tile).E))), (6, (((adr A39).add ((x68).toNat * 4)).add 2), (iv ((rdD t34.1 x68 z_Tile).S))), (6, (((adr A39).add ((x68).toNat * 4)).add 3), (iv ((rdD t34.1 x68 z_Tile).W))), (10, ((adr A39).add ((x83).toNat * 4)), (iv ((rdD t34.1 x83 z_Tile).N))), (10, (((adr A39).add ((x83).toNat * 4)).add 1), (iv ((rdD t34.1 x83 z_Tile).E))), (10, (((adr A39).add ((x83).toNat * 4)).add 2), (iv ((rdD t34.1 x83 z_Tile).S))), (10, (((adr A39).add ((x83).toNat * 4)).add 3), (iv ((rdD t34.1 x83 z_Tile).W))), (14, ⟨g76, 3, none⟩, (bv b82))], [0, 1, 2, 3, 4, 5, 6, 7, 8, 9, 10, 12, 13, 14, 15, 16, 17, 18, 20, 21, 22, 25, 26, 28], [[], [0], [0, 1], [0, 1, 2], [0, 1, 2], [0, 1, 2, 3, 4], [0, 1, 2, 3, 4, 5], [0, 1, 2], [0, 1, 2], [0, 1, 2, 7, 8], [0, 1, 2, 7, 8, 9], [0, 1, 2, 3, 4, 5, 6, 7, 8, 9, 10], [0, 1, 2, 3, 4, 5, 6, 7, 8, 9, 10, 11], [], [13], [0, 1, 2, 3, 4, 5, 6, 7, 8, 9, 10, 11, 13, 14], [0, 1, 2, 3, 4, 5, 6, 7, 8, 9, 10, 11, 13, 14, 15], [0, 1, 2, 3, 4, 5, 6, 7, 8, 9, 10, 11, 13, 14, 15], [0, 1, 2, 3, 4, 5, 6, 7, 8, 9, 10, 11, 13, 14, 15, 16, 17], [0, 1, 2, 3, 4, 5, 6, 7, 8, 9, 10, 11, 13, 14, 15, 16, 17, 18], [0, 1, 2, 3, 4, 5, 6, 7, 8, 9, 10, 11, 13, 14, 15], [0, 1, 2, 3, 4, 5, 6, 7, 8, 9, 10, 11, 13, 14, 15], [0, 1, 2, 3, 4, 5, 6, 7, 8, 9, 10, 11, 13, 14, 15, 20, 21], [0, 1, 2, 3, 4, 5, 6, 7, 8, 9, 10, 11, 13, 14, 15, 20, 21, 22], [0, 1, 2, 3, 4, 5, 6, 7, 8, 9, 10, 11, 13, 14, 15, 16, 17, 18, 19, 20, 21, 22, 23], [0, 1, 2, 3, 4, 5, 6, 7, 8, 9, 10, 11, 13, 14, 15, 16, 17, 18, 19, 20, 21, 22, 23, 24], [0, 1, 2, 3, 4, 5, 6, 7, 8, 9, 10, 11, 12, 13, 14], [0, 1, 2, 3, 4, 5, 6, 7, 8, 9, 10, 11, 12, 13, 14, 15, 16, 17, 18, 19, 20, 21, 22, 23, 24, 26], [0, 1, 2, 3, 4, 5, 6, 7, 8, 9, 10, 11, 12, 13, 14, 15, 16, 17, 18, 19, 20, 21, 22, 23, 24, 25, 26, 27], [0, 1, 2, 3, 4, 5, 6, 7, 8, 9, 10, 11, 12, 13, 14, 15, 16, 17, 18, 19, 20, 21, 22, 23, 24, 25, 26, 27, 28]]) [[0, 1, 2, 3, 4, 5, 6, 7, 8, 9, 10, 13, 14, 11, 12, 15, 16, 17, 18, 20, 21, 22, 26, 19, 23, 24, 25, 27, 28, 29], [0, 1, 2, 3, 4, 5, 6, 7, 8, 9, 10, 13, 14, 11, 12, 15, 16, 17, 18, 20, 21, 22, 26, 23, 19, 24, 25, 27, 28, 29]] (by kernel_rfl) (by kernel_rfl) (NoPanic.block (NoPanic.seq (NoPanic.seq (NoPanic.block (NoPanic.seq (NoPanic.block (NoPanic.seq (NoPanic.seq (NoPanic.block (NoPanic.seq (NoPanic.body))))))))))) ?_
         have hS228 := hS185.drew
         revert hS228
         generalize World.drew w184 = w227
         intro hS228
         refine ⟨⟨hS228.cell 2 rfl 2 rfl, rowR.cell (rowO.rd (hS228.own 1).1) z_Tile h229.1 h229.2 0 rfl, rowR.cell (rowO.rd (hS228.own 1).1) z_Tile h229.1 h229.2 1 rfl, rowR.cell (rowO.rd (hS228.own 1).1) z_Tile h229.1 h229.2 2 rfl, rowR.cell (rowO.rd (hS228.own 1).1) z_Tile h229.1 h229.2 3 rfl, rowR.cell (rowO.rd (hS228.own 1).1) z_Tile h230.1 h230.2 0 rfl, rowR.cell (rowO.rd (hS228.own 1).1) z_Tile h230.1 h230.2 1 rfl, rowR.cell (rowO.rd (hS228.own 1).1) z_Tile h230.1 h230.2 2 rfl, rowR.cell (rowO.rd (hS228.own 1).1) z_Tile h230.1 h230.2 3 rfl, hS228.cell 2 rfl 3 rfl, trivial⟩, forallC ?_ (forallC ?_ (forallN))⟩
         ·
          refine segF 3 [.v (bv b81)] [0, 3, 7, 11, 12, 13, 108] [(0, (sv Aa p0 ca)), (3, (pt g1)), (7, (sv A39 t34.1 c40)), (11, (iv x68)), (12, (pt g76)), (13, (iv x83)), (108, (bv b81))] [] [0] [(1, ⟨g76, 2, none⟩, (bv b81))] (fun fb => by kernel_rfl) rfl trivial rfl ?_
          refine WL.setB 108 h190 rfl ?_
          refine segF 13 [.v (iv ((rdD t34.1 x68 z_Tile).N)), .v (iv ((rdD t34.1 x68 z_Tile).E)), .v (iv ((rdD t34.1 x68 z_Tile).S)), .v (iv ((rdD t34.1 x68 z_Tile).W)), .v (iv ((rdD t34.1 x83 z_Tile).N)), .v (iv ((rdD t34.1 x83 z_Tile).E)), .v (iv ((rdD t34.1 x83 z_Tile).S)), .v (iv ((rdD t34.1 x83 z_Tile).W)), .v (bv b82)] [0, 3, 7, 11, 12, 13, 108, 112, 116, 120] [(0, (sv Aa p0 ca)), (3, (pt g1)), (7, (sv A39 t34.1 c40)), (11, (iv x68)), (12, (pt g76)), (13, (iv x83)), (108, (bv false)), (112, (.agg #[(iv ((rdD t34.1 x68 z_Tile).N)), (iv ((rdD t34.1 x68 z_Tile).E)), (iv ((rdD t34.1 x68 z_Tile).S)), (iv ((rdD t34.1 x68 z_Tile).W))])), (116, (.agg #[(iv ((rdD t34.1 x83 z_Tile).N)), (iv ((rdD t34.1 x83 z_Tile).E)), (iv ((rdD t34.1 x83 z_Tile).S)), (iv ((rdD t34.1 x83 z_Tile).W))])), (120, (bv b82))] [.idx A39 x68 t34.1.length, .idx A39 x83 t34.1.length] [1, 2, 3, 4, 5, 6, 7, 8, 9] [(6, ((adr A39).add ((x68).toNat * 4)), (iv ((rdD t34.1 x68 z_Tile).N))), (6, (((adr A39).add ((x68).toNat * 4)).add 1), (iv ((rdD t34.1 x68 z_Tile).E))), (6, (((adr A39).add ((x68).toNat * 4)).add 2), (iv ((rdD t34.1 x68 z_Tile).S))), (6, (((adr A39).add ((x68).toNat * 4)).add 3), (iv ((rdD t34.1 x68 z_Tile).W))), (10, ((adr A39).add ((x83).toNat * 4)), (iv ((rdD t34.1 x83 z_Tile).N))), (10, (((adr A39).add ((x83).toNat * 4)).add 1), (iv ((rdD t34.1 x83 z_Tile).E))), (10, (((adr A39).add ((x83).toNat * 4)).add 2), (iv ((rdD t34.1 x83 z_Tile).S))), (10, (((adr A39).add ((x83).toNat * 4)).add 3), (iv ((rdD t34.1 x83 z_Tile).W))), (14, ⟨g76, 3, none⟩, (bv b82))] (fun fb => by kernel_rfl) rfl ⟨rowR.adr (rowO.rd (hS228.own 1).1) h229.1 h229.2, rowR.adr (rowO.rd (hS228.own 1).1) h230.1 h230.2, trivial⟩ rfl ?_
          obtain ⟨t231, ht232, hx189⟩ := bind_some hx189
          refine WL.call (some 117) 22 #[(.agg #[(iv ((rdD t34.1 x68 z_Tile).N)), (iv ((rdD t34.1 x68 z_Tile).E)), (iv ((rdD t34.1 x68 z_Tile).S)), (iv ((rdD t34.1 x68 z_Tile).W))]), (.agg #[(iv ((rdD t34.1 x83 z_Tile).N)), (iv ((rdD t34.1 x83 z_Tile).E)), (iv ((rdD t34.1 x83 z_Tile).S)), (iv ((rdD t34.1 x83 z_Tile).W))]), (bv true)] (fun fb => by kernel_rfl) (ref04_Leads_calls (rdD t34.1 x68 z_Tile) (rdD t34.1 x83 z_Tile) true t231 _ ht232) (fun v w233 hR234 => ?_)
          obtain ⟨rfl, hk_⟩ := hR234
          have hS235 := hS228.keepN hk_
          refine ⟨⟨hS235.cell 2 rfl 3 rfl, trivial⟩, ?_⟩
          refine seg 16 [] [0, 3, 7, 11, 12, 13, 118, 121] [(0, (sv Aa p0 ca)), (3, (pt g1)), (7, (sv A39 t34.1 c40)), (11, (iv x68)), (12, (pt g76)), (13, (iv x83)), (118, (bv t231)), (121, (bv b82))] [] (fun fb => by kernel_rfl) rfl trivial ?_
          refine WL.setB 121 h226 rfl ?_
          refine seg 27 [] [0, 3, 7, 11, 12, 13, 118, 131, 132] [(0, (sv Aa p0 ca)), (3, (pt g1)), (7, (sv A39 t34.1 c40)), (11, (iv x68)), (12, (pt g76)), (13, (iv x83)), (118, (bv t231)), (131, (bv true)), (132, (.pointer (some ⟨g76, 2, none⟩)))] [] (fun fb => by kernel_rfl) rfl trivial ?_
          refine WL.store hS235 2 rfl [(2, (bv t231))] #[(bv x91.1), (bv x91.2), (bv t231), (bv b82)] (fun fb => by kernel_rfl) (by kernel_rfl) rfl [0, 1] (by decide) (by decide) (fun w236 hS237 => ?_)
          refine ⟨trivial, ?_⟩
          refine seg 29 [] [0, 3, 7, 11, 12, 13, 131, 133] [(0, (sv Aa p0 ca)), (3, (pt g1)), (7, (sv A39 t34.1 c40)), (11, (iv x68)), (12, (pt g76)), (13, (iv x83)), (131, (bv true)), (133, (.pointer (some ⟨g76, 3, none⟩)))] [] (fun fb => by kernel_rfl) rfl trivial ?_
          refine WL.store hS237 0 rfl [(3, (bv true))] #[(bv x91.1), (bv x91.2), (bv t231), (bv true)] (fun fb => by kernel_rfl) (by kernel_rfl) rfl [1, 2] (by decide) (by decide) (fun w238 hS239 => ?_)
          refine ⟨trivial, ?_⟩
          refine WL.done rfl ?_
          injection hx189 with hx189
          exact WX.to Kx188 (t231, true) [0, 3, 7, 11, 12, 13] rfl ⟨(hS239.subR [0, 1, 2]).sub [1, 2, 0] (by decide), hx189.symm⟩
         refine segF 3 [.v (bv b81)] [0, 3, 7, 11, 12, 13, 108] [(0, (sv Aa p0 ca)), (3, (pt g1)), (7, (sv A39 t34.1 c40)), (11, (iv x68)), (12, (pt g76)), (13, (iv x83)), (108, (bv b81))] [] [0] [(1, ⟨g76, 2, none⟩, (bv b81))] (fun fb => by kernel_rfl) rfl trivial rfl ?_
         refine WL.setB 108 h190 rfl ?_
         refine segF 13 [.v (iv ((rdD t34.1 x68 z_Tile).N)), .v (iv ((rdD t34.1 x68 z_Tile).E)), .v (iv ((rdD t34.1 x68 z_Tile).S)), .v (iv ((rdD t34.1 x68 z_Tile).W)), .v (iv ((rdD t34.1 x83 z_Tile).N)), .v (iv ((rdD t34.1 x83 z_Tile).E)), .v (iv ((rdD t34.1 x83 z_Tile).S)), .v (iv ((rdD t34.1 x83 z_Tile).W)), .v (bv b82)] [0, 3, 7, 11, 12, 13, 108, 112, 116, 120] [(0, (sv Aa p0 ca)), (3, (pt g1)), (7, (sv A39 t34.1 c40)), (11, (iv x68)), (12, (pt g76)), (13, (iv x83)), (108, (bv false)), (112, (.agg #[(iv ((rdD t34.1 x68 z_Tile).N)), (iv ((rdD t34.1 x68 z_Tile).E)), (iv ((rdD t34.1 x68 z_Tile).S)), (iv ((rdD t34.1 x68 z_Tile).W))])), (116, (.agg #[(iv ((rdD t34.1 x83 z_Tile).N)), (iv ((rdD t34.1 x83 z_Tile).E)), (iv ((rdD t34.1 x83 z_Tile).S)), (iv ((rdD t34.1 x83 z_Tile).W))])), (120, (bv b82))] [.idx A39 x68 t34.1.length, .idx A39 x83 t34.1.length] [1, 2, 3, 4, 5, 6, 7, 8, 9] [(6, ((adr A39).add ((x68).toNat * 4)), (iv ((rdD t34.1 x68 z_Tile).N))), (6, (((adr A39).add ((x68).toNat * 4)).add 1), (iv ((rdD t34.1 x68 z_Tile).E))), (6, (((adr A39).add ((x68).toNat * 4)).add 2), (iv ((rdD t34.1 x68 z_Tile).S))), (6, (((adr A39).add ((x68).toNat * 4)).add 3), (iv ((rdD t34.1 x68 z_Tile).W))), (10, ((adr A39).add ((x83).toNat * 4)), (iv ((rdD t34.1 x83 z_Tile).N))), (10, (((adr A39).add ((x83).toNat * 4)).add 1), (iv ((rdD t34.1 x83 z_Tile).E))), (10, (((adr A39).add ((x83).toNat * 4)).add 2), (iv ((rdD t34.1 x83 z_Tile).S))), (10, (((adr A39).add ((x83).toNat * 4)).add 3), (iv ((rdD t34.1 x83 z_Tile).W))), (14, ⟨g76, 3, none⟩, (bv b82))] (fun fb => by kernel_rfl) rfl ⟨rowR.adr (rowO.rd (hS228.own 1).1) h229.1 h229.2, rowR.adr (rowO.rd (hS228.own 1).1) h230.1 h230.2, trivial⟩ rfl ?_
         obtain ⟨t240, ht241, hx189⟩ := bind_some hx189
         refine WL.call (some 117) 22 #[(.agg #[(iv ((rdD t34.1 x68 z_Tile).N)), (iv ((rdD t34.1 x68 z_Tile).E)), (iv ((rdD t34.1 x68 z_Tile).S)), (iv ((rdD t34.1 x68 z_Tile).W))]), (.agg #[(iv ((rdD t34.1 x83 z_Tile).N)), (iv ((rdD t34.1 x83 z_Tile).E)), (iv ((rdD t34.1 x83 z_Tile).S)), (iv ((rdD t34.1 x83 z_Tile).W))]), (bv true)] (fun fb => by kernel_rfl) (ref04_Leads_calls (rdD t34.1 x68 z_Tile) (rdD t34.1 x83 z_Tile) true t240 _ ht241) (fun v w242 hR243 => ?_)
         obtain ⟨rfl, hk_⟩ := hR243
         have hS244 := hS228.keepN hk_
         refine ⟨⟨hS244.cell 2 rfl 3 rfl, trivial⟩, ?_⟩
         refine seg 16 [] [0, 3, 7, 11, 12, 13, 118, 121] [(0, (sv Aa p0 ca)), (3, (pt g1)), (7, (sv A39 t34.1 c40)), (11, (iv x68)), (12, (pt g76)), (13, (iv x83)), (118, (bv t240)), (121, (bv b82))] [] (fun fb => by kernel_rfl) rfl trivial ?_
         refine WL.setB 121 h226 rfl ?_
         refine seg 27 [] [0, 3, 7, 11, 12, 13, 118, 131, 132] [(0, (sv Aa p0 ca)), (3, (pt g1)), (7, (sv A39 t34.1 c40)), (11, (iv x68)), (12, (pt g76)), (13, (iv x83)), (118, (bv t240)), (131, (bv true)), (132, (.pointer (some ⟨g76, 2, none⟩)))] [] (fun fb => by kernel_rfl) rfl trivial ?_
         refine WL.store hS244 2 rfl [(2, (bv t240))] #[(bv x91.1), (bv x91.2), (bv t240), (bv b82)] (fun fb => by kernel_rfl) (by kernel_rfl) rfl [0, 1] (by decide) (by decide) (fun w245 hS246 => ?_)
         refine ⟨trivial, ?_⟩
         refine seg 29 [] [0, 3, 7, 11, 12, 13, 131, 133] [(0, (sv Aa p0 ca)), (3, (pt g1)), (7, (sv A39 t34.1 c40)), (11, (iv x68)), (12, (pt g76)), (13, (iv x83)), (131, (bv true)), (133, (.pointer (some ⟨g76, 3, none⟩)))] [] (fun fb => by kernel_rfl) rfl trivial ?_
         refine WL.store hS246 0 rfl [(3, (bv true))] #[(bv x91.1), (bv x91.2), (bv t240), (bv true)] (fun fb => by kernel_rfl) (by kernel_rfl) rfl [1, 2] (by decide) (by decide) (fun w247 hS248 => ?_)
         refine ⟨trivial, ?_⟩
         refine WL.done rfl ?_
         injection hx189 with hx189
         exact WX.to Kx188 (t240, true) [0, 3, 7, 11, 12, 13] rfl ⟨(hS248.subR [0, 1, 2]).sub [1, 2, 0] (by decide), hx189.symm⟩
        obtain ⟨h251, hx189⟩ := as_some hx189
        obtain ⟨h252, hx189⟩ := as_some hx189
        refine WC.regionD ([(1, ⟨g76, 2, none⟩, (bv b81)), (6, ((adr A39).add ((x68).toNat * 4)), (iv ((rdD t34.1 x68 z_Tile).N))), (6, (((adr A39).add ((x68).toNat * 4)).add 1), (iv ((rdD t34.1 x68 z_Tile).E))), (6, (((adr A39).add ((x68).toNat * 4)).add 2), (iv ((rdD t34.1 x68 z_Tile).S))), (6, (((adr A39).add ((x68).toNat * 4)).add 3), (iv ((rdD t34.1 x68 z_Tile).W))), (10, ((adr A39).add ((x83).toNat * 4)), (iv ((rdD t34.1 x83 z_Tile).N))), (10, (((adr A39).add ((x83).toNat * 4)).add 1), (iv ((rdD t34.1 x83 z_Tile).E))), (10, (((adr A39).add ((x83).toNat * 4)).add 2), (iv ((rdD t34.1 x83 z_Tile).S))), (10, (((adr A39).add ((x83).toNat * 4)).add 3), (iv ((rdD t34.1 x83 z_Tile).W))), (14, ⟨g76, 3, none⟩, (bv b82))], [0, 1, 2, 3, 4, 5, 6, 7, 8, 9, 10, 12, 13, 14, 15, 16, 17, 18, 20, 21, 22, 25, 26, 28], [[], [0], [0, 1], [0, 1, 2], [0, 1, 2], [0, 1, 2, 3, 4], [0, 1, 2, 3, 4, 5], [0, 1, 2], [0, 1, 2], [0, 1, 2, 7, 8], [0, 1, 2, 7, 8, 9], [0, 1, 2, 3, 4, 5, 6, 7, 8, 9, 10], [0, 1, 2, 3, 4, 5, 6, 7, 8, 9, 10, 11], [], [13], [0, 1, 2, 3, 4, 5, 6, 7, 8, 9, 10, 11, 13, 14], [0, 1, 2, 3, 4, 5, 6, 7, 8, 9, 10, 11, 13, 14, 15], [0, 1, 2, 3, 4, 5, 6, 7, 8, 9, 10, 11, 13, 14, 15], [0, 1, 2, 3, 4, 5, 6, 7, 8, 9, 10, 11, 13, 14, 15, 16, 17], [0, 1, 2, 3, 4, 5, 6, 7, 8, 9, 10, 11, 13, 14, 15, 16, 17, 18], [0, 1, 2, 3, 4, 5, 6, 7, 8, 9, 10, 11, 13, 14, 15], [0, 1, 2, 3, 4, 5, 6, 7, 8, 9, 10, 11, 13, 14, 15], [0, 1, 2, 3, 4, 5, 6, 7, 8, 9, 10, 11, 13, 14, 15, 20, 21], [0, 1, 2, 3, 4, 5, 6, 7, 8, 9, 10, 11, 13, 14, 15, 20, 21, 22], [0, 1, 2, 3, 4, 5, 6, 7, 8, 9, 10, 11, 13, 14, 15, 16, 17, 18, 19, 20, 21, 22, 23], [0, 1, 2, 3, 4, 5, 6, 7, 8, 9, 10, 11, 13, 14, 15, 16, 17, 18, 19, 20, 21, 22, 23, 24], [0, 1, 2, 3, 4, 5, 6, 7, 8, 9, 10, 11, 12, 13, 14], [0, 1, 2, 3, 4, 5, 6, 7, 8, 9, 10, 11, 12, 13, 14, 15, 16, 17, 18, 19, 20, 21, 22, 23, 24, 26], [0, 1, 2, 3, 4, 5, 6, 7, 8, 9, 10, 11, 12, 13, 14, 15, 16, 17, 18, 19, 20, 21, 22, 23, 24, 25, 26, 27], [0, 1, 2, 3, 4, 5, 6, 7, 8, 9, 10, 11, 12, 13, 14, 15, 16, 17, 18, 19, 20, 21, 22, 23, 24, 25, 26, 27, 28]]) [[0, 1, 2, 3, 4, 5, 6, 7, 8, 9, 10, 13, 14, 11, 12, 15, 16, 17, 18, 20, 21, 22, 26, 19, 23, 24, 25, 27, 28, 29], [0, 1, 2, 3, 4, 5, 6, 7, 8, 9, 10, 13, 14, 11, 12, 15, 16, 17, 18, 20, 21, 22, 26, 23, 19, 24, 25, 27, 28, 29]] (by kernel_rfl) (by kernel_rfl) (NoPanic.block (NoPanic.seq (NoPanic.seq (NoPanic.block (NoPanic.seq (NoPanic.block (NoPanic.seq (NoPanic.seq (NoPanic.block (NoPanic.seq (NoPanic.body))))))))))) ?_
        have hS250 := hS185.drew
        revert hS250
        generalize World.drew w184 = w249
        intro hS250
        refine ⟨⟨hS250.cell 2 rfl 2 rfl, rowR.cell (rowO.rd (hS250.own 1).1) z_Tile h251.1 h251.2 0 rfl, rowR.cell (rowO.rd (hS250.own 1).1) z_Tile h251.1 h251.2 1 rfl, rowR.cell (rowO.rd (hS250.own 1).1) z_Tile h251.1 h251.2 2 rfl, rowR.cell (rowO.rd (hS250.own 1).1) z_Tile h251.1 h251.2 3 rfl, rowR.cell (rowO.rd (hS250.own 1).1) z_Tile h252.1 h252.2 0 rfl, rowR.cell (rowO.rd (hS250.own 1).1) z_Tile h252.1 h252.2 1 rfl, rowR.cell (rowO.rd (hS250.own 1).1) z_Tile h252.1 h252.2 2 rfl, rowR.cell (rowO.rd (hS250.own 1).1) z_Tile h252.1 h252.2 3 rfl, hS250.cell 2 rfl 3 rfl, trivial⟩, forallC ?_ (forallC ?_ (forallN))⟩
        ·
         refine segF 3 [.v (bv b81)] [0, 3, 7, 11, 12, 13, 108] [(0, (sv Aa p0 ca)), (3, (pt g1)), (7, (sv A39 t34.1 c40)), (11, (iv x68)), (12, (pt g76)), (13, (iv x83)), (108, (bv b81))] [] [0] [(1, ⟨g76, 2, none⟩, (bv b81))] (fun fb => by kernel_rfl) rfl trivial rfl ?_
         refine WL.setB 108 h190 rfl ?_
         refine segF 13 [.v (iv ((rdD t34.1 x68 z_Tile).N)), .v (iv ((rdD t34.1 x68 z_Tile).E)), .v (iv ((rdD t34.1 x68 z_Tile).S)), .v (iv ((rdD t34.1 x68 z_Tile).W)), .v (iv ((rdD t34.1 x83 z_Tile).N)), .v (iv ((rdD t34.1 x83 z_Tile).E)), .v (iv ((rdD t34.1 x83 z_Tile).S)), .v (iv ((rdD t34.1 x83 z_Tile).W)), .v (bv b82)] [0, 3, 7, 11, 12, 13, 108, 112, 116, 120] [(0, (sv Aa p0 ca)), (3, (pt g1)), (7, (sv A39 t34.1 c40)), (11, (iv x68)), (12, (pt g76)), (13, (iv x83)), (108, (bv false)), (112, (.agg #[(iv ((rdD t34.1 x68 z_Tile).N)), (iv ((rdD t34.1 x68 z_Tile).E)), (iv ((rdD t34.1 x68 z_Tile).S)), (iv ((rdD t34.1 x68 z_Tile).W))])), (116, (.agg #[(iv ((rdD t34.1 x83 z_Tile).N)), (iv ((rdD t34.1 x83 z_Tile).E)), (iv ((rdD t34.1 x83 z_Tile).S)), (iv ((rdD t34.1 x83 z_Tile).W))])), (120, (bv b82))] [.idx A39 x68 t34.1.length, .idx A39 x83 t34.1.length] [1, 2, 3, 4, 5, 6, 7, 8, 9] [(6, ((adr A39).add ((x68).toNat * 4)), (iv ((rdD t34.1 x68 z_Tile).N))), (6, (((adr A39).add ((x68).toNat * 4)).add 1), (iv ((rdD t34.1 x68 z_Tile).E))), (6, (((adr A39).add ((x68).toNat * 4)).add 2), (iv ((rdD t34.1 x68 z_Tile).S))), (6, (((adr A39).add ((x68).toNat * 4)).add 3), (iv ((rdD t34.1 x68 z_Tile).W))), (10, ((adr A39).add ((x83).toNat * 4)), (iv ((rdD t34.1 x83 z_Tile).N))), (10, (((adr A39).add ((x83).toNat * 4)).add 1), (iv ((rdD t34.1 x83 z_Tile).E))), (10, (((adr A39).add ((x83).toNat * 4)).add 2), (iv ((rdD t34.1 x83 z_Tile).S))), (10, (((adr A39).add ((x83).toNat * 4)).add 3), (iv ((rdD t34.1 x83 z_Tile).W))), (14, ⟨g76, 3, none⟩, (bv b82))] (fun fb => by kernel_rfl) rfl ⟨rowR.adr (rowO.rd (hS250.own 1).1) h251.1 h251.2, rowR.adr (rowO.rd (hS250.own 1).1) h252.1 h252.2, trivial⟩ rfl ?_
         obtain ⟨t253, ht254, hx189⟩ := bind_some hx189
         refine WL.call (some 117) 22 #[(.agg #[(iv ((rdD t34.1 x68 z_Tile).N)), (iv ((rdD t34.1 x68 z_Tile).E)), (iv ((rdD t34.1 x68 z_Tile).S)), (iv ((rdD t34.1 x68 z_Tile).W))]), (.agg #[(iv ((rdD t34.1 x83 z_Tile).N)), (iv ((rdD t34.1 x83 z_Tile).E)), (iv ((rdD t34.1 x83 z_Tile).S)), (iv ((rdD t34.1 x83 z_Tile).W))]), (bv true)] (fun fb => by kernel_rfl) (ref04_Leads_calls (rdD t34.1 x68 z_Tile) (rdD t34.1 x83 z_Tile) true t253 _ ht254) (fun v w255 hR256 => ?_)
         obtain ⟨rfl, hk_⟩ := hR256
         have hS257 := hS250.keepN hk_
         refine ⟨⟨hS257.cell 2 rfl 3 rfl, trivial⟩, ?_⟩
         refine seg 16 [] [0, 3, 7, 11, 12, 13, 118, 121] [(0, (sv Aa p0 ca)), (3, (pt g1)), (7, (sv A39 t34.1 c40)), (11, (iv x68)), (12, (pt g76)), (13, (iv x83)), (118, (bv t253)), (121, (bv b82))] [] (fun fb => by kernel_rfl) rfl trivial ?_
         refine WL.setB 121 h226 rfl ?_
         refine seg 25 [.v (iv ((rdD t34.1 x83 z_Tile).N)), .v (iv ((rdD t34.1 x83 z_Tile).E)), .v (iv ((rdD t34.1 x83 z_Tile).S)), .v (iv ((rdD t34.1 x83 z_Tile).W)), .v (iv ((rdD t34.1 x68 z_Tile).N)), .v (iv ((rdD t34.1 x68 z_Tile).E)), .v (iv ((rdD t34.1 x68 z_Tile).S)), .v (iv ((rdD t34.1 x68 z_Tile).W))] [0, 3, 7, 11, 12, 13, 118, 121, 125, 129, 132] [(0, (sv Aa p0 ca)), (3, (pt g1)), (7, (sv A39 t34.1 c40)), (11, (iv x68)), (12, (pt g76)), (13, (iv x83)), (118, (bv t253)), (121, (bv false)), (125, (.agg #[(iv ((rdD t34.1 x83 z_Tile).N)), (iv ((rdD t34.1 x83 z_Tile).E)), (iv ((rdD t34.1 x83 z_Tile).S)), (iv ((rdD t34.1 x83 z_Tile).W))])), (129, (.agg #[(iv ((rdD t34.1 x68 z_Tile).N)), (iv ((rdD t34.1 x68 z_Tile).E)), (iv ((rdD t34.1 x68 z_Tile).S)), (iv ((rdD t34.1 x68 z_Tile).W))])), (132, (.pointer (some ⟨g76, 2, none⟩)))] [.idx A39 x83 t34.1.length, .idx A39 x68 t34.1.length, .cell ((adr A39).add ((x83).toNat * 4)) (iv ((rdD t34.1 x83 z_Tile).N)), .cell (((adr A39).add ((x83).toNat * 4)).add 1) (iv ((rdD t34.1 x83 z_Tile).E)), .cell (((adr A39).add ((x83).toNat * 4)).add 2) (iv ((rdD t34.1 x83 z_Tile).S)), .cell (((adr A39).add ((x83).toNat * 4)).add 3) (iv ((rdD t34.1 x83 z_Tile).W)), .cell ((adr A39).add ((x68).toNat * 4)) (iv ((rdD t34.1 x68 z_Tile).N)), .cell (((adr A39).add ((x68).toNat * 4)).add 1) (iv ((rdD t34.1 x68 z_Tile).E)), .cell (((adr A39).add ((x68).toNat * 4)).add 2) (iv ((rdD t34.1 x68 z_Tile).S)), .cell (((adr A39).add ((x68).toNat * 4)).add 3) (iv ((rdD t34.1 x68 z_Tile).W))] (fun fb => by kernel_rfl) rfl ⟨rowR.adr (rowO.rd (hS257.own 1).1) h252.1 h252.2, rowR.adr (rowO.rd (hS257.own 1).1) h251.1 h251.2, rowR.cell (rowO.rd (hS257.own 1).1) z_Tile h252.1 h252.2 0 rfl, rowR.cell (rowO.rd (hS257.own 1).1) z_Tile h252.1 h252.2 1 rfl, rowR.cell (rowO.rd (hS257.own 1).1) z_Tile h252.1 h252.2 2 rfl, rowR.cell (rowO.rd (hS257.own 1).1) z_Tile h252.1 h252.2 3 rfl, rowR.cell (rowO.rd (hS257.own 1).1) z_Tile h251.1 h251.2 0 rfl, rowR.cell (rowO.rd (hS257.own 1).1) z_Tile h251.1 h251.2 1 rfl, rowR.cell (rowO.rd (hS257.own 1).1) z_Tile h251.1 h251.2 2 rfl, rowR.cell (rowO.rd (hS257.own 1).1) z_Tile h251.1 h251.2 3 rfl, trivial⟩ ?_
         obtain ⟨t258, ht259, hx189⟩ := bind_some hx189
         refine WL.call (some 130) 22 #[(.agg #[(iv ((rdD t34.1 x83 z_Tile).N)), (iv ((rdD t34.1 x83 z_Tile).E)), (iv ((rdD t34.1 x83 z_Tile).S)), (iv ((rdD t34.1 x83 z_Tile).W))]), (.agg #[(iv ((rdD t34.1 x68 z_Tile).N)), (iv ((rdD t34.1 x68 z_Tile).E)), (iv ((rdD t34.1 x68 z_Tile).S)), (iv ((rdD t34.1 x68 z_Tile).W))]), (bv true)] (fun fb => by kernel_rfl) (ref04_Leads_calls (rdD t34.1 x83 z_Tile) (rdD t34.1 x68 z_Tile) true t258 _ ht259) (fun v w260 hR261 => ?_)
         obtain ⟨rfl, hk_⟩ := hR261
         have hS262 := hS257.keepN hk_
         refine ⟨trivial, ?_⟩
         refine seg 27 [] [0, 3, 7, 11, 12, 13, 118, 131, 132] [(0, (sv Aa p0 ca)), (3, (pt g1)), (7, (sv A39 t34.1 c40)), (11, (iv x68)), (12, (pt g76)), (13, (iv x83)), (118, (bv t253)), (131, (bv t258)), (132, (.pointer (some ⟨g76, 2, none⟩)))] [] (fun fb => by kernel_rfl) rfl trivial ?_
         refine WL.store hS262 2 rfl [(2, (bv t253))] #[(bv x91.1), (bv x91.2), (bv t253), (bv b82)] (fun fb => by kernel_rfl) (by kernel_rfl) rfl [0, 1] (by decide) (by decide) (fun w263 hS264 => ?_)
         refine ⟨trivial, ?_⟩
         refine seg 29 [] [0, 3, 7, 11, 12, 13, 131, 133] [(0, (sv Aa p0 ca)), (3, (pt g1)), (7, (sv A39 t34.1 c40)), (11, (iv x68)), (12, (pt g76)), (13, (iv x83)), (131, (bv t258)), (133, (.pointer (some ⟨g76, 3, none⟩)))] [] (fun fb => by kernel_rfl) rfl trivial ?_
         refine WL.store hS264 0 rfl [(3, (bv t258))] #[(bv x91.1), (bv x91.2), (bv t253), (bv t258)] (fun fb => by kernel_rfl) (by kernel_rfl) rfl [1, 2] (by decide) (by decide) (fun w265 hS266 => ?_)
         refine ⟨trivial, ?_⟩
         refine WL.done rfl ?_
         injection hx189 with hx189
         exact WX.to Kx188 (t253, t258) [0, 3, 7, 11, 12, 13] rfl ⟨(hS266.subR [0, 1, 2]).sub [1, 2, 0] (by decide), hx189.symm⟩
        refine segF 3 [.v (bv b81)] [0, 3, 7, 11, 12, 13, 108] [(0, (sv Aa p0 ca)), (3, (pt g1)), (7, (sv A39 t34.1 c40)), (11, (iv x68)), (12, (pt g76)), (13, (iv x83)), (108, (bv b81))] [] [0] [(1, ⟨g76, 2, none⟩, (bv b81))] (fun fb => by kernel_rfl) rfl trivial rfl ?_
        refine WL.setB 108 h190 rfl ?_
        refine segF 13 [.v (iv ((rdD t34.1 x68 z_Tile).N)), .v (iv ((rdD t34.1 x68 z_Tile).E)), .v (iv ((rdD t34.1 x68 z_Tile).S)), .v (iv ((rdD t34.1 x68 z_Tile).W)), .v (iv ((rdD t34.1 x83 z_Tile).N)), .v (iv ((rdD t34.1 x83 z_Tile).E)), .v (iv ((rdD t34.1 x83 z_Tile).S)), .v (iv ((rdD t34.1 x83 z_Tile).W)), .v (bv b82)] [0, 3, 7, 11, 12, 13, 108, 112, 116, 120] [(0, (sv Aa p0 ca)), (3, (pt g1)), (7, (sv A39 t34.1 c40)), (11, (iv x68)), (12, (pt g76)), (13, (iv x83)), (108, (bv false)), (112, (.agg #[(iv ((rdD t34.1 x68 z_Tile).N)), (iv ((rdD t34.1 x68 z_Tile).E)), (iv ((rdD t34.1 x68 z_Tile).S)), (iv ((rdD t34.1 x68 z_Tile).W))])), (116, (.agg #[(iv ((rdD t34.1 x83 z_Tile).N)), (iv ((rdD t34.1 x83 z_Tile).E)), (iv ((rdD t34.1 x83 z_Tile).S)), (iv ((rdD t34.1 x83 z_Tile).W))])), (120, (bv b82))] [.idx A39 x68 t34.1.length, .idx A39 x83 t34.1.length] [1, 2, 3, 4, 5, 6, 7, 8, 9] [(6, ((adr A39).add ((x68).toNat * 4)), (iv ((rdD t34.1 x68 z_Tile).N))), (6, (((adr A39).add ((x68).toNat * 4)).add 1), (iv ((rdD t34.1 x68 z_Tile).E))), (6, (((adr A39).add ((x68).toNat * 4)).add 2), (iv ((rdD t34.1 x68 z_Tile).S))), (6, (((adr A39).add ((x68).toNat * 4)).add 3), (iv ((rdD t34.1 x68 z_Tile).W))), (10, ((adr A39).add ((x83).toNat * 4)), (iv ((rdD t34.1 x83 z_Tile).N))), (10, (((adr A39).add ((x83).toNat * 4)).add 1), (iv ((rdD t34.1 x83 z_Tile).E))), (10, (((adr A39).add ((x83).toNat * 4)).add 2), (iv ((rdD t34.1 x83 z_Tile).S))), (10, (((adr A39).add ((x83).toNat * 4)).add 3), (iv ((rdD t34.1 x83 z_Tile).W))), (14, ⟨g76, 3, none⟩, (bv b82))] (fun fb => by kernel_rfl) rfl ⟨rowR.adr (rowO.rd (hS250.own 1).1) h251.1 h251.2, rowR.adr (rowO.rd (hS250.own 1).1) h252.1 h252.2, trivial⟩ rfl ?_
        obtain ⟨t267, ht268, hx189⟩ := bind_some hx189
        refine WL.call (some 117) 22 #[(.agg #[(iv ((rdD t34.1 x68 z_Tile).N)), (iv ((rdD t34.1 x68 z_Tile).E)), (iv ((rdD t34.1 x68 z_Tile).S)), (iv ((rdD t34.1 x68 z_Tile).W))]), (.agg #[(iv ((rdD t34.1 x83 z_Tile).N)), (iv ((rdD t34.1 x83 z_Tile).E)), (iv ((rdD t34.1 x83 z_Tile).S)), (iv ((rdD t34.1 x83 z_Tile).W))]), (bv true)] (fun fb => by kernel_rfl) (ref04_Leads_calls (rdD t34.1 x68 z_Tile) (rdD t34.1 x83 z_Tile) true t267 _ ht268) (fun v w269 hR270 => ?_)
        obtain ⟨rfl, hk_⟩ := hR270
        have hS271 := hS250.keepN hk_
        refine ⟨⟨hS271.cell 2 rfl 3 rfl, trivial⟩, ?_⟩
        refine seg 16 [] [0, 3, 7, 11, 12, 13, 118, 121] [(0, (sv Aa p0 ca)), (3, (pt g1)), (7, (sv A39 t34.1 c40)), (11, (iv x68)), (12, (pt g76)), (13, (iv x83)), (118, (bv t267)), (121, (bv b82))] [] (fun fb => by kernel_rfl) rfl trivial ?_
        refine WL.setB 121 h226 rfl ?_
        refine seg 25 [.v (iv ((rdD t34.1 x68 z_Tile).N)), .v (iv ((rdD t34.1 x68 z_Tile).E)), .v (iv ((rdD t34.1 x68 z_Tile).S)), .v (iv ((rdD t34.1 x68 z_Tile).W)), .v (iv ((rdD t34.1 x83 z_Tile).N)), .v (iv ((rdD t34.1 x83 z_Tile).E)), .v (iv ((rdD t34.1 x83 z_Tile).S)), .v (iv ((rdD t34.1 x83 z_Tile).W))] [0, 3, 7, 11, 12, 13, 118, 121, 125, 129, 132] [(0, (sv Aa p0 ca)), (3, (pt g1)), (7, (sv A39 t34.1 c40)), (11, (iv x68)), (12, (pt g76)), (13, (iv x83)), (118, (bv t267)), (121, (bv false)), (125, (.agg #[(iv ((rdD t34.1 x83 z_Tile).N)), (iv ((rdD t34.1 x83 z_Tile).E)), (iv ((rdD t34.1 x83 z_Tile).S)), (iv ((rdD t34.1 x83 z_Tile).W))])), (129, (.agg #[(iv ((rdD t34.1 x68 z_Tile).N)), (iv ((rdD t34.1 x68 z_Tile).E)), (iv ((rdD t34.1 x68 z_Tile).S)), (iv ((rdD t34.1 x68 z_Tile).W))])), (132, (.pointer (some ⟨g76, 2, none⟩)))] [.idx A39 x83 t34.1.length, .idx A39 x68 t34.1.length, .cell ((adr A39).add ((x68).toNat * 4)) (iv ((rdD t34.1 x68 z_Tile).N)), .cell (((adr A39).add ((x68).toNat * 4)).add 1) (iv ((rdD t34.1 x68 z_Tile).E)), .cell (((adr A39).add ((x68).toNat * 4)).add 2) (iv ((rdD t34.1 x68 z_Tile).S)), .cell (((adr A39).add ((x68).toNat * 4)).add 3) (iv ((rdD t34.1 x68 z_Tile).W)), .cell ((adr A39).add ((x83).toNat * 4)) (iv ((rdD t34.1 x83 z_Tile).N)), .cell (((adr A39).add ((x83).toNat * 4)).add 1) (iv ((rdD t34.1 x83 z_Tile).E)), .cell (((adr A39).add ((x83).toNat * 4)).add 2) (iv ((rdD t34.1 x83 z_Tile).S)), .cell (((adr A39).add ((x83).toNat * 4)).add 3) (iv ((rdD t34.1 x83 z_Tile).W))] (fun fb => by kernel_rfl) rfl ⟨rowR.adr (rowO.rd (hS271.own 1).1) h252.1 h252.2, rowR.adr (rowO.rd (hS271.own 1).1) h251.1 h251.2, rowR.cell (rowO.rd (hS271.own 1).1) z_Tile h251.1 h251.2 0 rfl, rowR.cell (rowO.rd (hS271.own 1).1) z_Tile h251.1 h251.2 1 rfl, rowR.cell (rowO.rd (hS271.own 1).1) z_Tile h251.1 h251.2 2 rfl, rowR.cell (rowO.rd (hS271.own 1).1) z_Tile h251.1 h251.2 3 rfl, rowR.cell (rowO.rd (hS271.own 1).1) z_Tile h252.1 h252.2 0 rfl, rowR.cell (rowO.rd (hS271.own 1).1) z_Tile h252.1 h252.2 1 rfl, rowR.cell (rowO.rd (hS271.own 1).1) z_Tile h252.1 h252.2 2 rfl, rowR.cell (rowO.rd (hS271.own 1).1) z_Tile h252.1 h252.2 3 rfl, trivial⟩ ?_
        obtain ⟨t272, ht273, hx189⟩ := bind_some hx189
        refine WL.call (some 130) 22 #[(.agg #[(iv ((rdD t34.1 x83 z_Tile).N)), (iv ((rdD t34.1 x83 z_Tile).E)), (iv ((rdD t34.1 x83 z_Tile).S)), (iv ((rdD t34.1 x83 z_Tile).W))]), (.agg #[(iv ((rdD t34.1 x68 z_Tile).N)), (iv ((rdD t34.1 x68 z_Tile).E)), (iv ((rdD t34.1 x68 z_Tile).S)), (iv ((rdD t34.1 x68 z_Tile).W))]), (bv true)] (fun fb => by kernel_rfl) (ref04_Leads_calls (rdD t34.1 x83 z_Tile) (rdD t34.1 x68 z_Tile) true t272 _ ht273) (fun v w274 hR275 => ?_)
        obtain ⟨rfl, hk_⟩ := hR275
        have hS276 := hS271.keepN hk_
        refine ⟨trivial, ?_⟩
        refine seg 27 [] [0, 3, 7, 11, 12, 13, 118, 131, 132] [(0, (sv Aa p0 ca)), (3, (pt g1)), (7, (sv A39 t34.1 c40)), (11, (iv x68)), (12, (pt g76)), (13, (iv x83)), (118, (bv t267)), (131, (bv t272)), (132, (.pointer (some ⟨g76, 2, none⟩)))] [] (fun fb => by kernel_rfl) rfl trivial ?_
        refine WL.store hS276 2 rfl [(2, (bv t267))] #[(bv x91.1), (bv x91.2), (bv t267), (bv b82)] (fun fb => by kernel_rfl) (by kernel_rfl) rfl [0, 1] (by decide) (by decide) (fun w277 hS278 => ?_)
        refine ⟨trivial, ?_⟩
        refine seg 29 [] [0, 3, 7, 11, 12, 13, 131, 133] [(0, (sv Aa p0 ca)), (3, (pt g1)), (7, (sv A39 t34.1 c40)), (11, (iv x68)), (12, (pt g76)), (13, (iv x83)), (131, (bv t272)), (133, (.pointer (some ⟨g76, 3, none⟩)))] [] (fun fb => by kernel_rfl) rfl trivial ?_
        refine WL.store hS278 0 rfl [(3, (bv t272))] #[(bv x91.1), (bv x91.2), (bv t267), (bv t272)] (fun fb => by kernel_rfl) (by kernel_rfl) rfl [1, 2] (by decide) (by decide) (fun w279 hS280 => ?_)
        refine ⟨trivial, ?_⟩
        refine WL.done rfl ?_
        injection hx189 with hx189
        exact WX.to Kx188 (t267, t272) [0, 3, 7, 11, 12, 13] rfl ⟨(hS280.subR [0, 1, 2]).sub [1, 2, 0] (by decide), hx189.symm⟩
       rintro y284 w281 ⟨hS282, hq283⟩
       subst hq283
       refine WX.blockN (WX.next ?_)
       refine WC.region ?_
       refine seg 3 [] [0, 3, 7, 11, 12, 13] [(0, (sv Aa p0 ca)), (3, (pt g1)), (7, (sv A39 t34.1 c40)), (11, (iv x68)), (12, (pt g76)), (13, (iv (w64 (x83 + 1))))] [] (fun fb => by kernel_rfl) rfl trivial ?_
       refine WL.done rfl ?_
       exact WX.again k86 (Nat.lt_succ_self _) (x91.1, x91.2, x188.1, x188.2, w64 (x83 + 1)) [0, 3, 7, 11, 12, 13] rfl ⟨(hS282.subR [0, 1, 2]).sub [0, 1, 2] (by decide), hl89⟩
      refine WC.condF2 (fun fb => by kernel_rfl) h90 ?_
      refine WC.exit ?_
      injection hl89 with hl89
      exact WX.thenX (WX.thenX (WX.blockHere (WX.to Kx84 (b79, b80, b81, b82) [0, 3, 7, 11, 12] rfl ⟨(hS88.subR [0, 1, 2]).sub [0, 1, 2] (by decide), hl89.symm⟩)))
    rintro y288 w285 ⟨hS286, hq287⟩
    subst hq287
    refine WX.next (WC.seq (WC.region ?_))
    refine seg 4 [.v (bv x84.1)] [0, 3, 7, 11, 12, 137] [(0, (sv Aa p0 ca)), (3, (pt g1)), (7, (sv A39 t34.1 c40)), (11, (iv x68)), (12, (pt g76)), (137, (bv (!x84.1)))] [.cell ⟨g76, 0, none⟩ (bv x84.1)] (fun fb => by kernel_rfl) rfl ⟨hS286.cell 2 rfl 0 rfl, trivial⟩ ?_
    refine WL.cutV (T := Bool) 8 (fun t => [(141, (bv t)), (0, (sv Aa p0 ca)), (3, (pt g1)), (7, (sv A39 t34.1 c40)), (11, (iv x68)), (12, (pt g76))]) (fun t => ((!x84.1) || (!x84.2.1)) = t) (fun K => ?_) ?_
    ·
     rcases Bool.eq_false_or_eq_true (!x84.1) with h289 | h289
     ·
      refine WL.setB 137 h289 rfl ?_
      refine seg 8 [] [0, 3, 7, 11, 12, 141] [(0, (sv Aa p0 ca)), (3, (pt g1)), (7, (sv A39 t34.1 c40)), (11, (iv x68)), (12, (pt g76)), (141, (bv true))] [] (fun fb => by kernel_rfl) rfl trivial ?_
      exact WL.toV K true [141, 0, 3, 7, 11, 12] rfl (by first | (rw [h289]; done) | (rw [h289]; rfl))
     refine WL.setB 137 h289 rfl ?_
     refine seg 8 [.v (bv x84.2.1)] [0, 3, 7, 11, 12, 141] [(0, (sv Aa p0 ca)), (3, (pt g1)), (7, (sv A39 t34.1 c40)), (11, (iv x68)), (12, (pt g76)), (141, (bv (!x84.2.1)))] [.cell ⟨g76, 1, none⟩ (bv x84.2.1)] (fun fb => by kernel_rfl) rfl ⟨hS286.cell 2 rfl 1 rfl, trivial⟩ ?_
     exact WL.toV K (!x84.2.1) [141, 0, 3, 7, 11, 12] rfl (by first | (rw [h289]; done) | (rw [h289]; rfl))
    rintro b290 rfl
    refine seg 9 [] [0, 3, 7, 11, 12, 142] [(0, (sv Aa p0 ca)), (3, (pt g1)), (7, (sv A39 t34.1 c40)), (11, (iv x68)), (12, (pt g76)), (142, (bv ((!x84.1) || (!x84.2.1))))] [] (fun fb => by kernel_rfl) rfl trivial ?_
    refine WL.cutV (T := Bool) 13 (fun t => [(146, (bv t)), (0, (sv Aa p0 ca)), (3, (pt g1)), (7, (sv A39 t34.1 c40)), (11, (iv x68)), (12, (pt g76))]) (fun t => (((!x84.1) || (!x84.2.1)) || (!x84.2.2.1)) = t) (fun K => ?_) ?_
    ·
     rcases Bool.eq_false_or_eq_true ((!x84.1) || (!x84.2.1)) with h291 | h291
     ·
      refine WL.setB 142 h291 rfl ?_
      refine seg 13 [] [0, 3, 7, 11, 12, 146] [(0, (sv Aa p0 ca)), (3, (pt g1)), (7, (sv A39 t34.1 c40)), (11, (iv x68)), (12, (pt g76)), (146, (bv true))] [] (fun fb => by kernel_rfl) rfl trivial ?_
      exact WL.toV K true [146, 0, 3, 7, 11, 12] rfl (by first | (rw [h291]; done) | (rw [h291]; rfl))
     refine WL.setB 142 h291 rfl ?_
     refine seg 13 [.v (bv x84.2.2.1)] [0, 3, 7, 11, 12, 146] [(0, (sv Aa p0 ca)), (3, (pt g1)), (7, (sv A39 t34.1 c40)), (11, (iv x68)), (12, (pt g76)), (146, (bv (!x84.2.2.1)))] [.cell ⟨g76, 2, none⟩ (bv x84.2.2.1)] (fun fb => by kernel_rfl) rfl ⟨hS286.cell 2 rfl 2 rfl, trivial⟩ ?_
     exact WL.toV K (!x84.2.2.1) [146, 0, 3, 7, 11, 12] rfl (by first | (rw [h291]; done) | (rw [h291]; rfl))
    rintro b292 rfl
    refine seg 14 [] [0, 3, 7, 11, 12, 147] [(0, (sv Aa p0 ca)), (3, (pt g1)), (7, (sv A39 t34.1 c40)), (11, (iv x68)), (12, (pt g76)), (147, (bv (((!x84.1) || (!x84.2.1)) || (!x84.2.2.1))))] [] (fun fb => by kernel_rfl) rfl trivial ?_
    refine WL.cutV (T := Bool) 18 (fun t => [(151, (bv t)), (0, (sv Aa p0 ca)), (3, (pt g1)), (7, (sv A39 t34.1 c40)), (11, (iv x68))]) (fun t => ((((!x84.1) || (!x84.2.1)) || (!x84.2.2.1)) || (!x84.2.2.2)) = t) (fun K => ?_) ?_
    ·
     rcases Bool.eq_false_or_eq_true (((!x84.1) || (!x84.2.1)) || (!x84.2.2.1)) with h293 | h293
     ·
      refine WL.setB 147 h293 rfl ?_
      refine seg 18 [] [0, 3, 7, 11, 151] [(0, (sv Aa p0 ca)), (3, (pt g1)), (7, (sv A39 t34.1 c40)), (11, (iv x68)), (151, (bv true))] [] (fun fb => by kernel_rfl) rfl trivial ?_
      exact WL.toV K true [151, 0, 3, 7, 11] rfl (by first | (rw [h293]; done) | (rw [h293]; rfl))
     refine WL.setB 147 h293 rfl ?_
     refine seg 18 [.v (bv x84.2.2.2)] [0, 3, 7, 11, 151] [(0, (sv Aa p0 ca)), (3, (pt g1)), (7, (sv A39 t34.1 c40)), (11, (iv x68)), (151, (bv (!x84.2.2.2)))] [.cell ⟨g76, 3, none⟩ (bv x84.2.2.2)] (fun fb => by kernel_rfl) rfl ⟨hS286.cell 2 rfl 3 rfl, trivial⟩ ?_
     exact WL.toV K (!x84.2.2.2) [151, 0, 3, 7, 11] rfl (by first | (rw [h293]; done) | (rw [h293]; rfl))
    rintro b294 rfl
    refine WL.done rfl (WX.next ?_)
    rcases br_some hl74 with ⟨h295, hl74⟩ | ⟨h295, hl74⟩
    ·refine WC.condT2 (fun fb => by kernel_rfl) h295 ?_
     refine WC.seq (WC.region ?_)
     refine seg 1 [] [4] [(4, (bv false))] [] (fun fb => by kernel_rfl) rfl trivial ?_
     refine WL.done rfl (WX.next ?_)
     refine WC.ret ?_
     injection hl74 with hl74
     subst hl74
     injection hf with hf
     subst hf
     exact WX.blockR (WX.thenR (WX.thenR (WX.blockR (WX.thenR (WX.ret_ [] (bv false) [] (fun fb => by kernel_rfl) trivial ⟨_, rfl, rfl, hS286.keep⟩)))))
    refine WC.condF2 (fun fb => by kernel_rfl) h295 ?_
    refine WC.skip ?_
    refine WX.blockN (WX.next ?_)
    refine WC.region ?_
    refine seg 3 [] [0, 3, 7, 11] [(0, (sv Aa p0 ca)), (3, (pt g1)), (7, (sv A39 t34.1 c40)), (11, (iv (w64 (x68 + 1))))] [] (fun fb => by kernel_rfl) rfl trivial ?_
    refine WL.done rfl ?_
    exact WX.again k71 (Nat.lt_succ_self _) (w64 (x68 + 1)) [0, 3, 7, 11] rfl ⟨(hS286.subR [0, 1, 2]).sub [0, 1] (by decide), hl74⟩
   refine WC.condF2 (fun fb => by kernel_rfl) h75 ?_
   refine WC.exit ?_
   injection hl74 with hl74
   exact WX.thenX (WX.thenX (WX.blockHere (WX.to Kx69 () [0, 3, 7] rfl ⟨(hS73.subR [0, 1, 2]).sub [0, 1] (by decide), hl74.symm⟩)))
 rintro y299 w296 ⟨hS297, hq298⟩
 subst hq298
 have hf := sum_inr hf
 refine WX.next (WC.seq (WC.seq (WC.region ?_)))
 refine seg 2 [.v (iv p1.Width), .v (iv p1.Height), .v (sv Ab p1.Cells cb)] [0, 3, 7, 152, 153] [(0, (sv Aa p0 ca)), (3, (pt g1)), (7, (sv A39 t34.1 c40)), (152, (sv Aa p0 ca)), (153, (.agg #[(iv p1.Width), (iv p1.Height), (sv Ab p1.Cells cb)]))] [.cell ⟨g1, 0, none⟩ (iv p1.Width), .cell ⟨g1, 1, none⟩ (iv p1.Height), .cell ⟨g1, 2, none⟩ (sv Ab p1.Cells cb)] (fun fb => by kernel_rfl) rfl ⟨hS297.cell 0 rfl 0 rfl, hS297.cell 0 rfl 1 rfl, hS297.cell 0 rfl 2 rfl, trivial⟩ ?_
 obtain ⟨t300, ht301, hf⟩ := bind_some hf
 refine WL.call (some 154) 23 #[(sv Aa p0 ca), (.agg #[(iv p1.Width), (iv p1.Height), (sv Ab p1.Cells cb)])] (fun fb => by kernel_rfl) (tile_Repeats_calls _ p0 p1 Aa ca Ab cb t300 _ (hS297.rd 0) (hS297.rd 1) ht301) (fun v w302 hR303 => ?_)
 obtain ⟨rfl, hk_⟩ := hR303
 have hS304 := hS297.keepN hk_
 refine ⟨trivial, ?_⟩
 refine seg 4 [] [0, 3, 7, 155] [(0, (sv Aa p0 ca)), (3, (pt g1)), (7, (sv A39 t34.1 c40)), (155, (bv (!t300)))] [] (fun fb => by kernel_rfl) rfl trivial ?_
 refine WL.done rfl (WX.next ?_)
 rcases br_some hf with ⟨h305, hf⟩ | ⟨h305, hf⟩
 ·refine WC.condT2 (fun fb => by kernel_rfl) h305 ?_
  refine WC.seq (WC.region ?_)
  obtain ⟨t306, ht307, hf⟩ := bind_some hf
  refine WL.call (some 156) 9 #[] (fun fb => by kernel_rfl) (law04_awake_calls _ mG t306 _ (hS304.rd 2) ht307) (fun v w308 hR309 => ?_)
  obtain ⟨rfl, hk_⟩ := hR309
  have hS310 := hS304.keepN hk_
  refine ⟨trivial, ?_⟩
  refine seg 2 [] [4] [(4, (bv t306))] [] (fun fb => by kernel_rfl) rfl trivial ?_
  refine WL.done rfl (WX.next ?_)
  refine WC.ret ?_
  injection hf with hf
  subst hf
  exact WX.thenR (WX.ret_ [] (bv t306) [] (fun fb => by kernel_rfl) trivial ⟨_, rfl, rfl, hS310.keep⟩)
 refine WC.condF2 (fun fb => by kernel_rfl) h305 ?_
 refine WC.skip (WX.next (WC.seq (WC.seq (WC.region ?_))))
 refine seg 1 [] [0, 3, 7, 14] [(0, (sv Aa p0 ca)), (3, (pt g1)), (7, (sv A39 t34.1 c40)), (14, (iv 0))] [] (fun fb => by kernel_rfl) rfl trivial ?_
 refine WL.done rfl (WX.next ?_)
 obtain ⟨x312, hx313, hf⟩ := bind_some hf
 refine WC.cutN (T := Unit) (fun t => []) (fun t w1 => St NoS w w1 [rowR enc_Tile Aa ca p0, rowR encInt Ab cb p1.Cells, gloO Tryd.prog 2 5 0 1 mG] [] ∧ x312 = .inr t) (fun Kx312 => ?_) ?_
 ·
  refine WC.block ?_
  refine WC.loop (T := Int) (fun t => [(0, (sv Aa p0 ca)), (3, (pt g1)), (7, (sv A39 t34.1 c40)), (14, (iv t))]) (fun n t w1 => St NoS w w1 [rowR enc_Tile Aa ca p0, rowR encInt Ab cb p1.Cells, gloO Tryd.prog 2 5 0 1 mG] [blk g1 (.cells #[(iv p1.Width), (iv p1.Height), (sv Ab p1.Cells cb)] 47 (0, 0)), rowO 53 enc_Tile A39 c40 t34.1] ∧ law04_StripCore.l2 n t p0 p1 t34 = some x312) k 0 [0, 3, 7, 14] rfl ⟨(hS304.subR [0, 1, 2]).sub [0, 1] (by decide), hx313⟩ ?_
  rintro k314 x311 w315 ⟨hS316, hl317⟩
  cases k314 with
  | zero => rw [law04_StripCore.l2] at hl317; cases hl317
  | succ k314 =>
   rw [law04_StripCore.l2] at hl317
   refine WC.seq (WC.seq (WC.region ?_))
   refine seg 5 [.v (sv Ab p1.Cells cb)] [0, 3, 7, 14, 161] [(0, (sv Aa p0 ca)), (3, (pt g1)), (7, (sv A39 t34.1 c40)), (14, (iv x311)), (161, (bv (decide (x311 < (p1.Cells.length : Int)))))] [.cell ⟨g1, 2, none⟩ (sv Ab p1.Cells cb)] (fun fb => by kernel_rfl) rfl ⟨hS316.cell 0 rfl 2 rfl, trivial⟩ ?_
   refine WL.done rfl (WX.next ?_)
   rcases br_some hl317 with ⟨h318, hl317⟩ | ⟨h318, hl317⟩
   ·refine WC.condT2 (fun fb => by kernel_rfl) h318 ?_
    refine WC.skip (WX.next (WC.seq (WC.block (WC.seq (WC.region ?_)))))
    refine seg 5 [.v (sv Ab p1.Cells cb)] [0, 3, 7, 14, 164, 165, 167, 168] [(0, (sv Aa p0 ca)), (3, (pt g1)), (7, (sv A39 t34.1 c40)), (14, (iv x311)), (164, (sv A39 t34.1 c40)), (165, (sv Aa p0 ca)), (167, (sv Ab p1.Cells cb)), (168, (iv x311))] [.cell ⟨g1, 2, none⟩ (sv Ab p1.Cells cb)] (fun fb => by kernel_rfl) rfl ⟨hS316.cell 0 rfl 2 rfl, trivial⟩ ?_
    obtain ⟨h319, hl317⟩ := as_some hl317
    refine seg 7 [.v (iv (rdD p1.Cells x311 0))] [0, 3, 7, 14, 164, 165, 170] [(0, (sv Aa p0 ca)), (3, (pt g1)), (7, (sv A39 t34.1 c40)), (14, (iv x311)), (164, (sv A39 t34.1 c40)), (165, (sv Aa p0 ca)), (170, (iv (rdD p1.Cells x311 0)))] [.idx Ab x311 p1.Cells.length, .cell ((adr Ab).add ((x311).toNat * 1)) (iv (rdD p1.Cells x311 0))] (fun fb => by kernel_rfl) rfl ⟨rowR.adr (hS316.rd 1).1 h319.1 h319.2, rowR.cell (hS316.rd 1).1 0 h319.1 h319.2 0 rfl, trivial⟩ ?_
    obtain ⟨h320, hl317⟩ := as_some hl317
    refine seg 9 [.v (iv ((rdD p0 (rdD p1.Cells x311 0) z_Tile).N)), .v (iv ((rdD p0 (rdD p1.Cells x311 0) z_Tile).E)), .v (iv ((rdD p0 (rdD p1.Cells x311 0) z_Tile).S)), .v (iv ((rdD p0 (rdD p1.Cells x311 0) z_Tile).W))] [0, 3, 7, 14, 164, 172] [(0, (sv Aa p0 ca)), (3, (pt g1)), (7, (sv A39 t34.1 c40)), (14, (iv x311)), (164, (sv A39 t34.1 c40)), (172, (.agg #[(iv ((rdD p0 (rdD p1.Cells x311 0) z_Tile).N)), (iv ((rdD p0 (rdD p1.Cells x311 0) z_Tile).E)), (iv ((rdD p0 (rdD p1.Cells x311 0) z_Tile).S)), (iv ((rdD p0 (rdD p1.Cells x311 0) z_Tile).W))]))] [.idx Aa (rdD p1.Cells x311 0) p0.length, .cell ((adr Aa).add (((rdD p1.Cells x311 0)).toNat * 4)) (iv ((rdD p0 (rdD p1.Cells x311 0) z_Tile).N)), .cell (((adr Aa).add (((rdD p1.Cells x311 0)).toNat * 4)).add 1) (iv ((rdD p0 (rdD p1.Cells x311 0) z_Tile).E)), .cell (((adr Aa).add (((rdD p1.Cells x311 0)).toNat * 4)).add 2) (iv ((rdD p0 (rdD p1.Cells x311 0) z_Tile).S)), .cell (((adr Aa).add (((rdD p1.Cells x311 0)).toNat * 4)).add 3) (iv ((rdD p0 (rdD p1.Cells x311 0) z_Tile).W))] (fun fb => by kernel_rfl) rfl ⟨rowR.adr (hS316.rd 0).1 h320.1 h320.2, rowR.cell (hS316.rd 0).1 z_Tile h320.1 h320.2 0 rfl, rowR.cell (hS316.rd 0).1 z_Tile h320.1 h320.2 1 rfl, rowR.cell (hS316.rd 0).1 z_Tile h320.1 h320.2 2 rfl, rowR.cell (hS316.rd 0).1 z_Tile h320.1 h320.2 3 rfl, trivial⟩ ?_
    obtain ⟨t321, ht322, hl317⟩ := bind_some hl317
    refine WL.call (some 173) 24 #[(sv A39 t34.1 c40), (.agg #[(iv ((rdD p0 (rdD p1.Cells x311 0) z_Tile).N)), (iv ((rdD p0 (rdD p1.Cells x311 0) z_Tile).E)), (iv ((rdD p0 (rdD p1.Cells x311 0) z_Tile).S)), (iv ((rdD p0 (rdD p1.Cells x311 0) z_Tile).W))])] (fun fb => by kernel_rfl) (ref01_Index_calls _ t34.1 (rdD p0 (rdD p1.Cells x311 0) z_Tile) A39 c40 t321 _ (hS316.ow 1).ofO ht322) (fun v w323 hR324 => ?_)
    obtain ⟨rfl, hk_⟩ := hR324
    have hS325 := hS316.keepN hk_
    refine ⟨trivial, ?_⟩
    refine seg 11 [] [0, 3, 7, 14, 174] [(0, (sv Aa p0 ca)), (3, (pt g1)), (7, (sv A39 t34.1 c40)), (14, (iv x311)), (174, (bv (decide (t321 < 0))))] [] (fun fb => by kernel_rfl) rfl trivial ?_
    refine WL.done rfl (WX.next ?_)
    rcases br_some hl317 with ⟨h326, hl317⟩ | ⟨h326, hl317⟩
    ·refine WC.condT2 (fun fb => by kernel_rfl) h326 ?_
     refine WC.seq (WC.region ?_)
     refine seg 1 [] [4] [(4, (bv false))] [] (fun fb => by kernel_rfl) rfl trivial ?_
     refine WL.done rfl (WX.next ?_)
     refine WC.ret ?_
     injection hl317 with hl317
     subst hl317
     injection hf with hf
     subst hf
     exact WX.blockR (WX.thenR (WX.thenR (WX.blockR (WX.thenR (WX.ret_ [] (bv false) [] (fun fb => by kernel_rfl) trivial ⟨_, rfl, rfl, hS325.keep⟩)))))
    refine WC.condF2 (fun fb => by kernel_rfl) h326 ?_
    refine WC.skip ?_
    refine WX.blockN (WX.next ?_)
    refine WC.region ?_
    refine seg 3 [] [0, 3, 7, 14] [(0, (sv Aa p0 ca)), (3, (pt g1)), (7, (sv A39 t34.1 c40)), (14, (iv (w64 (x311 + 1))))] [] (fun fb => by kernel_rfl) rfl trivial ?_
    refine WL.done rfl ?_
    exact WX.again k314 (Nat.lt_succ_self _) (w64 (x311 + 1)) [0, 3, 7, 14] rfl ⟨(hS325.subR [0, 1, 2]).sub [0, 1] (by decide), hl317⟩
   refine WC.condF2 (fun fb => by kernel_rfl) h318 ?_
   refine WC.exit ?_
   injection hl317 with hl317
   exact WX.thenX (WX.thenX (WX.blockHere (WX.to Kx312 () [] rfl ⟨(hS316.subR [0, 1, 2]).sub [] (by decide), hl317.symm⟩)))
 rintro y330 w327 ⟨hS328, hq329⟩
 subst hq329
 have hf := sum_inr hf
 refine WX.next (WC.seq (WC.region ?_))
 obtain ⟨t331, ht332, hf⟩ := bind_some hf
 refine WL.call (some 175) 9 #[] (fun fb => by kernel_rfl) (law04_awake_calls _ mG t331 _ (hS328.rd 2) ht332) (fun v w333 hR334 => ?_)
 obtain ⟨rfl, hk_⟩ := hR334
 have hS335 := hS328.keepN hk_
 refine ⟨trivial, ?_⟩
 refine seg 2 [] [4] [(4, (bv t331))] [] (fun fb => by kernel_rfl) rfl trivial ?_
 refine WL.done rfl (WX.next ?_)
 refine WC.ret ?_
 injection hf with hf
 subst hf
 exact WX.ret_ [] (bv t331) [] (fun fb => by kernel_rfl) trivial ⟨_, rfl, rfl, hS335.keep⟩
end Gp
