/- Walks: each function of the program computes its plain function. -/
import Derived.Test.YtchikbfmbfoaoaaDoorGx2
set_option linter.unusedVariables false
set_option linter.unusedSimpArgs false
set_option maxHeartbeats 4000000
set_option maxRecDepth 8000
namespace Gp
open Go Gw Go.Proofs
theorem law04_StripCores_calls (k : Nat) (p0 : List Tile) (Aa : Option Addr) (ca : Nat) (mG : Glo) (r : Bool) (w : World) (hR0 : RO NoS w (rowR enc_Tile Aa ca p0)) (hR1 : RO NoS w (gloO Tryd.prog 2 5 0 1 mG)) (hf : law04_StripCores k p0 = some r) :
  CallsR Tryd.prog 3 #[(sv Aa p0 ca)] w (fun v w' => v = (bv r) ∧ Keeps NoS w w') := by
 have hS : St NoS w w [rowR enc_Tile Aa ca p0, gloO Tryd.prog 2 5 0 1 mG] [] := St.init (ro_cons hR0 (ro_cons hR1 (ro_nil _ _)))
 refine enter 88 Tryd.func3 rfl Tryd.ntmps3 rfl ?_
 unfold law04_StripCores at hf
 refine WC.seq (WC.region ?_)
 refine seg 1 [] [0] [(0, (sv Aa p0 ca))] [] (fun fb => by kernel_rfl) rfl trivial ?_
 refine WL.done rfl (WX.next (WC.seq (WC.seq (WC.region ?_))))
 refine seg 4 [] [0, 12] [(0, (sv Aa p0 ca)), (12, (bv (decide ((p0.length : Int) > 1100))))] [] (fun fb => by kernel_rfl) rfl trivial ?_
 obtain ⟨x5, hx6, hf⟩ := bind_some hf
 refine WL.cutW (T := Bool) 12 (fun t => [(0, (sv Aa p0 ca)), (20, (bv t))]) (fun t w1 => (St NoS w w1 [rowR enc_Tile Aa ca p0, gloO Tryd.prog 2 5 0 1 mG] [] ∧ x5 = t) ∧ CellsOK [] w1) (fun K => ?_) ?_
 ·
  rcases br_some hx6 with ⟨h7, hx6⟩ | ⟨h7, hx6⟩
  ·
   refine WL.setB 12 h7 rfl ?_
   refine seg 12 [] [0, 20] [(0, (sv Aa p0 ca)), (20, (bv true))] [] (fun fb => by kernel_rfl) rfl trivial ?_
   injection hx6 with hx6
   exact WL.to K true [0, 20] rfl ⟨⟨(hS.subR [0, 1]).sub [] (by decide), hx6.symm⟩, trivial⟩
  refine WL.setB 12 h7 rfl ?_
  refine seg 5 [] [0, 12, 13] [(0, (sv Aa p0 ca)), (12, (bv false)), (13, (sv Aa p0 ca))] [] (fun fb => by kernel_rfl) rfl trivial ?_
  obtain ⟨t8, ht9, hx6⟩ := bind_some hx6
  refine WL.call (some 14) 8 #[(sv Aa p0 ca)] (fun fb => by kernel_rfl) (ref01_Valid_calls _ p0 Aa ca t8 _ (hS.rd 0) ht9) (fun v w10 hR11 => ?_)
  obtain ⟨rfl, hk_⟩ := hR11
  have hS12 := hS.keepN hk_
  refine ⟨trivial, ?_⟩
  refine seg 7 [] [0, 12, 15] [(0, (sv Aa p0 ca)), (12, (bv false)), (15, (bv t8))] [] (fun fb => by kernel_rfl) rfl trivial ?_
  refine WL.cutV (T := Bool) 11 (fun t => [(19, (bv t)), (0, (sv Aa p0 ca)), (12, (bv false))]) (fun t => (t8 && (decide ((p0.length : Int) > 60))) = t) (fun K => ?_) ?_
  ·
   rcases Bool.eq_false_or_eq_true t8 with h13 | h13
   ·
    refine WL.setB 15 h13 rfl ?_
    refine seg 11 [] [0, 12, 19] [(0, (sv Aa p0 ca)), (12, (bv false)), (19, (bv (decide ((p0.length : Int) > 60))))] [] (fun fb => by kernel_rfl) rfl trivial ?_
    exact WL.toV K (decide ((p0.length : Int) > 60)) [19, 0, 12] rfl (by first | (rw [h13]; done) | (rw [h13]; rfl))
   refine WL.setB 15 h13 rfl ?_
   refine seg 11 [] [0, 12, 19] [(0, (sv Aa p0 ca)), (12, (bv false)), (19, (bv false))] [] (fun fb => by kernel_rfl) rfl trivial ?_
   exact WL.toV K false [19, 0, 12] rfl (by first | (rw [h13]; done) | (rw [h13]; rfl))
  rintro b14 rfl
  refine seg 12 [] [0, 20] [(0, (sv Aa p0 ca)), (20, (bv (t8 && (decide ((p0.length : Int) > 60)))))] [] (fun fb => by kernel_rfl) rfl trivial ?_
  injection hx6 with hx6
  exact WL.to K (t8 && (decide ((p0.length : Int) > 60))) [0, 20] rfl ⟨⟨(hS12.subR [0, 1]).sub [] (by decide), hx6.symm⟩, trivial⟩
 rintro y15 w17 ⟨⟨hS18, hq16⟩, hF19⟩
 subst hq16
 refine WL.done rfl (WX.next ?_)
 rcases br_some hf with ⟨h20, hf⟩ | ⟨h20, hf⟩
 ·refine WC.condT2 (fun fb => by kernel_rfl) h20 ?_
  refine WC.seq (WC.region ?_)
  obtain ⟨t21, ht22, hf⟩ := bind_some hf
  refine WL.call (some 21) 9 #[] (fun fb => by kernel_rfl) (law04_awake_calls _ mG t21 _ (hS18.rd 1) ht22) (fun v w23 hR24 => ?_)
  obtain ⟨rfl, hk_⟩ := hR24
  have hS25 := hS18.keepN hk_
  refine ⟨trivial, ?_⟩
  refine seg 2 [] [2] [(2, (bv t21))] [] (fun fb => by kernel_rfl) rfl trivial ?_
  refine WL.done rfl (WX.next ?_)
  refine WC.ret ?_
  injection hf with hf
  subst hf
  exact WX.thenR (WX.ret_ [] (bv t21) [] (fun fb => by kernel_rfl) trivial ⟨_, rfl, rfl, hS25.keep⟩)
 refine WC.condF2 (fun fb => by kernel_rfl) h20 ?_
 refine WC.skip (WX.next (WC.seq (WC.region ?_)))
 refine seg 1 [] [0, 23] [(0, (sv Aa p0 ca)), (23, (sv Aa p0 ca))] [] (fun fb => by kernel_rfl) rfl trivial ?_
 obtain ⟨t26, ht27, hf⟩ := bind_some hf
 refine WL.call (some 24) 10 #[(sv Aa p0 ca)] (fun fb => by kernel_rfl) (strip_Core_calls _ p0 Aa ca t26 _ (hS18.rd 0) ht27) (fun v w28 hR29 => ?_)
 obtain ⟨A31, c32, rfl, hk_⟩ := hR29
 have hS30 := hS.go w28 [rowO 3 encInt A31 c32 t26.1] (hS18.call hk_ [] [] (fun g hg => hg.elim) (by simp) (by decide))
 refine ⟨trivial, ?_⟩
 refine seg 7 [] [0, 3, 4] [(0, (sv Aa p0 ca)), (3, (sv A31 t26.1 c32)), (4, (iv t26.2))] [] (fun fb => by kernel_rfl) rfl trivial ?_
 refine WL.done rfl (WX.next (WC.seq (WC.region ?_)))
 refine seg 1 [] [0, 3, 4, 28] [(0, (sv Aa p0 ca)), (3, (sv A31 t26.1 c32)), (4, (iv t26.2)), (28, (sv Aa p0 ca))] [] (fun fb => by kernel_rfl) rfl trivial ?_
 obtain ⟨t33, ht34, hf⟩ := bind_some hf
 refine WL.call (some 29) 11 #[(sv Aa p0 ca)] (fun fb => by kernel_rfl) (strip_Rows_calls _ p0 Aa ca t33 _ (hS30.rd 0) ht34) (fun v w35 hR36 => ?_)
 obtain ⟨rfl, hk_⟩ := hR36
 have hS37 := hS30.keepN hk_
 refine ⟨trivial, ?_⟩
 refine seg 7 [] [0, 3, 4, 5, 6] [(0, (sv Aa p0 ca)), (3, (sv A31 t26.1 c32)), (4, (iv t26.2)), (5, (iv t33.1)), (6, (iv t33.2))] [] (fun fb => by kernel_rfl) rfl trivial ?_
 refine WL.done rfl (WX.next (WC.seq (WC.seq (WC.region ?_))))
 refine seg 1 [] [0, 3, 4, 5, 6, 32] [(0, (sv Aa p0 ca)), (3, (sv A31 t26.1 c32)), (4, (iv t26.2)), (5, (iv t33.1)), (6, (iv t33.2)), (32, (sv Aa p0 ca))] [] (fun fb => by kernel_rfl) rfl trivial ?_
 obtain ⟨t38, ht39, hf⟩ := bind_some hf
 refine WL.call (some 33) 8 #[(sv Aa p0 ca)] (fun fb => by kernel_rfl) (ref01_Valid_calls _ p0 Aa ca t38 _ (hS37.rd 0) ht39) (fun v w40 hR41 => ?_)
 obtain ⟨rfl, hk_⟩ := hR41
 have hS42 := hS37.keepN hk_
 refine ⟨trivial, ?_⟩
 refine seg 3 [] [0, 3, 4, 5, 6, 34] [(0, (sv Aa p0 ca)), (3, (sv A31 t26.1 c32)), (4, (iv t26.2)), (5, (iv t33.1)), (6, (iv t33.2)), (34, (bv (!t38)))] [] (fun fb => by kernel_rfl) rfl trivial ?_
 refine WL.done rfl (WX.next ?_)
 rcases br_some hf with ⟨h43, hf⟩ | ⟨h43, hf⟩
 ·refine WC.condT2 (fun fb => by kernel_rfl) h43 ?_
  refine WC.seq (WC.region ?_)
  refine seg 3 [] [3, 5, 6, 37] [(3, (sv A31 t26.1 c32)), (5, (iv t33.1)), (6, (iv t33.2)), (37, (bv (t26.2 == 1)))] [] (fun fb => by kernel_rfl) rfl trivial ?_
  refine WL.cutV (T := Bool) 6 (fun t => [(40, (bv t)), (3, (sv A31 t26.1 c32)), (5, (iv t33.1))]) (fun t => ((t26.2 == 1) && (t33.2 == 1)) = t) (fun K => ?_) ?_
  ·
   rcases Bool.eq_false_or_eq_true (t26.2 == 1) with h44 | h44
   ·
    refine WL.setB 37 h44 rfl ?_
    refine seg 6 [] [3, 5, 40] [(3, (sv A31 t26.1 c32)), (5, (iv t33.1)), (40, (bv (t33.2 == 1)))] [] (fun fb => by kernel_rfl) rfl trivial ?_
    exact WL.toV K (t33.2 == 1) [40, 3, 5] rfl (by first | (rw [h44]; done) | (rw [h44]; rfl))
   refine WL.setB 37 h44 rfl ?_
   refine seg 6 [] [3, 5, 40] [(3, (sv A31 t26.1 c32)), (5, (iv t33.1)), (40, (bv false))] [] (fun fb => by kernel_rfl) rfl trivial ?_
   exact WL.toV K false [40, 3, 5] rfl (by first | (rw [h44]; done) | (rw [h44]; rfl))
  rintro b45 rfl
  refine seg 7 [] [3, 5, 41] [(3, (sv A31 t26.1 c32)), (5, (iv t33.1)), (41, (bv ((t26.2 == 1) && (t33.2 == 1))))] [] (fun fb => by kernel_rfl) rfl trivial ?_
  refine WL.cutV (T := Bool) 11 (fun t => [(45, (bv t)), (5, (iv t33.1))]) (fun t => (((t26.2 == 1) && (t33.2 == 1)) && ((t26.1.length : Int) == 0)) = t) (fun K => ?_) ?_
  ·
   rcases Bool.eq_false_or_eq_true ((t26.2 == 1) && (t33.2 == 1)) with h46 | h46
   ·
    refine WL.setB 41 h46 rfl ?_
    refine seg 11 [] [5, 45] [(5, (iv t33.1)), (45, (bv ((t26.1.length : Int) == 0)))] [] (fun fb => by kernel_rfl) rfl trivial ?_
    exact WL.toV K ((t26.1.length : Int) == 0) [45, 5] rfl (by first | (rw [h46]; done) | (rw [h46]; rfl))
   refine WL.setB 41 h46 rfl ?_
   refine seg 11 [] [5, 45] [(5, (iv t33.1)), (45, (bv false))] [] (fun fb => by kernel_rfl) rfl trivial ?_
   exact WL.toV K false [45, 5] rfl (by first | (rw [h46]; done) | (rw [h46]; rfl))
  rintro b47 rfl
  refine seg 12 [] [5, 46] [(5, (iv t33.1)), (46, (bv (((t26.2 == 1) && (t33.2 == 1)) && ((t26.1.length : Int) == 0))))] [] (fun fb => by kernel_rfl) rfl trivial ?_
  refine WL.cutV (T := Bool) 15 (fun t => [(49, (bv t))]) (fun t => ((((t26.2 == 1) && (t33.2 == 1)) && ((t26.1.length : Int) == 0)) && (t33.1 == 0)) = t) (fun K => ?_) ?_
  ·
   rcases Bool.eq_false_or_eq_true (((t26.2 == 1) && (t33.2 == 1)) && ((t26.1.length : Int) == 0)) with h48 | h48
   ·
    refine WL.setB 46 h48 rfl ?_
    refine seg 15 [] [49] [(49, (bv (t33.1 == 0)))] [] (fun fb => by kernel_rfl) rfl trivial ?_
    exact WL.toV K (t33.1 == 0) [49] rfl (by first | (rw [h48]; done) | (rw [h48]; rfl))
   refine WL.setB 46 h48 rfl ?_
   refine seg 15 [] [49] [(49, (bv false))] [] (fun fb => by kernel_rfl) rfl trivial ?_
   exact WL.toV K false [49] rfl (by first | (rw [h48]; done) | (rw [h48]; rfl))
  rintro b49 rfl
  refine seg 16 [] [50] [(50, (bv ((((t26.2 == 1) && (t33.2 == 1)) && ((t26.1.length : Int) == 0)) && (t33.1 == 0))))] [] (fun fb => by kernel_rfl) rfl trivial ?_
  obtain ⟨x50, hx51, hf⟩ := bind_some hf
  refine WL.cutW (T := Bool) 18 (fun t => [(52, (bv t))]) (fun t w1 => (St NoS w w1 [rowR enc_Tile Aa ca p0, gloO Tryd.prog 2 5 0 1 mG] [] ∧ x50 = t) ∧ CellsOK [] w1) (fun K => ?_) ?_
  ·
   rcases br_some hx51 with ⟨h52, hx51⟩ | ⟨h52, hx51⟩
   ·
    refine WL.setB 50 h52 rfl ?_
    obtain ⟨t53, ht54, hx51⟩ := bind_some hx51
    refine WL.call (some 51) 9 #[] (fun fb => by kernel_rfl) (law04_awake_calls _ mG t53 _ (hS42.rd 1) ht54) (fun v w55 hR56 => ?_)
    obtain ⟨rfl, hk_⟩ := hR56
    have hS57 := hS42.keepN hk_
    refine ⟨trivial, ?_⟩
    refine seg 18 [] [52] [(52, (bv t53))] [] (fun fb => by kernel_rfl) rfl trivial ?_
    injection hx51 with hx51
    exact WL.to K t53 [52] rfl ⟨⟨(hS57.subR [0, 1]).sub [] (by decide), hx51.symm⟩, trivial⟩
   refine WL.setB 50 h52 rfl ?_
   refine seg 18 [] [52] [(52, (bv false))] [] (fun fb => by kernel_rfl) rfl trivial ?_
   injection hx51 with hx51
   exact WL.to K false [52] rfl ⟨⟨(hS42.subR [0, 1]).sub [] (by decide), hx51.symm⟩, trivial⟩
  rintro y58 w60 ⟨⟨hS61, hq59⟩, hF62⟩
  subst hq59
  refine seg 19 [] [2] [(2, (bv x50))] [] (fun fb => by kernel_rfl) rfl trivial ?_
  refine WL.done rfl (WX.next ?_)
  refine WC.ret ?_
  injection hf with hf
  subst hf
  exact WX.thenR (WX.ret_ [] (bv x50) [] (fun fb => by kernel_rfl) trivial ⟨_, rfl, rfl, hS61.keep⟩)
 refine WC.condF2 (fun fb => by kernel_rfl) h43 ?_
 refine WC.skip (WX.next (WC.seq (WC.seq (WC.region ?_))))
 refine seg 3 [] [0, 3, 5, 6, 55] [(0, (sv Aa p0 ca)), (3, (sv A31 t26.1 c32)), (5, (iv t33.1)), (6, (iv t33.2)), (55, (bv (t26.2 != 0)))] [] (fun fb => by kernel_rfl) rfl trivial ?_
 obtain ⟨x63, hx65, hf⟩ := bind_some hf
 refine WL.cutW (T := Bool) 9 (fun t => [(0, (sv Aa p0 ca)), (5, (iv t33.1)), (6, (iv t33.2)), (61, (bv t))]) (fun t w1 => (St NoS w w1 [rowR enc_Tile Aa ca p0, gloO Tryd.prog 2 5 0 1 mG] [] ∧ x63 = t) ∧ CellsOK [] w1) (fun K => ?_) ?_
 ·
  rcases br_some hx65 with ⟨h66, hx65⟩ | ⟨h66, hx65⟩
  ·
   refine WL.setB 55 h66 rfl ?_
   refine seg 9 [] [0, 5, 6, 61] [(0, (sv Aa p0 ca)), (5, (iv t33.1)), (6, (iv t33.2)), (61, (bv true))] [] (fun fb => by kernel_rfl) rfl trivial ?_
   injection hx65 with hx65
   exact WL.to K true [0, 5, 6, 61] rfl ⟨⟨(hS42.subR [0, 1]).sub [] (by decide), hx65.symm⟩, trivial⟩
  refine WL.setB 55 h66 rfl ?_
  refine seg 5 [] [0, 5, 6, 55, 56, 57] [(0, (sv Aa p0 ca)), (5, (iv t33.1)), (6, (iv t33.2)), (55, (bv false)), (56, (sv A31 t26.1 c32)), (57, (sv Aa p0 ca))] [] (fun fb => by kernel_rfl) rfl trivial ?_
  obtain ⟨t67, ht68, hx65⟩ := bind_some hx65
  refine WL.call (some 58) 13 #[(sv Aa p0 ca)] (fun fb => by kernel_rfl) (ref04_Core_calls _ p0 Aa ca t67 _ (hS42.rd 0) ht68) (fun v w69 hR70 => ?_)
  obtain ⟨A72, c73, rfl, hk_⟩ := hR70
  have hS71 := hS30.go w69 [rowO 3 encInt A72 c73 t67, rowO 3 encInt A31 c32 t26.1] (hS42.call hk_ [] [0] (fun g hg => hg.elim) (by simp) (by decide))
  refine ⟨trivial, ?_⟩
  obtain ⟨t74, ht75, hx65⟩ := bind_some hx65
  refine WL.call (some 59) 12 #[(sv A31 t26.1 c32), (sv A72 t67 c73)] (fun fb => by kernel_rfl) (ref01_Same_calls _ t26.1 t67 A31 c32 A72 c73 t74 _ (hS71.ow 1).ofO (hS71.ow 0).ofO ht75) (fun v w76 hR77 => ?_)
  obtain ⟨rfl, hk_⟩ := hR77
  have hS78 := hS71.keepN hk_
  refine ⟨trivial, ?_⟩
  refine seg 9 [] [0, 5, 6, 61] [(0, (sv Aa p0 ca)), (5, (iv t33.1)), (6, (iv t33.2)), (61, (bv (!t74)))] [] (fun fb => by kernel_rfl) rfl trivial ?_
  injection hx65 with hx65
  exact WL.to K (!t74) [0, 5, 6, 61] rfl ⟨⟨(hS78.subR [0, 1]).sub [] (by decide), hx65.symm⟩, trivial⟩
 rintro y79 w81 ⟨⟨hS82, hq80⟩, hF83⟩
 subst hq80
 refine WL.done rfl (WX.next ?_)
 rcases br_some hf with ⟨h84, hf⟩ | ⟨h84, hf⟩
 ·refine WC.condT2 (fun fb => by kernel_rfl) h84 ?_
  refine WC.seq (WC.region ?_)
  refine seg 1 [] [2] [(2, (bv false))] [] (fun fb => by kernel_rfl) rfl trivial ?_
  refine WL.done rfl (WX.next ?_)
  refine WC.ret ?_
  injection hf with hf
  subst hf
  exact WX.thenR (WX.ret_ [] (bv false) [] (fun fb => by kernel_rfl) trivial ⟨_, rfl, rfl, hS82.keep⟩)
 refine WC.condF2 (fun fb => by kernel_rfl) h84 ?_
 refine WC.skip (WX.next (WC.seq (WC.region ?_)))
 refine seg 1 [] [5, 6, 63] [(5, (iv t33.1)), (6, (iv t33.2)), (63, (sv Aa p0 ca))] [] (fun fb => by kernel_rfl) rfl trivial ?_
 obtain ⟨t85, ht86, hf⟩ := bind_some hf
 refine WL.call (some 64) 14 #[(sv Aa p0 ca)] (fun fb => by kernel_rfl) (ref04_Rows_calls _ p0 Aa ca t85 _ (hS82.rd 0) ht86) (fun v w87 hR88 => ?_)
 obtain ⟨rfl, hk_⟩ := hR88
 have hS89 := hS82.keepN hk_
 refine ⟨trivial, ?_⟩
 refine seg 7 [] [5, 6, 7, 8] [(5, (iv t33.1)), (6, (iv t33.2)), (7, (iv t85.1)), (8, (bv t85.2))] [] (fun fb => by kernel_rfl) rfl trivial ?_
 refine WL.done rfl (WX.next (WC.seq (WC.seq (WC.region ?_))))
 refine seg 2 [] [5, 6, 7, 68] [(5, (iv t33.1)), (6, (iv t33.2)), (7, (iv t85.1)), (68, (bv (!t85.2)))] [] (fun fb => by kernel_rfl) rfl trivial ?_
 refine WL.done rfl (WX.next ?_)
 rcases br_some hf with ⟨h90, hf⟩ | ⟨h90, hf⟩
 ·refine WC.condT2 (fun fb => by kernel_rfl) h90 ?_
  refine WC.seq (WC.region ?_)
  refine seg 3 [] [5, 71] [(5, (iv t33.1)), (71, (bv (t33.2 == 6)))] [] (fun fb => by kernel_rfl) rfl trivial ?_
  refine WL.cutV (T := Bool) 6 (fun t => [(74, (bv t))]) (fun t => ((t33.2 == 6) && (t33.1 == 0)) = t) (fun K => ?_) ?_
  ·
   rcases Bool.eq_false_or_eq_true (t33.2 == 6) with h91 | h91
   ·
    refine WL.setB 71 h91 rfl ?_
    refine seg 6 [] [74] [(74, (bv (t33.1 == 0)))] [] (fun fb => by kernel_rfl) rfl trivial ?_
    exact WL.toV K (t33.1 == 0) [74] rfl (by first | (rw [h91]; done) | (rw [h91]; rfl))
   refine WL.setB 71 h91 rfl ?_
   refine seg 6 [] [74] [(74, (bv false))] [] (fun fb => by kernel_rfl) rfl trivial ?_
   exact WL.toV K false [74] rfl (by first | (rw [h91]; done) | (rw [h91]; rfl))
  rintro b92 rfl
  refine seg 7 [] [75] [(75, (bv ((t33.2 == 6) && (t33.1 == 0))))] [] (fun fb => by kernel_rfl) rfl trivial ?_
  obtain ⟨x93, hx94, hf⟩ := bind_some hf
  refine WL.cutW (T := Bool) 9 (fun t => [(77, (bv t))]) (fun t w1 => (St NoS w w1 [rowR enc_Tile Aa ca p0, gloO Tryd.prog 2 5 0 1 mG] [] ∧ x93 = t) ∧ CellsOK [] w1) (fun K => ?_) ?_
  ·
   rcases br_some hx94 with ⟨h95, hx94⟩ | ⟨h95, hx94⟩
   ·
    refine WL.setB 75 h95 rfl ?_
    obtain ⟨t96, ht97, hx94⟩ := bind_some hx94
    refine WL.call (some 76) 9 #[] (fun fb => by kernel_rfl) (law04_awake_calls _ mG t96 _ (hS89.rd 1) ht97) (fun v w98 hR99 => ?_)
    obtain ⟨rfl, hk_⟩ := hR99
    have hS100 := hS89.keepN hk_
    refine ⟨trivial, ?_⟩
    refine seg 9 [] [77] [(77, (bv t96))] [] (fun fb => by kernel_rfl) rfl trivial ?_
    injection hx94 with hx94
    exact WL.to K t96 [77] rfl ⟨⟨(hS100.subR [0, 1]).sub [] (by decide), hx94.symm⟩, trivial⟩
   refine WL.setB 75 h95 rfl ?_
   refine seg 9 [] [77] [(77, (bv false))] [] (fun fb => by kernel_rfl) rfl trivial ?_
   injection hx94 with hx94
   exact WL.to K false [77] rfl ⟨⟨(hS89.subR [0, 1]).sub [] (by decide), hx94.symm⟩, trivial⟩
  rintro y101 w103 ⟨⟨hS104, hq102⟩, hF105⟩
  subst hq102
  refine seg 10 [] [2] [(2, (bv x93))] [] (fun fb => by kernel_rfl) rfl trivial ?_
  refine WL.done rfl (WX.next ?_)
  refine WC.ret ?_
  injection hf with hf
  subst hf
  exact WX.thenR (WX.ret_ [] (bv x93) [] (fun fb => by kernel_rfl) trivial ⟨_, rfl, rfl, hS104.keep⟩)
 refine WC.condF2 (fun fb => by kernel_rfl) h90 ?_
 refine WC.skip (WX.next (WC.seq (WC.region ?_)))
 refine seg 3 [] [5, 7, 80] [(5, (iv t33.1)), (7, (iv t85.1)), (80, (bv (t33.2 == 0)))] [] (fun fb => by kernel_rfl) rfl trivial ?_
 refine WL.cutV (T := Bool) 7 (fun t => [(84, (bv t))]) (fun t => ((t33.2 == 0) && (t33.1 == t85.1)) = t) (fun K => ?_) ?_
 ·
  rcases Bool.eq_false_or_eq_true (t33.2 == 0) with h106 | h106
  ·
   refine WL.setB 80 h106 rfl ?_
   refine seg 7 [] [84] [(84, (bv (t33.1 == t85.1)))] [] (fun fb => by kernel_rfl) rfl trivial ?_
   exact WL.toV K (t33.1 == t85.1) [84] rfl (by first | (rw [h106]; done) | (rw [h106]; rfl))
  refine WL.setB 80 h106 rfl ?_
  refine seg 7 [] [84] [(84, (bv false))] [] (fun fb => by kernel_rfl) rfl trivial ?_
  exact WL.toV K false [84] rfl (by first | (rw [h106]; done) | (rw [h106]; rfl))
 rintro b107 rfl
 refine seg 8 [] [85] [(85, (bv ((t33.2 == 0) && (t33.1 == t85.1))))] [] (fun fb => by kernel_rfl) rfl trivial ?_
 obtain ⟨x108, hx109, hf⟩ := bind_some hf
 refine WL.cutW (T := Bool) 10 (fun t => [(87, (bv t))]) (fun t w1 => (St NoS w w1 [rowR enc_Tile Aa ca p0, gloO Tryd.prog 2 5 0 1 mG] [] ∧ x108 = t) ∧ CellsOK [] w1) (fun K => ?_) ?_
 ·
  rcases br_some hx109 with ⟨h110, hx109⟩ | ⟨h110, hx109⟩
  ·
   refine WL.setB 85 h110 rfl ?_
   obtain ⟨t111, ht112, hx109⟩ := bind_some hx109
   refine WL.call (some 86) 9 #[] (fun fb => by kernel_rfl) (law04_awake_calls _ mG t111 _ (hS89.rd 1) ht112) (fun v w113 hR114 => ?_)
   obtain ⟨rfl, hk_⟩ := hR114
   have hS115 := hS89.keepN hk_
   refine ⟨trivial, ?_⟩
   refine seg 10 [] [87] [(87, (bv t111))] [] (fun fb => by kernel_rfl) rfl trivial ?_
   injection hx109 with hx109
   exact WL.to K t111 [87] rfl ⟨⟨(hS115.subR [0, 1]).sub [] (by decide), hx109.symm⟩, trivial⟩
  refine WL.setB 85 h110 rfl ?_
  refine seg 10 [] [87] [(87, (bv false))] [] (fun fb => by kernel_rfl) rfl trivial ?_
  injection hx109 with hx109
  exact WL.to K false [87] rfl ⟨⟨(hS89.subR [0, 1]).sub [] (by decide), hx109.symm⟩, trivial⟩
 rintro y116 w118 ⟨⟨hS119, hq117⟩, hF120⟩
 subst hq117
 refine seg 11 [] [2] [(2, (bv x108))] [] (fun fb => by kernel_rfl) rfl trivial ?_
 refine WL.done rfl (WX.next ?_)
 refine WC.ret ?_
 injection hf with hf
 subst hf
 exact WX.ret_ [] (bv x108) [] (fun fb => by kernel_rfl) trivial ⟨_, rfl, rfl, hS119.keep⟩
end Gp
