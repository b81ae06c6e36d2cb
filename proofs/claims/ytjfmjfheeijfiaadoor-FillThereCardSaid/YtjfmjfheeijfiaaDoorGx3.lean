/- Walks: each function of the program computes its plain function. -/
import Derived.Test.YtjfmjfheeijfiaaDoorGx2
set_option linter.unusedVariables false
set_option linter.unusedSimpArgs false
set_option maxHeartbeats 4000000
namespace Gp
open Go Gw Go.Proofs
theorem ref01_Form_calls (p0 : Pattern) (Aa : Option Addr) (ca : Nat) (r : Bool) (w : World) (hR0 : RO NoS w (rowR encInt Aa ca p0.Cells)) (hf : ref01_Form p0 = some r) :
  CallsR Tryd.prog 86 #[(.agg #[(iv p0.Width), (iv p0.Height), (sv Aa p0.Cells ca)])] w (fun v w' => v = (bv r) ∧ Keeps NoS w w') := by
 have hS : St NoS w w [rowR encInt Aa ca p0.Cells] [] := St.init (ro_cons hR0 (ro_nil _ _))
 refine enter 40 Tryd.func86 rfl Tryd.ntmps86 rfl ?_
 unfold ref01_Form at hf
 refine WC.seq (WC.region ?_)
 refine WL.new hS 1 [] (fun g => (pt g)) (.cells #[(iv p0.Width), (iv p0.Height), (sv Aa p0.Cells ca)] 27 (0, 0)) [] (fun fb g => by kernel_rfl) trivial (fun g2 w3 hS4 => ?_)
 refine ⟨trivial, ?_⟩
 refine seg 2 [] [1] [(1, (pt g2))] [] (fun fb => by kernel_rfl) rfl trivial ?_
 refine WL.done rfl (WX.next (WC.seq (WC.region ?_)))
 refine seg 4 [.v (iv p0.Width)] [1, 6] [(1, (pt g2)), (6, (bv (decide (p0.Width ≥ 1))))] [.cell ⟨g2, 0, none⟩ (iv p0.Width)] (fun fb => by kernel_rfl) rfl ⟨hS4.cell 0 rfl 0 rfl, trivial⟩ ?_
 refine WL.cutV (T := Bool) 8 (fun t => [(10, (bv t)), (1, (pt g2))]) (fun t => ((decide (p0.Width ≥ 1)) && (decide (p0.Height ≥ 1))) = t) (fun K => ?_) ?_
 ·
  rcases Bool.eq_false_or_eq_true (decide (p0.Width ≥ 1)) with h5 | h5
  ·
   refine WL.setB 6 h5 rfl ?_
   refine seg 8 [.v (iv p0.Height)] [1, 10] [(1, (pt g2)), (10, (bv (decide (p0.Height ≥ 1))))] [.cell ⟨g2, 1, none⟩ (iv p0.Height)] (fun fb => by kernel_rfl) rfl ⟨hS4.cell 0 rfl 1 rfl, trivial⟩ ?_
   exact WL.toV K (decide (p0.Height ≥ 1)) [10, 1] rfl (by first | (rw [h5]; done) | (rw [h5]; rfl))
  refine WL.setB 6 h5 rfl ?_
  refine seg 8 [] [1, 10] [(1, (pt g2)), (10, (bv false))] [] (fun fb => by kernel_rfl) rfl trivial ?_
  exact WL.toV K false [10, 1] rfl (by first | (rw [h5]; done) | (rw [h5]; rfl))
 rintro b6 rfl
 refine seg 9 [] [1, 11] [(1, (pt g2)), (11, (bv ((decide (p0.Width ≥ 1)) && (decide (p0.Height ≥ 1)))))] [] (fun fb => by kernel_rfl) rfl trivial ?_
 refine WL.cutV (T := Bool) 13 (fun t => [(15, (bv t)), (1, (pt g2))]) (fun t => (((decide (p0.Width ≥ 1)) && (decide (p0.Height ≥ 1))) && (decide (p0.Width ≤ 40000))) = t) (fun K => ?_) ?_
 ·
  rcases Bool.eq_false_or_eq_true ((decide (p0.Width ≥ 1)) && (decide (p0.Height ≥ 1))) with h7 | h7
  ·
   refine WL.setB 11 h7 rfl ?_
   refine seg 13 [.v (iv p0.Width)] [1, 15] [(1, (pt g2)), (15, (bv (decide (p0.Width ≤ 40000))))] [.cell ⟨g2, 0, none⟩ (iv p0.Width)] (fun fb => by kernel_rfl) rfl ⟨hS4.cell 0 rfl 0 rfl, trivial⟩ ?_
   exact WL.toV K (decide (p0.Width ≤ 40000)) [15, 1] rfl (by first | (rw [h7]; done) | (rw [h7]; rfl))
  refine WL.setB 11 h7 rfl ?_
  refine seg 13 [] [1, 15] [(1, (pt g2)), (15, (bv false))] [] (fun fb => by kernel_rfl) rfl trivial ?_
  exact WL.toV K false [15, 1] rfl (by first | (rw [h7]; done) | (rw [h7]; rfl))
 rintro b8 rfl
 refine seg 14 [] [1, 16] [(1, (pt g2)), (16, (bv (((decide (p0.Width ≥ 1)) && (decide (p0.Height ≥ 1))) && (decide (p0.Width ≤ 40000)))))] [] (fun fb => by kernel_rfl) rfl trivial ?_
 refine WL.cutV (T := Bool) 18 (fun t => [(20, (bv t)), (1, (pt g2))]) (fun t => ((((decide (p0.Width ≥ 1)) && (decide (p0.Height ≥ 1))) && (decide (p0.Width ≤ 40000))) && (decide (p0.Height ≤ 40000))) = t) (fun K => ?_) ?_
 ·
  rcases Bool.eq_false_or_eq_true (((decide (p0.Width ≥ 1)) && (decide (p0.Height ≥ 1))) && (decide (p0.Width ≤ 40000))) with h9 | h9
  ·
   refine WL.setB 16 h9 rfl ?_
   refine seg 18 [.v (iv p0.Height)] [1, 20] [(1, (pt g2)), (20, (bv (decide (p0.Height ≤ 40000))))] [.cell ⟨g2, 1, none⟩ (iv p0.Height)] (fun fb => by kernel_rfl) rfl ⟨hS4.cell 0 rfl 1 rfl, trivial⟩ ?_
   exact WL.toV K (decide (p0.Height ≤ 40000)) [20, 1] rfl (by first | (rw [h9]; done) | (rw [h9]; rfl))
  refine WL.setB 16 h9 rfl ?_
  refine seg 18 [] [1, 20] [(1, (pt g2)), (20, (bv false))] [] (fun fb => by kernel_rfl) rfl trivial ?_
  exact WL.toV K false [20, 1] rfl (by first | (rw [h9]; done) | (rw [h9]; rfl))
 rintro b10 rfl
 refine seg 19 [] [1, 21] [(1, (pt g2)), (21, (bv ((((decide (p0.Width ≥ 1)) && (decide (p0.Height ≥ 1))) && (decide (p0.Width ≤ 40000))) && (decide (p0.Height ≤ 40000)))))] [] (fun fb => by kernel_rfl) rfl trivial ?_
 refine WL.cutV (T := Bool) 26 (fun t => [(28, (bv t)), (1, (pt g2))]) (fun t => (((((decide (p0.Width ≥ 1)) && (decide (p0.Height ≥ 1))) && (decide (p0.Width ≤ 40000))) && (decide (p0.Height ≤ 40000))) && (decide (w64 (p0.Width * p0.Height) ≤ 40000))) = t) (fun K => ?_) ?_
 ·
  rcases Bool.eq_false_or_eq_true ((((decide (p0.Width ≥ 1)) && (decide (p0.Height ≥ 1))) && (decide (p0.Width ≤ 40000))) && (decide (p0.Height ≤ 40000))) with h11 | h11
  ·
   refine WL.setB 21 h11 rfl ?_
   refine seg 26 [.v (iv p0.Width), .v (iv p0.Height)] [1, 28] [(1, (pt g2)), (28, (bv (decide (w64 (p0.Width * p0.Height) ≤ 40000))))] [.cell ⟨g2, 0, none⟩ (iv p0.Width), .cell ⟨g2, 1, none⟩ (iv p0.Height)] (fun fb => by kernel_rfl) rfl ⟨hS4.cell 0 rfl 0 rfl, hS4.cell 0 rfl 1 rfl, trivial⟩ ?_
   exact WL.toV K (decide (w64 (p0.Width * p0.Height) ≤ 40000)) [28, 1] rfl (by first | (rw [h11]; done) | (rw [h11]; rfl))
  refine WL.setB 21 h11 rfl ?_
  refine seg 26 [] [1, 28] [(1, (pt g2)), (28, (bv false))] [] (fun fb => by kernel_rfl) rfl trivial ?_
  exact WL.toV K false [28, 1] rfl (by first | (rw [h11]; done) | (rw [h11]; rfl))
 rintro b12 rfl
 refine seg 27 [] [1, 29] [(1, (pt g2)), (29, (bv (((((decide (p0.Width ≥ 1)) && (decide (p0.Height ≥ 1))) && (decide (p0.Width ≤ 40000))) && (decide (p0.Height ≤ 40000))) && (decide (w64 (p0.Width * p0.Height) ≤ 40000)))))] [] (fun fb => by kernel_rfl) rfl trivial ?_
 refine WL.cutV (T := Bool) 37 (fun t => [(39, (bv t))]) (fun t => ((((((decide (p0.Width ≥ 1)) && (decide (p0.Height ≥ 1))) && (decide (p0.Width ≤ 40000))) && (decide (p0.Height ≤ 40000))) && (decide (w64 (p0.Width * p0.Height) ≤ 40000))) && ((p0.Cells.length : Int) == (w64 (p0.Width * p0.Height)))) = t) (fun K => ?_) ?_
 ·
  rcases Bool.eq_false_or_eq_true (((((decide (p0.Width ≥ 1)) && (decide (p0.Height ≥ 1))) && (decide (p0.Width ≤ 40000))) && (decide (p0.Height ≤ 40000))) && (decide (w64 (p0.Width * p0.Height) ≤ 40000))) with h13 | h13
  ·
   refine WL.setB 29 h13 rfl ?_
   refine seg 37 [.v (sv Aa p0.Cells ca), .v (iv p0.Width), .v (iv p0.Height)] [39] [(39, (bv ((p0.Cells.length : Int) == (w64 (p0.Width * p0.Height)))))] [.cell ⟨g2, 2, none⟩ (sv Aa p0.Cells ca), .cell ⟨g2, 0, none⟩ (iv p0.Width), .cell ⟨g2, 1, none⟩ (iv p0.Height)] (fun fb => by kernel_rfl) rfl ⟨hS4.cell 0 rfl 2 rfl, hS4.cell 0 rfl 0 rfl, hS4.cell 0 rfl 1 rfl, trivial⟩ ?_
   exact WL.toV K ((p0.Cells.length : Int) == (w64 (p0.Width * p0.Height))) [39] rfl (by first | (rw [h13]; done) | (rw [h13]; rfl))
  refine WL.setB 29 h13 rfl ?_
  refine seg 37 [] [39] [(39, (bv false))] [] (fun fb => by kernel_rfl) rfl trivial ?_
  exact WL.toV K false [39] rfl (by first | (rw [h13]; done) | (rw [h13]; rfl))
 rintro b14 rfl
 refine seg 38 [] [2] [(2, (bv ((((((decide (p0.Width ≥ 1)) && (decide (p0.Height ≥ 1))) && (decide (p0.Width ≤ 40000))) && (decide (p0.Height ≤ 40000))) && (decide (w64 (p0.Width * p0.Height) ≤ 40000))) && ((p0.Cells.length : Int) == (w64 (p0.Width * p0.Height))))))] [] (fun fb => by kernel_rfl) rfl trivial ?_
 refine WL.done rfl (WX.next ?_)
 refine WC.ret ?_
 injection hf with hf
 subst hf
 exact WX.ret_ [] (bv ((((((decide (p0.Width ≥ 1)) && (decide (p0.Height ≥ 1))) && (decide (p0.Width ≤ 40000))) && (decide (p0.Height ≤ 40000))) && (decide (w64 (p0.Width * p0.Height) ≤ 40000))) && ((p0.Cells.length : Int) == (w64 (p0.Width * p0.Height))))) [] (fun fb => by kernel_rfl) trivial ⟨_, rfl, rfl, hS4.keep⟩
theorem ref01_Cell_calls (p0 : Pattern) (p1 : Int) (p2 : Int) (Aa : Option Addr) (ca : Nat) (r : Int) (w : World) (hR0 : RO NoS w (rowR encInt Aa ca p0.Cells)) (hf : ref01_Cell p0 p1 p2 = some r) :
  CallsR Tryd.prog 37 #[(.agg #[(iv p0.Width), (iv p0.Height), (sv Aa p0.Cells ca)]), (iv p1), (iv p2)] w (fun v w' => v = (iv r) ∧ Keeps NoS w w') := by
 have hS : St NoS w w [rowR encInt Aa ca p0.Cells] [] := St.init (ro_cons hR0 (ro_nil _ _))
 refine enter 17 Tryd.func37 rfl Tryd.ntmps37 rfl ?_
 unfold ref01_Cell at hf
 refine WC.seq (WC.region ?_)
 refine WL.new hS 3 [] (fun g => (pt g)) (.cells #[(iv p0.Width), (iv p0.Height), (sv Aa p0.Cells ca)] 27 (0, 0)) [] (fun fb g => by kernel_rfl) trivial (fun g3 w4 hS5 => ?_)
 refine ⟨trivial, ?_⟩
 refine seg 2 [] [1, 2, 3] [(1, (iv p1)), (2, (iv p2)), (3, (pt g3))] [] (fun fb => by kernel_rfl) rfl trivial ?_
 refine WL.done rfl (WX.next (WC.seq (WC.region ?_)))
 refine seg 8 [.v (sv Aa p0.Cells ca), .v (iv p0.Width)] [8, 14] [(8, (sv Aa p0.Cells ca)), (14, (iv (w64 ((w64 (p2 * p0.Width)) + p1))))] [.cell ⟨g3, 2, none⟩ (sv Aa p0.Cells ca), .cell ⟨g3, 0, none⟩ (iv p0.Width)] (fun fb => by kernel_rfl) rfl ⟨hS5.cell 0 rfl 2 rfl, hS5.cell 0 rfl 0 rfl, trivial⟩ ?_
 obtain ⟨h6, hf⟩ := as_some hf
 refine seg 11 [.v (iv (rdD p0.Cells (w64 ((w64 (p2 * p0.Width)) + p1)) 0))] [6] [(6, (iv (rdD p0.Cells (w64 ((w64 (p2 * p0.Width)) + p1)) 0)))] [.idx Aa (w64 ((w64 (p2 * p0.Width)) + p1)) p0.Cells.length, .cell ((adr Aa).add ((w64 ((w64 (p2 * p0.Width)) + p1)).toNat * 1)) (iv (rdD p0.Cells (w64 ((w64 (p2 * p0.Width)) + p1)) 0))] (fun fb => by kernel_rfl) rfl ⟨rowR.adr (hS5.rd 0).1 h6.1 h6.2, rowR.cell (hS5.rd 0).1 0 h6.1 h6.2 0 rfl, trivial⟩ ?_
 refine WL.done rfl (WX.next ?_)
 refine WC.ret ?_
 injection hf with hf
 subst hf
 exact WX.ret_ [] (iv (rdD p0.Cells (w64 ((w64 (p2 * p0.Width)) + p1)) 0)) [] (fun fb => by kernel_rfl) trivial ⟨_, rfl, rfl, hS5.keep⟩
theorem ref01_Of_calls (k : Nat) (p0 : List Tile) (p1 : Pattern) (Aa : Option Addr) (ca : Nat) (Ab : Option Addr) (cb : Nat) (r : Bool) (w : World) (hR0 : RO NoS w (rowR enc_Tile Aa ca p0)) (hR1 : RO NoS w (rowR encInt Ab cb p1.Cells)) (hf : ref01_Of k p0 p1 = some r) :
  CallsR Tryd.prog 65 #[(sv Aa p0 ca), (.agg #[(iv p1.Width), (iv p1.Height), (sv Ab p1.Cells cb)])] w (fun v w' => v = (bv r) ∧ Keeps NoS w w') := by
 have hS : St NoS w w [rowR enc_Tile Aa ca p0, rowR encInt Ab cb p1.Cells] [] := St.init (ro_cons hR0 (ro_cons hR1 (ro_nil _ _)))
 refine enter 94 Tryd.func65 rfl Tryd.ntmps65 rfl ?_
 unfold ref01_Of at hf
 refine WC.seq (WC.region ?_)
 refine WL.new hS 3 [] (fun g => (pt g)) (.cells #[(iv p1.Width), (iv p1.Height), (sv Ab p1.Cells cb)] 27 (0, 0)) [] (fun fb g => by kernel_rfl) trivial (fun g3 w4 hS5 => ?_)
 refine ⟨trivial, ?_⟩
 refine seg 2 [] [0, 3] [(0, (sv Aa p0 ca)), (3, (pt g3))] [] (fun fb => by kernel_rfl) rfl trivial ?_
 refine WL.done rfl (WX.next (WC.seq (WC.seq (WC.region ?_))))
 refine seg 1 [.v (iv p1.Width), .v (iv p1.Height), .v (sv Ab p1.Cells cb)] [0, 3, 9] [(0, (sv Aa p0 ca)), (3, (pt g3)), (9, (.agg #[(iv p1.Width), (iv p1.Height), (sv Ab p1.Cells cb)]))] [.cell ⟨g3, 0, none⟩ (iv p1.Width), .cell ⟨g3, 1, none⟩ (iv p1.Height), .cell ⟨g3, 2, none⟩ (sv Ab p1.Cells cb)] (fun fb => by kernel_rfl) rfl ⟨hS5.cell 0 rfl 0 rfl, hS5.cell 0 rfl 1 rfl, hS5.cell 0 rfl 2 rfl, trivial⟩ ?_
 obtain ⟨t6, ht7, hf⟩ := bind_some hf
 refine WL.call (some 10) 86 #[(.agg #[(iv p1.Width), (iv p1.Height), (sv Ab p1.Cells cb)])] (fun fb => by kernel_rfl) (ref01_Form_calls p1 Ab cb t6 _ (hS5.rd 1) ht7) (fun v w8 hR9 => ?_)
 obtain ⟨rfl, hk_⟩ := hR9
 have hS10 := hS5.keepN hk_
 refine ⟨trivial, ?_⟩
 refine seg 3 [] [0, 3, 11] [(0, (sv Aa p0 ca)), (3, (pt g3)), (11, (bv (!t6)))] [] (fun fb => by kernel_rfl) rfl trivial ?_
 refine WL.done rfl (WX.next ?_)
 rcases br_some hf with ⟨h11, hf⟩ | ⟨h11, hf⟩
 ·refine WC.condT2 (fun fb => by kernel_rfl) h11 ?_
  refine WC.seq (WC.region ?_)
  refine seg 1 [] [4] [(4, (bv false))] [] (fun fb => by kernel_rfl) rfl trivial ?_
  refine WL.done rfl (WX.next ?_)
  refine WC.ret ?_
  injection hf with hf
  subst hf
  exact WX.thenR (WX.ret_ [] (bv false) [] (fun fb => by kernel_rfl) trivial ⟨_, rfl, rfl, hS10.keep⟩)
 refine WC.condF2 (fun fb => by kernel_rfl) h11 ?_
 refine WC.skip (WX.next (WC.seq (WC.seq (WC.region ?_))))
 refine seg 1 [] [0, 3, 5] [(0, (sv Aa p0 ca)), (3, (pt g3)), (5, (iv 0))] [] (fun fb => by kernel_rfl) rfl trivial ?_
 refine WL.done rfl (WX.next ?_)
 obtain ⟨x13, hx14, hf⟩ := bind_some hf
 refine WC.cutN (T := Unit) (fun t => [(0, (sv Aa p0 ca)), (3, (pt g3))]) (fun t w1 => St NoS w w1 [rowR enc_Tile Aa ca p0, rowR encInt Ab cb p1.Cells] [blk g3 (.cells #[(iv p1.Width), (iv p1.Height), (sv Ab p1.Cells cb)] 27 (0, 0))] ∧ x13 = .inr t) (fun Kx13 => ?_) ?_
 ·
  refine WC.block ?_
  refine WC.loop (T := Int) (fun t => [(0, (sv Aa p0 ca)), (3, (pt g3)), (5, (iv t))]) (fun n t w1 => St NoS w w1 [rowR enc_Tile Aa ca p0, rowR encInt Ab cb p1.Cells] [blk g3 (.cells #[(iv p1.Width), (iv p1.Height), (sv Ab p1.Cells cb)] 27 (0, 0))] ∧ ref01_Of.l0 n t p0 p1 = some x13) k 0 [0, 3, 5] rfl ⟨(hS10.subR [0, 1]).sub [0] (by decide), hx14⟩ ?_
  rintro k15 x12 w16 ⟨hS17, hl18⟩
  cases k15 with
  | zero => rw [ref01_Of.l0] at hl18; cases hl18
  | succ k15 =>
   rw [ref01_Of.l0] at hl18
   refine WC.seq (WC.seq (WC.region ?_))
   refine seg 5 [.v (sv Ab p1.Cells cb)] [0, 3, 5, 16] [(0, (sv Aa p0 ca)), (3, (pt g3)), (5, (iv x12)), (16, (bv (decide (x12 < (p1.Cells.length : Int)))))] [.cell ⟨g3, 2, none⟩ (sv Ab p1.Cells cb)] (fun fb => by kernel_rfl) rfl ⟨hS17.cell 0 rfl 2 rfl, trivial⟩ ?_
   refine WL.done rfl (WX.next ?_)
   rcases br_some hl18 with ⟨h19, hl18⟩ | ⟨h19, hl18⟩
   ·refine WC.condT2 (fun fb => by kernel_rfl) h19 ?_
    refine WC.skip (WX.next (WC.seq (WC.block (WC.seq (WC.region ?_)))))
    refine seg 3 [.v (sv Ab p1.Cells cb)] [0, 3, 5, 20, 21] [(0, (sv Aa p0 ca)), (3, (pt g3)), (5, (iv x12)), (20, (sv Ab p1.Cells cb)), (21, (iv x12))] [.cell ⟨g3, 2, none⟩ (sv Ab p1.Cells cb)] (fun fb => by kernel_rfl) rfl ⟨hS17.cell 0 rfl 2 rfl, trivial⟩ ?_
    obtain ⟨h20, hl18⟩ := as_some hl18
    refine seg 7 [.v (iv (rdD p1.Cells x12 0))] [0, 3, 5, 25] [(0, (sv Aa p0 ca)), (3, (pt g3)), (5, (iv x12)), (25, (bv (decide ((rdD p1.Cells x12 0) < 0))))] [.idx Ab x12 p1.Cells.length, .cell ((adr Ab).add ((x12).toNat * 1)) (iv (rdD p1.Cells x12 0))] (fun fb => by kernel_rfl) rfl ⟨rowR.adr (hS17.rd 1).1 h20.1 h20.2, rowR.cell (hS17.rd 1).1 0 h20.1 h20.2 0 rfl, trivial⟩ ?_
    refine WL.cutV (T := Bool) 16 (fun t => [(34, (bv t)), (0, (sv Aa p0 ca)), (3, (pt g3)), (5, (iv x12))]) (fun t => ((decide ((rdD p1.Cells x12 0) < 0)) || (decide ((rdD p1.Cells x12 0) ≥ (p0.length : Int)))) = t) (fun K => ?_) ?_
    ·
     rcases Bool.eq_false_or_eq_true (decide ((rdD p1.Cells x12 0) < 0)) with h21 | h21
     ·
      refine WL.setB 25 h21 rfl ?_
      refine seg 16 [] [0, 3, 5, 34] [(0, (sv Aa p0 ca)), (3, (pt g3)), (5, (iv x12)), (34, (bv true))] [] (fun fb => by kernel_rfl) rfl trivial ?_
      exact WL.toV K true [34, 0, 3, 5] rfl (by first | (rw [h21]; done) | (rw [h21]; rfl))
     refine WL.setB 25 h21 rfl ?_
     refine seg 16 [.v (sv Ab p1.Cells cb), .v (iv (rdD p1.Cells x12 0))] [0, 3, 5, 34] [(0, (sv Aa p0 ca)), (3, (pt g3)), (5, (iv x12)), (34, (bv (decide ((rdD p1.Cells x12 0) ≥ (p0.length : Int)))))] [.cell ⟨g3, 2, none⟩ (sv Ab p1.Cells cb), .idx Ab x12 p1.Cells.length, .cell ((adr Ab).add ((x12).toNat * 1)) (iv (rdD p1.Cells x12 0))] (fun fb => by kernel_rfl) rfl ⟨hS17.cell 0 rfl 2 rfl, rowR.adr (hS17.rd 1).1 h20.1 h20.2, rowR.cell (hS17.rd 1).1 0 h20.1 h20.2 0 rfl, trivial⟩ ?_
     exact WL.toV K (decide ((rdD p1.Cells x12 0) ≥ (p0.length : Int))) [34, 0, 3, 5] rfl (by first | (rw [h21]; done) | (rw [h21]; rfl))
    rintro b22 rfl
    refine WL.done rfl (WX.next ?_)
    rcases br_some hl18 with ⟨h23, hl18⟩ | ⟨h23, hl18⟩
    ·refine WC.condT2 (fun fb => by kernel_rfl) h23 ?_
     refine WC.seq (WC.region ?_)
     refine seg 1 [] [4] [(4, (bv false))] [] (fun fb => by kernel_rfl) rfl trivial ?_
     refine WL.done rfl (WX.next ?_)
     refine WC.ret ?_
     injection hl18 with hl18
     subst hl18
     injection hf with hf
     subst hf
     exact WX.blockR (WX.thenR (WX.thenR (WX.blockR (WX.thenR (WX.ret_ [] (bv false) [] (fun fb => by kernel_rfl) trivial ⟨_, rfl, rfl, hS17.keep⟩)))))
    refine WC.condF2 (fun fb => by kernel_rfl) h23 ?_
    refine WC.skip ?_
    refine WX.blockN (WX.next ?_)
    refine WC.region ?_
    refine seg 3 [] [0, 3, 5] [(0, (sv Aa p0 ca)), (3, (pt g3)), (5, (iv (w64 (x12 + 1))))] [] (fun fb => by kernel_rfl) rfl trivial ?_
    refine WL.done rfl ?_
    exact WX.again k15 (Nat.lt_succ_self _) (w64 (x12 + 1)) [0, 3, 5] rfl ⟨(hS17.subR [0, 1]).sub [0] (by decide), hl18⟩
   refine WC.condF2 (fun fb => by kernel_rfl) h19 ?_
   refine WC.exit ?_
   injection hl18 with hl18
   exact WX.thenX (WX.thenX (WX.blockHere (WX.to Kx13 () [0, 3] rfl ⟨(hS17.subR [0, 1]).sub [0] (by decide), hl18.symm⟩)))
 rintro y27 w24 ⟨hS25, hq26⟩
 subst hq26
 have hf := sum_inr hf
 refine WX.next (WC.seq (WC.seq (WC.region ?_)))
 refine seg 1 [] [0, 3, 6] [(0, (sv Aa p0 ca)), (3, (pt g3)), (6, (iv 0))] [] (fun fb => by kernel_rfl) rfl trivial ?_
 refine WL.done rfl (WX.next ?_)
 obtain ⟨x29, hx30, hf⟩ := bind_some hf
 refine WC.cutN (T := Unit) (fun t => []) (fun t w1 => St NoS w w1 [rowR enc_Tile Aa ca p0, rowR encInt Ab cb p1.Cells] [] ∧ x29 = .inr t) (fun Kx29 => ?_) ?_
 ·
  refine WC.block ?_
  refine WC.loop (T := Int) (fun t => [(0, (sv Aa p0 ca)), (3, (pt g3)), (6, (iv t))]) (fun n t w1 => St NoS w w1 [rowR enc_Tile Aa ca p0, rowR encInt Ab cb p1.Cells] [blk g3 (.cells #[(iv p1.Width), (iv p1.Height), (sv Ab p1.Cells cb)] 27 (0, 0))] ∧ ref01_Of.l1 n t p0 p1 = some x29) k 0 [0, 3, 6] rfl ⟨(hS25.subR [0, 1]).sub [0] (by decide), hx30⟩ ?_
  rintro k31 x28 w32 ⟨hS33, hl34⟩
  cases k31 with
  | zero => rw [ref01_Of.l1] at hl34; cases hl34
  | succ k31 =>
   rw [ref01_Of.l1] at hl34
   refine WC.seq (WC.seq (WC.region ?_))
   refine seg 4 [.v (iv p1.Height)] [0, 3, 6, 38] [(0, (sv Aa p0 ca)), (3, (pt g3)), (6, (iv x28)), (38, (bv (decide (x28 < p1.Height))))] [.cell ⟨g3, 1, none⟩ (iv p1.Height)] (fun fb => by kernel_rfl) rfl ⟨hS33.cell 0 rfl 1 rfl, trivial⟩ ?_
   refine WL.done rfl (WX.next ?_)
   rcases br_some hl34 with ⟨h35, hl34⟩ | ⟨h35, hl34⟩
   ·refine WC.condT2 (fun fb => by kernel_rfl) h35 ?_
    refine WC.skip (WX.next (WC.seq (WC.block (WC.seq (WC.region ?_)))))
    refine seg 1 [] [0, 3, 6, 7] [(0, (sv Aa p0 ca)), (3, (pt g3)), (6, (iv x28)), (7, (iv 0))] [] (fun fb => by kernel_rfl) rfl trivial ?_
    refine WL.done rfl (WX.next ?_)
    obtain ⟨x37, hx38, hl34⟩ := bind_some hl34
    refine WC.cutN (T := Unit) (fun t => [(0, (sv Aa p0 ca)), (3, (pt g3)), (6, (iv x28))]) (fun t w1 => St NoS w w1 [rowR enc_Tile Aa ca p0, rowR encInt Ab cb p1.Cells] [blk g3 (.cells #[(iv p1.Width), (iv p1.Height), (sv Ab p1.Cells cb)] 27 (0, 0))] ∧ x37 = .inr t) (fun Kx37 => ?_) ?_
    ·
     refine WC.block ?_
     refine WC.loop (T := Int) (fun t => [(0, (sv Aa p0 ca)), (3, (pt g3)), (6, (iv x28)), (7, (iv t))]) (fun n t w1 => St NoS w w1 [rowR enc_Tile Aa ca p0, rowR encInt Ab cb p1.Cells] [blk g3 (.cells #[(iv p1.Width), (iv p1.Height), (sv Ab p1.Cells cb)] 27 (0, 0))] ∧ ref01_Of.l2 n t p0 p1 x28 = some x37) k31 0 [0, 3, 6, 7] rfl ⟨(hS33.subR [0, 1]).sub [0] (by decide), hx38⟩ ?_
     rintro k39 x36 w40 ⟨hS41, hl42⟩
     cases k39 with
     | zero => rw [ref01_Of.l2] at hl42; cases hl42
     | succ k39 =>
      rw [ref01_Of.l2] at hl42
      refine WC.seq (WC.seq (WC.region ?_))
      refine seg 4 [.v (iv p1.Width)] [0, 3, 6, 7, 44] [(0, (sv Aa p0 ca)), (3, (pt g3)), (6, (iv x28)), (7, (iv x36)), (44, (bv (decide (x36 < p1.Width))))] [.cell ⟨g3, 0, none⟩ (iv p1.Width)] (fun fb => by kernel_rfl) rfl ⟨hS41.cell 0 rfl 0 rfl, trivial⟩ ?_
      refine WL.done rfl (WX.next ?_)
      rcases br_some hl42 with ⟨h43, hl42⟩ | ⟨h43, hl42⟩
      ·refine WC.condT2 (fun fb => by kernel_rfl) h43 ?_
       refine WC.skip (WX.next (WC.seq (WC.block (WC.seq (WC.region ?_)))))
       refine seg 4 [.v (iv p1.Width), .v (iv p1.Height), .v (sv Ab p1.Cells cb)] [0, 3, 6, 7, 47, 48, 49, 50] [(0, (sv Aa p0 ca)), (3, (pt g3)), (6, (iv x28)), (7, (iv x36)), (47, (sv Aa p0 ca)), (48, (.agg #[(iv p1.Width), (iv p1.Height), (sv Ab p1.Cells cb)])), (49, (iv x36)), (50, (iv x28))] [.cell ⟨g3, 0, none⟩ (iv p1.Width), .cell ⟨g3, 1, none⟩ (iv p1.Height), .cell ⟨g3, 2, none⟩ (sv Ab p1.Cells cb)] (fun fb => by kernel_rfl) rfl ⟨hS41.cell 0 rfl 0 rfl, hS41.cell 0 rfl 1 rfl, hS41.cell 0 rfl 2 rfl, trivial⟩ ?_
       obtain ⟨t44, ht45, hl42⟩ := bind_some hl42
       refine WL.call (some 51) 37 #[(.agg #[(iv p1.Width), (iv p1.Height), (sv Ab p1.Cells cb)]), (iv x36), (iv x28)] (fun fb => by kernel_rfl) (ref01_Cell_calls p1 x36 x28 Ab cb t44 _ (hS41.rd 1) ht45) (fun v w46 hR47 => ?_)
       obtain ⟨rfl, hk_⟩ := hR47
       have hS48 := hS41.keepN hk_
       refine ⟨trivial, ?_⟩
       obtain ⟨h49, hl42⟩ := as_some hl42
       refine seg 7 [.v (iv ((rdD p0 t44 z_Tile).N)), .v (iv ((rdD p0 t44 z_Tile).E)), .v (iv ((rdD p0 t44 z_Tile).S)), .v (iv ((rdD p0 t44 z_Tile).W))] [0, 3, 6, 7, 53] [(0, (sv Aa p0 ca)), (3, (pt g3)), (6, (iv x28)), (7, (iv x36)), (53, (.agg #[(iv ((rdD p0 t44 z_Tile).N)), (iv ((rdD p0 t44 z_Tile).E)), (iv ((rdD p0 t44 z_Tile).S)), (iv ((rdD p0 t44 z_Tile).W))]))] [.idx Aa t44 p0.length, .cell ((adr Aa).add ((t44).toNat * 4)) (iv ((rdD p0 t44 z_Tile).N)), .cell (((adr Aa).add ((t44).toNat * 4)).add 1) (iv ((rdD p0 t44 z_Tile).E)), .cell (((adr Aa).add ((t44).toNat * 4)).add 2) (iv ((rdD p0 t44 z_Tile).S)), .cell (((adr Aa).add ((t44).toNat * 4)).add 3) (iv ((rdD p0 t44 z_Tile).W))] (fun fb => by kernel_rfl) rfl ⟨rowR.adr (hS48.rd 0).1 h49.1 h49.2, rowR.cell (hS48.rd 0).1 z_Tile h49.1 h49.2 0 rfl, rowR.cell (hS48.rd 0).1 z_Tile h49.1 h49.2 1 rfl, rowR.cell (hS48.rd 0).1 z_Tile h49.1 h49.2 2 rfl, rowR.cell (hS48.rd 0).1 z_Tile h49.1 h49.2 3 rfl, trivial⟩ ?_
       refine WL.new hS48 8 [] (fun g => (pt g)) (.cells #[(iv 0), (iv 0), (iv 0), (iv 0)] 40 (0, 0)) [] (fun fb g => by kernel_rfl) trivial (fun g50 w51 hS52 => ?_)
       refine ⟨trivial, ?_⟩
       refine WL.store hS52 0 rfl [(0, (iv ((rdD p0 t44 z_Tile).N))), (1, (iv ((rdD p0 t44 z_Tile).E))), (2, (iv ((rdD p0 t44 z_Tile).S))), (3, (iv ((rdD p0 t44 z_Tile).W)))] #[(iv ((rdD p0 t44 z_Tile).N)), (iv ((rdD p0 t44 z_Tile).E)), (iv ((rdD p0 t44 z_Tile).S)), (iv ((rdD p0 t44 z_Tile).W))] (fun fb => by kernel_rfl) (by kernel_rfl) rfl [1] (by decide) (by decide) (fun w53 hS54 => ?_)
       refine ⟨trivial, ?_⟩
       refine WL.done rfl (WX.next (WC.seq ?_))
       obtain ⟨x55, hx56, hl42⟩ := bind_some hl42
       refine WC.cutN (T := Bool) (fun t => [(0, (sv Aa p0 ca)), (3, (pt g3)), (6, (iv x28)), (7, (iv x36)), (93, (bv t))]) (fun t w1 => St NoS w w1 [rowR enc_Tile Aa ca p0, rowR encInt Ab cb p1.Cells] [blk g3 (.cells #[(iv p1.Width), (iv p1.Height), (sv Ab p1.Cells cb)] 27 (0, 0))] ∧ x55 = t) (fun Kx55 => ?_) ?_
       ·
        rcases br_some hx56 with ⟨h57, hx56⟩ | ⟨h57, hx56⟩
        ·
         rcases br_some hx56 with ⟨h58, hx56⟩ | ⟨h58, hx56⟩
         ·
          refine WC.regionD ([(3, ⟨g3, 0, none⟩, (iv p1.Width)), (7, ⟨g50, 1, none⟩, (iv ((rdD p0 t44 z_Tile).E))), (9, ⟨g3, 0, none⟩, (iv p1.Width)), (9, ⟨g3, 1, none⟩, (iv p1.Height)), (9, ⟨g3, 2, none⟩, (sv Ab p1.Cells cb)), (23, ⟨g3, 1, none⟩, (iv p1.Height)), (27, ⟨g50, 0, none⟩, (iv ((rdD p0 t44 z_Tile).N))), (29, ⟨g3, 0, none⟩, (iv p1.Width)), (29, ⟨g3, 1, none⟩, (iv p1.Height)), (29, ⟨g3, 2, none⟩, (sv Ab p1.Cells cb))], [0, 1, 2, 3, 4, 5, 6, 7, 8, 9, 10, 11, 12, 14, 15, 17, 18, 19, 20, 21, 22, 23, 24, 25, 26, 27, 28, 29, 30, 31, 32, 34, 35, 37, 38, 39], [[], [0], [], [2], [0, 1, 2, 3], [0, 1, 2, 3, 4], [0, 1, 2, 3, 4, 5], [0, 1, 2, 3, 4, 5, 6], [0, 1, 2, 3, 4, 5], [0, 1, 2, 3, 4, 5], [0, 1, 2, 3, 4, 5], [0, 1, 2, 3, 4, 5, 10], [0, 1, 2, 3, 4, 5], [0, 1, 2, 3, 4, 5, 9, 10, 11, 12], [0, 1, 2, 3, 4, 5, 8, 9, 10, 11, 12, 13], [0, 1, 2, 3, 4, 5, 8, 9, 10, 11, 12, 13, 14], [0, 1, 2, 3, 4, 5, 8, 9, 10, 11, 12, 13, 14, 15], [0, 1, 2, 3, 4, 5, 6, 7, 8, 9, 10, 11, 12, 13, 14, 15, 16], [0, 1, 2, 3, 4, 5, 6, 7, 8, 9, 10, 11, 12, 13, 14, 15, 16, 17], [0, 1, 2, 3, 4, 5, 6, 7, 8, 9, 10, 11, 12, 13, 14, 15, 16, 17, 18], [0, 1, 2, 3, 4, 5, 6, 7, 8, 9, 10, 11, 12, 13, 14, 15, 16, 17, 18, 19], [0, 1, 2, 3, 4, 5, 6, 7, 8, 9, 10, 11, 12, 13, 14, 15, 16, 17, 18, 19, 20], [0, 1, 2, 3, 4, 5, 6, 7, 8, 9, 10, 11, 12, 13, 14, 15, 16, 17, 18, 19], [0, 1, 2, 3, 4, 5, 6, 7, 8, 9, 10, 11, 12, 13, 14, 15, 16, 17, 18, 19, 22], [0, 1, 2, 3, 4, 5, 6, 7, 8, 9, 10, 11, 12, 13, 14, 15, 16, 17, 18, 19, 20, 21, 22, 23], [0, 1, 2, 3, 4, 5, 6, 7, 8, 9, 10, 11, 12, 13, 14, 15, 16, 17, 18, 19, 20, 21, 22, 23, 24], [0, 1, 2, 3, 4, 5, 6, 7, 8, 9, 10, 11, 12, 13, 14, 15, 16, 17, 18, 19, 20, 21, 22, 23, 24, 25], [0, 1, 2, 3, 4, 5, 6, 7, 8, 9, 10, 11, 12, 13, 14, 15, 16, 17, 18, 19, 20, 21, 22, 23, 24, 25, 26], [0, 1, 2, 3, 4, 5, 6, 7, 8, 9, 10, 11, 12, 13, 14, 15, 16, 17, 18, 19, 20, 21, 22, 23, 24, 25], [0, 1, 2, 3, 4, 5, 6, 7, 8, 9, 10, 11, 12, 13, 14, 15, 16, 17, 18, 19, 20, 21, 22, 23, 24, 25], [0, 1, 2, 3, 4, 5, 6, 7, 8, 9, 10, 11, 12, 13, 14, 15, 16, 17, 18, 19, 20, 21, 22, 23, 24, 25], [0, 1, 2, 3, 4, 5, 6, 7, 8, 9, 10, 11, 12, 13, 14, 15, 16, 17, 18, 19, 20, 21, 22, 23, 24, 25], [0, 1, 2, 3, 4, 5, 6, 7, 8, 9, 10, 11, 12, 13, 14, 15, 16, 17, 18, 19, 20, 21, 22, 23, 24, 25, 31], [0, 1, 2, 3, 4, 5, 6, 7, 8, 9, 10, 11, 12, 13, 14, 15, 16, 17, 18, 19, 20, 21, 22, 23, 24, 25, 29, 30, 31, 32], [0, 1, 2, 3, 4, 5, 6, 7, 8, 9, 10, 11, 12, 13, 14, 15, 16, 17, 18, 19, 20, 21, 22, 23, 24, 25, 28, 29, 30, 31, 32, 33], [0, 1, 2, 3, 4, 5, 6, 7, 8, 9, 10, 11, 12, 13, 14, 15, 16, 17, 18, 19, 20, 21, 22, 23, 24, 25, 28, 29, 30, 31, 32, 33, 34], [0, 1, 2, 3, 4, 5, 6, 7, 8, 9, 10, 11, 12, 13, 14, 15, 16, 17, 18, 19, 20, 21, 22, 23, 24, 25, 28, 29, 30, 31, 32, 33, 34, 35], [0, 1, 2, 3, 4, 5, 6, 7, 8, 9, 10, 11, 12, 13, 14, 15, 16, 17, 18, 19, 20, 21, 22, 23, 24, 25, 26, 27, 28, 29, 30, 31, 32, 33, 34, 35, 36], [0, 1, 2, 3, 4, 5, 6, 7, 8, 9, 10, 11, 12, 13, 14, 15, 16, 17, 18, 19, 20, 21, 22, 23, 24, 25, 26, 27, 28, 29, 30, 31, 32, 33, 34, 35, 36, 37], [0, 1, 2, 3, 4, 5, 6, 7, 8, 9, 10, 11, 12, 13, 14, 15, 16, 17, 18, 19, 20, 21, 22, 23, 24, 25, 26, 27, 28, 29, 30, 31, 32, 33, 34, 35, 36, 37, 38]]) [[0, 1, 2, 3, 4, 5, 6, 7, 8, 9, 10, 11, 12, 13, 14, 15, 16, 17, 18, 19, 20, 21, 22, 23, 24, 25, 26, 27, 28, 29, 30, 31, 32, 33, 34, 35, 36, 37, 38, 39]] (by kernel_rfl) (by kernel_rfl) (NoPanic.seq (NoPanic.block (NoPanic.seq (NoPanic.seq (NoPanic.block (NoPanic.block (NoPanic.seq (NoPanic.seq (NoPanic.block (NoPanic.seq (NoPanic.body))))))))))) ?_
          have hS60 := hS54.drew
          revert hS60
          generalize World.drew w53 = w59
          intro hS60
          refine ⟨⟨hS60.cell 1 rfl 0 rfl, hS60.cell 0 rfl 1 rfl, hS60.cell 1 rfl 0 rfl, hS60.cell 1 rfl 1 rfl, hS60.cell 1 rfl 2 rfl, hS60.cell 1 rfl 1 rfl, hS60.cell 0 rfl 0 rfl, hS60.cell 1 rfl 0 rfl, hS60.cell 1 rfl 1 rfl, hS60.cell 1 rfl 2 rfl, trivial⟩, forallC ?_ (forallN)⟩
          refine segF 6 [.v (iv p1.Width)] [0, 3, 6, 7, 8, 59] [(0, (sv Aa p0 ca)), (3, (pt g3)), (6, (iv x28)), (7, (iv x36)), (8, (pt g50)), (59, (bv (decide (w64 (x36 + 1) < p1.Width))))] [] [0] [(3, ⟨g3, 0, none⟩, (iv p1.Width))] (fun fb => by kernel_rfl) rfl trivial rfl ?_
          refine WL.setB 59 h57 rfl ?_
          refine segF 13 [.v (iv ((rdD p0 t44 z_Tile).E)), .v (iv p1.Width), .v (iv p1.Height), .v (sv Ab p1.Cells cb)] [0, 3, 6, 7, 8, 59, 61, 62, 63, 65, 66] [(0, (sv Aa p0 ca)), (3, (pt g3)), (6, (iv x28)), (7, (iv x36)), (8, (pt g50)), (59, (bv true)), (61, (iv ((rdD p0 t44 z_Tile).E))), (62, (sv Aa p0 ca)), (63, (.agg #[(iv p1.Width), (iv p1.Height), (sv Ab p1.Cells cb)])), (65, (iv (w64 (x36 + 1)))), (66, (iv x28))] [] [1, 2, 3, 4] [(7, ⟨g50, 1, none⟩, (iv ((rdD p0 t44 z_Tile).E))), (9, ⟨g3, 0, none⟩, (iv p1.Width)), (9, ⟨g3, 1, none⟩, (iv p1.Height)), (9, ⟨g3, 2, none⟩, (sv Ab p1.Cells cb))] (fun fb => by kernel_rfl) rfl trivial rfl ?_
          obtain ⟨t61, ht62, hx56⟩ := bind_some hx56
          refine WL.call (some 67) 37 #[(.agg #[(iv p1.Width), (iv p1.Height), (sv Ab p1.Cells cb)]), (iv (w64 (x36 + 1))), (iv x28)] (fun fb => by kernel_rfl) (ref01_Cell_calls p1 (w64 (x36 + 1)) x28 Ab cb t61 _ (hS60.rd 1) ht62) (fun v w63 hR66 => ?_)
          obtain ⟨rfl, hk_⟩ := hR66
          have hS67 := hS60.keepN hk_
          refine ⟨⟨hS67.cell 0 rfl 1 rfl, hS67.cell 1 rfl 1 rfl, hS67.cell 0 rfl 0 rfl, hS67.cell 1 rfl 0 rfl, hS67.cell 1 rfl 1 rfl, hS67.cell 1 rfl 2 rfl, trivial⟩, ?_⟩
          obtain ⟨h68, hx56⟩ := as_some hx56
          refine seg 20 [.v (iv ((rdD p0 t61 z_Tile).W))] [0, 3, 6, 7, 8, 73] [(0, (sv Aa p0 ca)), (3, (pt g3)), (6, (iv x28)), (7, (iv x36)), (8, (pt g50)), (73, (bv (((rdD p0 t44 z_Tile).E) != ((rdD p0 t61 z_Tile).W))))] [.idx Aa t61 p0.length, .cell (((adr Aa).add ((t61).toNat * 4)).add 3) (iv ((rdD p0 t61 z_Tile).W))] (fun fb => by kernel_rfl) rfl ⟨rowR.adr (hS67.rd 0).1 h68.1 h68.2, rowR.cell (hS67.rd 0).1 z_Tile h68.1 h68.2 3 rfl, trivial⟩ ?_
          obtain ⟨x69, hx70, hx56⟩ := bind_some hx56
          refine WL.cutW (T := Bool) 40 (fun t => [(0, (sv Aa p0 ca)), (3, (pt g3)), (6, (iv x28)), (7, (iv x36)), (93, (bv t))]) (fun t w1 => (St NoS w w1 [rowR enc_Tile Aa ca p0, rowR encInt Ab cb p1.Cells] [blk g3 (.cells #[(iv p1.Width), (iv p1.Height), (sv Ab p1.Cells cb)] 27 (0, 0))] ∧ x69 = t) ∧ CellsOK [] w1) (fun K => ?_) ?_
          ·
           rcases br_some hx70 with ⟨h71, hx70⟩ | ⟨h71, hx70⟩
           ·
            refine WL.setB 73 h71 rfl ?_
            refine seg 40 [] [0, 3, 6, 7, 93] [(0, (sv Aa p0 ca)), (3, (pt g3)), (6, (iv x28)), (7, (iv x36)), (93, (bv true))] [] (fun fb => by kernel_rfl) rfl trivial ?_
            injection hx70 with hx70
            exact WL.to K true [0, 3, 6, 7, 93] rfl ⟨⟨(hS67.subR [0, 1]).sub [1] (by decide), hx70.symm⟩, trivial⟩
           refine WL.setB 73 h71 rfl ?_
           refine segF 26 [.v (iv p1.Height)] [0, 3, 6, 7, 8, 73, 79] [(0, (sv Aa p0 ca)), (3, (pt g3)), (6, (iv x28)), (7, (iv x36)), (8, (pt g50)), (73, (bv false)), (79, (bv (decide (w64 (x28 + 1) < p1.Height))))] [] [5] [(23, ⟨g3, 1, none⟩, (iv p1.Height))] (fun fb => by kernel_rfl) rfl trivial rfl ?_
           refine WL.setB 79 h58 rfl ?_
           refine segF 33 [.v (iv ((rdD p0 t44 z_Tile).N)), .v (iv p1.Width), .v (iv p1.Height), .v (sv Ab p1.Cells cb)] [0, 3, 6, 7, 73, 79, 81, 82, 83, 84, 86] [(0, (sv Aa p0 ca)), (3, (pt g3)), (6, (iv x28)), (7, (iv x36)), (73, (bv false)), (79, (bv true)), (81, (iv ((rdD p0 t44 z_Tile).N))), (82, (sv Aa p0 ca)), (83, (.agg #[(iv p1.Width), (iv p1.Height), (sv Ab p1.Cells cb)])), (84, (iv x36)), (86, (iv (w64 (x28 + 1))))] [] [6, 7, 8, 9] [(27, ⟨g50, 0, none⟩, (iv ((rdD p0 t44 z_Tile).N))), (29, ⟨g3, 0, none⟩, (iv p1.Width)), (29, ⟨g3, 1, none⟩, (iv p1.Height)), (29, ⟨g3, 2, none⟩, (sv Ab p1.Cells cb))] (fun fb => by kernel_rfl) rfl trivial rfl ?_
           obtain ⟨t72, ht73, hx70⟩ := bind_some hx70
           refine WL.call (some 87) 37 #[(.agg #[(iv p1.Width), (iv p1.Height), (sv Ab p1.Cells cb)]), (iv x36), (iv (w64 (x28 + 1)))] (fun fb => by kernel_rfl) (ref01_Cell_calls p1 x36 (w64 (x28 + 1)) Ab cb t72 _ (hS67.rd 1) ht73) (fun v w74 hR75 => ?_)
           obtain ⟨rfl, hk_⟩ := hR75
           have hS76 := hS67.keepN hk_
           refine ⟨⟨hS76.cell 0 rfl 0 rfl, trivial⟩, ?_⟩
           obtain ⟨h77, hx70⟩ := as_some hx70
           refine seg 40 [.v (iv ((rdD p0 t72 z_Tile).S))] [0, 3, 6, 7, 93] [(0, (sv Aa p0 ca)), (3, (pt g3)), (6, (iv x28)), (7, (iv x36)), (93, (bv (((rdD p0 t44 z_Tile).N) != ((rdD p0 t72 z_Tile).S))))] [.idx Aa t72 p0.length, .cell (((adr Aa).add ((t72).toNat * 4)).add 2) (iv ((rdD p0 t72 z_Tile).S))] (fun fb => by kernel_rfl) rfl ⟨rowR.adr (hS76.rd 0).1 h77.1 h77.2, rowR.cell (hS76.rd 0).1 z_Tile h77.1 h77.2 2 rfl, trivial⟩ ?_
           injection hx70 with hx70
           exact WL.to K (((rdD p0 t44 z_Tile).N) != ((rdD p0 t72 z_Tile).S)) [0, 3, 6, 7, 93] rfl ⟨⟨(hS76.subR [0, 1]).sub [1] (by decide), hx70.symm⟩, trivial⟩
          rintro y78 w80 ⟨⟨hS81, hq79⟩, hF82⟩
          subst hq79
          refine WL.done rfl ?_
          injection hx56 with hx56
          exact WX.to Kx55 x69 [0, 3, 6, 7, 93] rfl ⟨(hS81.subR [0, 1]).sub [0] (by decide), hx56.symm⟩
         refine WC.regionD ([(3, ⟨g3, 0, none⟩, (iv p1.Width)), (7, ⟨g50, 1, none⟩, (iv ((rdD p0 t44 z_Tile).E))), (9, ⟨g3, 0, none⟩, (iv p1.Width)), (9, ⟨g3, 1, none⟩, (iv p1.Height)), (9, ⟨g3, 2, none⟩, (sv Ab p1.Cells cb)), (23, ⟨g3, 1, none⟩, (iv p1.Height)), (27, ⟨g50, 0, none⟩, (iv ((rdD p0 t44 z_Tile).N))), (29, ⟨g3, 0, none⟩, (iv p1.Width)), (29, ⟨g3, 1, none⟩, (iv p1.Height)), (29, ⟨g3, 2, none⟩, (sv Ab p1.Cells cb))], [0, 1, 2, 3, 4, 5, 6, 7, 8, 9, 10, 11, 12, 14, 15, 17, 18, 19, 20, 21, 22, 23, 24, 25, 26, 27, 28, 29, 30, 31, 32, 34, 35, 37, 38, 39], [[], [0], [], [2], [0, 1, 2, 3], [0, 1, 2, 3, 4], [0, 1, 2, 3, 4, 5], [0, 1, 2, 3, 4, 5, 6], [0, 1, 2, 3, 4, 5], [0, 1, 2, 3, 4, 5], [0, 1, 2, 3, 4, 5], [0, 1, 2, 3, 4, 5, 10], [0, 1, 2, 3, 4, 5], [0, 1, 2, 3, 4, 5, 9, 10, 11, 12], [0, 1, 2, 3, 4, 5, 8, 9, 10, 11, 12, 13], [0, 1, 2, 3, 4, 5, 8, 9, 10, 11, 12, 13, 14], [0, 1, 2, 3, 4, 5, 8, 9, 10, 11, 12, 13, 14, 15], [0, 1, 2, 3, 4, 5, 6, 7, 8, 9, 10, 11, 12, 13, 14, 15, 16], [0, 1, 2, 3, 4, 5, 6, 7, 8, 9, 10, 11, 12, 13, 14, 15, 16, 17], [0, 1, 2, 3, 4, 5, 6, 7, 8, 9, 10, 11, 12, 13, 14, 15, 16, 17, 18], [0, 1, 2, 3, 4, 5, 6, 7, 8, 9, 10, 11, 12, 13, 14, 15, 16, 17, 18, 19], [0, 1, 2, 3, 4, 5, 6, 7, 8, 9, 10, 11, 12, 13, 14, 15, 16, 17, 18, 19, 20], [0, 1, 2, 3, 4, 5, 6, 7, 8, 9, 10, 11, 12, 13, 14, 15, 16, 17, 18, 19], [0, 1, 2, 3, 4, 5, 6, 7, 8, 9, 10, 11, 12, 13, 14, 15, 16, 17, 18, 19, 22], [0, 1, 2, 3, 4, 5, 6, 7, 8, 9, 10, 11, 12, 13, 14, 15, 16, 17, 18, 19, 20, 21, 22, 23], [0, 1, 2, 3, 4, 5, 6, 7, 8, 9, 10, 11, 12, 13, 14, 15, 16, 17, 18, 19, 20, 21, 22, 23, 24], [0, 1, 2, 3, 4, 5, 6, 7, 8, 9, 10, 11, 12, 13, 14, 15, 16, 17, 18, 19, 20, 21, 22, 23, 24, 25], [0, 1, 2, 3, 4, 5, 6, 7, 8, 9, 10, 11, 12, 13, 14, 15, 16, 17, 18, 19, 20, 21, 22, 23, 24, 25, 26], [0, 1, 2, 3, 4, 5, 6, 7, 8, 9, 10, 11, 12, 13, 14, 15, 16, 17, 18, 19, 20, 21, 22, 23, 24, 25], [0, 1, 2, 3, 4, 5, 6, 7, 8, 9, 10, 11, 12, 13, 14, 15, 16, 17, 18, 19, 20, 21, 22, 23, 24, 25], [0, 1, 2, 3, 4, 5, 6, 7, 8, 9, 10, 11, 12, 13, 14, 15, 16, 17, 18, 19, 20, 21, 22, 23, 24, 25], [0, 1, 2, 3, 4, 5, 6, 7, 8, 9, 10, 11, 12, 13, 14, 15, 16, 17, 18, 19, 20, 21, 22, 23, 24, 25], [0, 1, 2, 3, 4, 5, 6, 7, 8, 9, 10, 11, 12, 13, 14, 15, 16, 17, 18, 19, 20, 21, 22, 23, 24, 25, 31], [0, 1, 2, 3, 4, 5, 6, 7, 8, 9, 10, 11, 12, 13, 14, 15, 16, 17, 18, 19, 20, 21, 22, 23, 24, 25, 29, 30, 31, 32], [0, 1, 2, 3, 4, 5, 6, 7, 8, 9, 10, 11, 12, 13, 14, 15, 16, 17, 18, 19, 20, 21, 22, 23, 24, 25, 28, 29, 30, 31, 32, 33], [0, 1, 2, 3, 4, 5, 6, 7, 8, 9, 10, 11, 12, 13, 14, 15, 16, 17, 18, 19, 20, 21, 22, 23, 24, 25, 28, 29, 30, 31, 32, 33, 34], [0, 1, 2, 3, 4, 5, 6, 7, 8, 9, 10, 11, 12, 13, 14, 15, 16, 17, 18, 19, 20, 21, 22, 23, 24, 25, 28, 29, 30, 31, 32, 33, 34, 35], [0, 1, 2, 3, 4, 5, 6, 7, 8, 9, 10, 11, 12, 13, 14, 15, 16, 17, 18, 19, 20, 21, 22, 23, 24, 25, 26, 27, 28, 29, 30, 31, 32, 33, 34, 35, 36], [0, 1, 2, 3, 4, 5, 6, 7, 8, 9, 10, 11, 12, 13, 14, 15, 16, 17, 18, 19, 20, 21, 22, 23, 24, 25, 26, 27, 28, 29, 30, 31, 32, 33, 34, 35, 36, 37], [0, 1, 2, 3, 4, 5, 6, 7, 8, 9, 10, 11, 12, 13, 14, 15, 16, 17, 18, 19, 20, 21, 22, 23, 24, 25, 26, 27, 28, 29, 30, 31, 32, 33, 34, 35, 36, 37, 38]]) [[0, 1, 2, 3, 4, 5, 6, 7, 8, 9, 10, 11, 12, 13, 14, 15, 16, 17, 18, 19, 20, 21, 22, 23, 24, 25, 26, 27, 28, 29, 30, 31, 32, 33, 34, 35, 36, 37, 38, 39]] (by kernel_rfl) (by kernel_rfl) (NoPanic.seq (NoPanic.block (NoPanic.seq (NoPanic.seq (NoPanic.block (NoPanic.block (NoPanic.seq (NoPanic.seq (NoPanic.block (NoPanic.seq (NoPanic.body))))))))))) ?_
         have hS84 := hS54.drew
         revert hS84
         generalize World.drew w53 = w83
         intro hS84
         refine ⟨⟨hS84.cell 1 rfl 0 rfl, hS84.cell 0 rfl 1 rfl, hS84.cell 1 rfl 0 rfl, hS84.cell 1 rfl 1 rfl, hS84.cell 1 rfl 2 rfl, hS84.cell 1 rfl 1 rfl, hS84.cell 0 rfl 0 rfl, hS84.cell 1 rfl 0 rfl, hS84.cell 1 rfl 1 rfl, hS84.cell 1 rfl 2 rfl, trivial⟩, forallC ?_ (forallN)⟩
         refine segF 6 [.v (iv p1.Width)] [0, 3, 6, 7, 8, 59] [(0, (sv Aa p0 ca)), (3, (pt g3)), (6, (iv x28)), (7, (iv x36)), (8, (pt g50)), (59, (bv (decide (w64 (x36 + 1) < p1.Width))))] [] [0] [(3, ⟨g3, 0, none⟩, (iv p1.Width))] (fun fb => by kernel_rfl) rfl trivial rfl ?_
         refine WL.setB 59 h57 rfl ?_
         refine segF 13 [.v (iv ((rdD p0 t44 z_Tile).E)), .v (iv p1.Width), .v (iv p1.Height), .v (sv Ab p1.Cells cb)] [0, 3, 6, 7, 8, 59, 61, 62, 63, 65, 66] [(0, (sv Aa p0 ca)), (3, (pt g3)), (6, (iv x28)), (7, (iv x36)), (8, (pt g50)), (59, (bv true)), (61, (iv ((rdD p0 t44 z_Tile).E))), (62, (sv Aa p0 ca)), (63, (.agg #[(iv p1.Width), (iv p1.Height), (sv Ab p1.Cells cb)])), (65, (iv (w64 (x36 + 1)))), (66, (iv x28))] [] [1, 2, 3, 4] [(7, ⟨g50, 1, none⟩, (iv ((rdD p0 t44 z_Tile).E))), (9, ⟨g3, 0, none⟩, (iv p1.Width)), (9, ⟨g3, 1, none⟩, (iv p1.Height)), (9, ⟨g3, 2, none⟩, (sv Ab p1.Cells cb))] (fun fb => by kernel_rfl) rfl trivial rfl ?_
         obtain ⟨t85, ht86, hx56⟩ := bind_some hx56
         refine WL.call (some 67) 37 #[(.agg #[(iv p1.Width), (iv p1.Height), (sv Ab p1.Cells cb)]), (iv (w64 (x36 + 1))), (iv x28)] (fun fb => by kernel_rfl) (ref01_Cell_calls p1 (w64 (x36 + 1)) x28 Ab cb t85 _ (hS84.rd 1) ht86) (fun v w87 hR88 => ?_)
         obtain ⟨rfl, hk_⟩ := hR88
         have hS89 := hS84.keepN hk_
         refine ⟨⟨hS89.cell 0 rfl 1 rfl, hS89.cell 1 rfl 1 rfl, hS89.cell 0 rfl 0 rfl, hS89.cell 1 rfl 0 rfl, hS89.cell 1 rfl 1 rfl, hS89.cell 1 rfl 2 rfl, trivial⟩, ?_⟩
         obtain ⟨h90, hx56⟩ := as_some hx56
         refine seg 20 [.v (iv ((rdD p0 t85 z_Tile).W))] [0, 3, 6, 7, 8, 73] [(0, (sv Aa p0 ca)), (3, (pt g3)), (6, (iv x28)), (7, (iv x36)), (8, (pt g50)), (73, (bv (((rdD p0 t44 z_Tile).E) != ((rdD p0 t85 z_Tile).W))))] [.idx Aa t85 p0.length, .cell (((adr Aa).add ((t85).toNat * 4)).add 3) (iv ((rdD p0 t85 z_Tile).W))] (fun fb => by kernel_rfl) rfl ⟨rowR.adr (hS89.rd 0).1 h90.1 h90.2, rowR.cell (hS89.rd 0).1 z_Tile h90.1 h90.2 3 rfl, trivial⟩ ?_
         refine WL.cutV (T := Bool) 40 (fun t => [(93, (bv t)), (0, (sv Aa p0 ca)), (3, (pt g3)), (6, (iv x28)), (7, (iv x36))]) (fun t => (((rdD p0 t44 z_Tile).E) != ((rdD p0 t85 z_Tile).W)) = t) (fun K => ?_) ?_
         ·
          rcases Bool.eq_false_or_eq_true (((rdD p0 t44 z_Tile).E) != ((rdD p0 t85 z_Tile).W)) with h91 | h91
          ·
           refine WL.setB 73 h91 rfl ?_
           refine seg 40 [] [0, 3, 6, 7, 93] [(0, (sv Aa p0 ca)), (3, (pt g3)), (6, (iv x28)), (7, (iv x36)), (93, (bv true))] [] (fun fb => by kernel_rfl) rfl trivial ?_
           exact WL.toV K true [93, 0, 3, 6, 7] rfl (by first | (rw [h91]; done) | (rw [h91]; rfl))
          refine WL.setB 73 h91 rfl ?_
          refine segF 26 [.v (iv p1.Height)] [0, 3, 6, 7, 8, 73, 79] [(0, (sv Aa p0 ca)), (3, (pt g3)), (6, (iv x28)), (7, (iv x36)), (8, (pt g50)), (73, (bv false)), (79, (bv (decide (w64 (x28 + 1) < p1.Height))))] [] [5] [(23, ⟨g3, 1, none⟩, (iv p1.Height))] (fun fb => by kernel_rfl) rfl trivial rfl ?_
          refine WL.setB 79 h58 rfl ?_
          refine seg 40 [] [0, 3, 6, 7, 93] [(0, (sv Aa p0 ca)), (3, (pt g3)), (6, (iv x28)), (7, (iv x36)), (93, (bv false))] [] (fun fb => by kernel_rfl) rfl trivial ?_
          exact WL.toV K false [93, 0, 3, 6, 7] rfl (by first | (rw [h91]; done) | (rw [h91]; rfl))
         rintro b92 rfl
         refine WL.done rfl ?_
         injection hx56 with hx56
         exact WX.to Kx55 (((rdD p0 t44 z_Tile).E) != ((rdD p0 t85 z_Tile).W)) [0, 3, 6, 7, 93] rfl ⟨(hS89.subR [0, 1]).sub [1] (by decide), hx56.symm⟩
        rcases br_some hx56 with ⟨h93, hx56⟩ | ⟨h93, hx56⟩
        ·
         refine WC.regionD ([(3, ⟨g3, 0, none⟩, (iv p1.Width)), (23, ⟨g3, 1, none⟩, (iv p1.Height)), (27, ⟨g50, 0, none⟩, (iv ((rdD p0 t44 z_Tile).N))), (29, ⟨g3, 0, none⟩, (iv p1.Width)), (29, ⟨g3, 1, none⟩, (iv p1.Height)), (29, ⟨g3, 2, none⟩, (sv Ab p1.Cells cb))], [0, 1, 2, 3, 4, 5, 6, 7, 8, 9, 10, 11, 12, 14, 15, 17, 18, 19, 20, 21, 22, 23, 24, 25, 26, 27, 28, 29, 30, 31, 32, 34, 35, 37, 38, 39], [[], [0], [], [2], [0, 1, 2, 3], [0, 1, 2, 3, 4], [0, 1, 2, 3, 4, 5], [0, 1, 2, 3, 4, 5, 6], [0, 1, 2, 3, 4, 5], [0, 1, 2, 3, 4, 5], [0, 1, 2, 3, 4, 5], [0, 1, 2, 3, 4, 5, 10], [0, 1, 2, 3, 4, 5], [0, 1, 2, 3, 4, 5, 9, 10, 11, 12], [0, 1, 2, 3, 4, 5, 8, 9, 10, 11, 12, 13], [0, 1, 2, 3, 4, 5, 8, 9, 10, 11, 12, 13, 14], [0, 1, 2, 3, 4, 5, 8, 9, 10, 11, 12, 13, 14, 15], [0, 1, 2, 3, 4, 5, 6, 7, 8, 9, 10, 11, 12, 13, 14, 15, 16], [0, 1, 2, 3, 4, 5, 6, 7, 8, 9, 10, 11, 12, 13, 14, 15, 16, 17], [0, 1, 2, 3, 4, 5, 6, 7, 8, 9, 10, 11, 12, 13, 14, 15, 16, 17, 18], [0, 1, 2, 3, 4, 5, 6, 7, 8, 9, 10, 11, 12, 13, 14, 15, 16, 17, 18, 19], [0, 1, 2, 3, 4, 5, 6, 7, 8, 9, 10, 11, 12, 13, 14, 15, 16, 17, 18, 19, 20], [0, 1, 2, 3, 4, 5, 6, 7, 8, 9, 10, 11, 12, 13, 14, 15, 16, 17, 18, 19], [0, 1, 2, 3, 4, 5, 6, 7, 8, 9, 10, 11, 12, 13, 14, 15, 16, 17, 18, 19, 22], [0, 1, 2, 3, 4, 5, 6, 7, 8, 9, 10, 11, 12, 13, 14, 15, 16, 17, 18, 19, 20, 21, 22, 23], [0, 1, 2, 3, 4, 5, 6, 7, 8, 9, 10, 11, 12, 13, 14, 15, 16, 17, 18, 19, 20, 21, 22, 23, 24], [0, 1, 2, 3, 4, 5, 6, 7, 8, 9, 10, 11, 12, 13, 14, 15, 16, 17, 18, 19, 20, 21, 22, 23, 24, 25], [0, 1, 2, 3, 4, 5, 6, 7, 8, 9, 10, 11, 12, 13, 14, 15, 16, 17, 18, 19, 20, 21, 22, 23, 24, 25, 26], [0, 1, 2, 3, 4, 5, 6, 7, 8, 9, 10, 11, 12, 13, 14, 15, 16, 17, 18, 19, 20, 21, 22, 23, 24, 25], [0, 1, 2, 3, 4, 5, 6, 7, 8, 9, 10, 11, 12, 13, 14, 15, 16, 17, 18, 19, 20, 21, 22, 23, 24, 25], [0, 1, 2, 3, 4, 5, 6, 7, 8, 9, 10, 11, 12, 13, 14, 15, 16, 17, 18, 19, 20, 21, 22, 23, 24, 25], [0, 1, 2, 3, 4, 5, 6, 7, 8, 9, 10, 11, 12, 13, 14, 15, 16, 17, 18, 19, 20, 21, 22, 23, 24, 25], [0, 1, 2, 3, 4, 5, 6, 7, 8, 9, 10, 11, 12, 13, 14, 15, 16, 17, 18, 19, 20, 21, 22, 23, 24, 25, 31], [0, 1, 2, 3, 4, 5, 6, 7, 8, 9, 10, 11, 12, 13, 14, 15, 16, 17, 18, 19, 20, 21, 22, 23, 24, 25, 29, 30, 31, 32], [0, 1, 2, 3, 4, 5, 6, 7, 8, 9, 10, 11, 12, 13, 14, 15, 16, 17, 18, 19, 20, 21, 22, 23, 24, 25, 28, 29, 30, 31, 32, 33], [0, 1, 2, 3, 4, 5, 6, 7, 8, 9, 10, 11, 12, 13, 14, 15, 16, 17, 18, 19, 20, 21, 22, 23, 24, 25, 28, 29, 30, 31, 32, 33, 34], [0, 1, 2, 3, 4, 5, 6, 7, 8, 9, 10, 11, 12, 13, 14, 15, 16, 17, 18, 19, 20, 21, 22, 23, 24, 25, 28, 29, 30, 31, 32, 33, 34, 35], [0, 1, 2, 3, 4, 5, 6, 7, 8, 9, 10, 11, 12, 13, 14, 15, 16, 17, 18, 19, 20, 21, 22, 23, 24, 25, 26, 27, 28, 29, 30, 31, 32, 33, 34, 35, 36], [0, 1, 2, 3, 4, 5, 6, 7, 8, 9, 10, 11, 12, 13, 14, 15, 16, 17, 18, 19, 20, 21, 22, 23, 24, 25, 26, 27, 28, 29, 30, 31, 32, 33, 34, 35, 36, 37], [0, 1, 2, 3, 4, 5, 6, 7, 8, 9, 10, 11, 12, 13, 14, 15, 16, 17, 18, 19, 20, 21, 22, 23, 24, 25, 26, 27, 28, 29, 30, 31, 32, 33, 34, 35, 36, 37, 38]]) [[0, 1, 2, 3, 4, 5, 6, 7, 8, 9, 10, 11, 12, 13, 14, 15, 16, 17, 18, 19, 20, 21, 22, 23, 24, 25, 26, 27, 28, 29, 30, 31, 32, 33, 34, 35, 36, 37, 38, 39]] (by kernel_rfl) (by kernel_rfl) (NoPanic.seq (NoPanic.block (NoPanic.seq (NoPanic.seq (NoPanic.block (NoPanic.block (NoPanic.seq (NoPanic.seq (NoPanic.block (NoPanic.seq (NoPanic.body))))))))))) ?_
         have hS95 := hS54.drew
         revert hS95
         generalize World.drew w53 = w94
         intro hS95
         refine ⟨⟨hS95.cell 1 rfl 0 rfl, hS95.cell 1 rfl 1 rfl, hS95.cell 0 rfl 0 rfl, hS95.cell 1 rfl 0 rfl, hS95.cell 1 rfl 1 rfl, hS95.cell 1 rfl 2 rfl, trivial⟩, forallC ?_ (forallN)⟩
         refine segF 6 [.v (iv p1.Width)] [0, 3, 6, 7, 8, 59] [(0, (sv Aa p0 ca)), (3, (pt g3)), (6, (iv x28)), (7, (iv x36)), (8, (pt g50)), (59, (bv (decide (w64 (x36 + 1) < p1.Width))))] [] [0] [(3, ⟨g3, 0, none⟩, (iv p1.Width))] (fun fb => by kernel_rfl) rfl trivial rfl ?_
         refine WL.setB 59 h57 rfl ?_
         refine segF 26 [.v (iv p1.Height)] [0, 3, 6, 7, 8, 73, 79] [(0, (sv Aa p0 ca)), (3, (pt g3)), (6, (iv x28)), (7, (iv x36)), (8, (pt g50)), (73, (bv false)), (79, (bv (decide (w64 (x28 + 1) < p1.Height))))] [] [1] [(23, ⟨g3, 1, none⟩, (iv p1.Height))] (fun fb => by kernel_rfl) rfl trivial rfl ?_
         refine WL.setB 79 h93 rfl ?_
         refine segF 33 [.v (iv ((rdD p0 t44 z_Tile).N)), .v (iv p1.Width), .v (iv p1.Height), .v (sv Ab p1.Cells cb)] [0, 3, 6, 7, 73, 79, 81, 82, 83, 84, 86] [(0, (sv Aa p0 ca)), (3, (pt g3)), (6, (iv x28)), (7, (iv x36)), (73, (bv false)), (79, (bv true)), (81, (iv ((rdD p0 t44 z_Tile).N))), (82, (sv Aa p0 ca)), (83, (.agg #[(iv p1.Width), (iv p1.Height), (sv Ab p1.Cells cb)])), (84, (iv x36)), (86, (iv (w64 (x28 + 1))))] [] [2, 3, 4, 5] [(27, ⟨g50, 0, none⟩, (iv ((rdD p0 t44 z_Tile).N))), (29, ⟨g3, 0, none⟩, (iv p1.Width)), (29, ⟨g3, 1, none⟩, (iv p1.Height)), (29, ⟨g3, 2, none⟩, (sv Ab p1.Cells cb))] (fun fb => by kernel_rfl) rfl trivial rfl ?_
         obtain ⟨t96, ht97, hx56⟩ := bind_some hx56
         refine WL.call (some 87) 37 #[(.agg #[(iv p1.Width), (iv p1.Height), (sv Ab p1.Cells cb)]), (iv x36), (iv (w64 (x28 + 1)))] (fun fb => by kernel_rfl) (ref01_Cell_calls p1 x36 (w64 (x28 + 1)) Ab cb t96 _ (hS95.rd 1) ht97) (fun v w98 hR99 => ?_)
         obtain ⟨rfl, hk_⟩ := hR99
         have hS100 := hS95.keepN hk_
         refine ⟨⟨hS100.cell 0 rfl 0 rfl, trivial⟩, ?_⟩
         obtain ⟨h101, hx56⟩ := as_some hx56
         refine seg 40 [.v (iv ((rdD p0 t96 z_Tile).S))] [0, 3, 6, 7, 93] [(0, (sv Aa p0 ca)), (3, (pt g3)), (6, (iv x28)), (7, (iv x36)), (93, (bv (((rdD p0 t44 z_Tile).N) != ((rdD p0 t96 z_Tile).S))))] [.idx Aa t96 p0.length, .cell (((adr Aa).add ((t96).toNat * 4)).add 2) (iv ((rdD p0 t96 z_Tile).S))] (fun fb => by kernel_rfl) rfl ⟨rowR.adr (hS100.rd 0).1 h101.1 h101.2, rowR.cell (hS100.rd 0).1 z_Tile h101.1 h101.2 2 rfl, trivial⟩ ?_
         refine WL.done rfl ?_
         injection hx56 with hx56
         exact WX.to Kx55 (((rdD p0 t44 z_Tile).N) != ((rdD p0 t96 z_Tile).S)) [0, 3, 6, 7, 93] rfl ⟨(hS100.subR [0, 1]).sub [1] (by decide), hx56.symm⟩
        refine WC.regionD ([(3, ⟨g3, 0, none⟩, (iv p1.Width)), (23, ⟨g3, 1, none⟩, (iv p1.Height)), (27, ⟨g50, 0, none⟩, (iv ((rdD p0 t44 z_Tile).N))), (29, ⟨g3, 0, none⟩, (iv p1.Width)), (29, ⟨g3, 1, none⟩, (iv p1.Height)), (29, ⟨g3, 2, none⟩, (sv Ab p1.Cells cb))], [0, 1, 2, 3, 4, 5, 6, 7, 8, 9, 10, 11, 12, 14, 15, 17, 18, 19, 20, 21, 22, 23, 24, 25, 26, 27, 28, 29, 30, 31, 32, 34, 35, 37, 38, 39], [[], [0], [], [2], [0, 1, 2, 3], [0, 1, 2, 3, 4], [0, 1, 2, 3, 4, 5], [0, 1, 2, 3, 4, 5, 6], [0, 1, 2, 3, 4, 5], [0, 1, 2, 3, 4, 5], [0, 1, 2, 3, 4, 5], [0, 1, 2, 3, 4, 5, 10], [0, 1, 2, 3, 4, 5], [0, 1, 2, 3, 4, 5, 9, 10, 11, 12], [0, 1, 2, 3, 4, 5, 8, 9, 10, 11, 12, 13], [0, 1, 2, 3, 4, 5, 8, 9, 10, 11, 12, 13, 14], [0, 1, 2, 3, 4, 5, 8, 9, 10, 11, 12, 13, 14, 15], [0, 1, 2, 3, 4, 5, 6, 7, 8, 9, 10, 11, 12, 13, 14, 15, 16], [0, 1, 2, 3, 4, 5, 6, 7, 8, 9, 10, 11, 12, 13, 14, 15, 16, 17], [0, 1, 2, 3, 4, 5, 6, 7, 8, 9, 10, 11, 12, 13, 14, 15, 16, 17, 18], [0, 1, 2, 3, 4, 5, 6, 7, 8, 9, 10, 11, 12, 13, 14, 15, 16, 17, 18, 19], [0, 1, 2, 3, 4, 5, 6, 7, 8, 9, 10, 11, 12, 13, 14, 15, 16, 17, 18, 19, 20], [0, 1, 2, 3, 4, 5, 6, 7, 8, 9, 10, 11, 12, 13, 14, 15, 16, 17, 18, 19], [0, 1, 2, 3, 4, 5, 6, 7, 8, 9, 10, 11, 12, 13, 14, 15, 16, 17, 18, 19, 22], [0, 1, 2, 3, 4, 5, 6, 7, 8, 9, 10, 11, 12, 13, 14, 15, 16, 17, 18, 19, 20, 21, 22, 23], [0, 1, 2, 3, 4, 5, 6, 7, 8, 9, 10, 11, 12, 13, 14, 15, 16, 17, 18, 19, 20, 21, 22, 23, 24], [0, 1, 2, 3, 4, 5, 6, 7, 8, 9, 10, 11, 12, 13, 14, 15, 16, 17, 18, 19, 20, 21, 22, 23, 24, 25], [0, 1, 2, 3, 4, 5, 6, 7, 8, 9, 10, 11, 12, 13, 14, 15, 16, 17, 18, 19, 20, 21, 22, 23, 24, 25, 26], [0, 1, 2, 3, 4, 5, 6, 7, 8, 9, 10, 11, 12, 13, 14, 15, 16, 17, 18, 19, 20, 21, 22, 23, 24, 25], [0, 1, 2, 3, 4, 5, 6, 7, 8, 9, 10, 11, 12, 13, 14, 15, 16, 17, 18, 19, 20, 21, 22, 23, 24, 25], [0, 1, 2, 3, 4, 5, 6, 7, 8, 9, 10, 11, 12, 13, 14, 15, 16, 17, 18, 19, 20, 21, 22, 23, 24, 25], [0, 1, 2, 3, 4, 5, 6, 7, 8, 9, 10, 11, 12, 13, 14, 15, 16, 17, 18, 19, 20, 21, 22, 23, 24, 25], [0, 1, 2, 3, 4, 5, 6, 7, 8, 9, 10, 11, 12, 13, 14, 15, 16, 17, 18, 19, 20, 21, 22, 23, 24, 25, 31], [0, 1, 2, 3, 4, 5, 6, 7, 8, 9, 10, 11, 12, 13, 14, 15, 16, 17, 18, 19, 20, 21, 22, 23, 24, 25, 29, 30, 31, 32], [0, 1, 2, 3, 4, 5, 6, 7, 8, 9, 10, 11, 12, 13, 14, 15, 16, 17, 18, 19, 20, 21, 22, 23, 24, 25, 28, 29, 30, 31, 32, 33], [0, 1, 2, 3, 4, 5, 6, 7, 8, 9, 10, 11, 12, 13, 14, 15, 16, 17, 18, 19, 20, 21, 22, 23, 24, 25, 28, 29, 30, 31, 32, 33, 34], [0, 1, 2, 3, 4, 5, 6, 7, 8, 9, 10, 11, 12, 13, 14, 15, 16, 17, 18, 19, 20, 21, 22, 23, 24, 25, 28, 29, 30, 31, 32, 33, 34, 35], [0, 1, 2, 3, 4, 5, 6, 7, 8, 9, 10, 11, 12, 13, 14, 15, 16, 17, 18, 19, 20, 21, 22, 23, 24, 25, 26, 27, 28, 29, 30, 31, 32, 33, 34, 35, 36], [0, 1, 2, 3, 4, 5, 6, 7, 8, 9, 10, 11, 12, 13, 14, 15, 16, 17, 18, 19, 20, 21, 22, 23, 24, 25, 26, 27, 28, 29, 30, 31, 32, 33, 34, 35, 36, 37], [0, 1, 2, 3, 4, 5, 6, 7, 8, 9, 10, 11, 12, 13, 14, 15, 16, 17, 18, 19, 20, 21, 22, 23, 24, 25, 26, 27, 28, 29, 30, 31, 32, 33, 34, 35, 36, 37, 38]]) [[0, 1, 2, 3, 4, 5, 6, 7, 8, 9, 10, 11, 12, 13, 14, 15, 16, 17, 18, 19, 20, 21, 22, 23, 24, 25, 26, 27, 28, 29, 30, 31, 32, 33, 34, 35, 36, 37, 38, 39]] (by kernel_rfl) (by kernel_rfl) (NoPanic.seq (NoPanic.block (NoPanic.seq (NoPanic.seq (NoPanic.block (NoPanic.block (NoPanic.seq (NoPanic.seq (NoPanic.block (NoPanic.seq (NoPanic.body))))))))))) ?_
        have hS103 := hS54.drew
        revert hS103
        generalize World.drew w53 = w102
        intro hS103
        refine ⟨⟨hS103.cell 1 rfl 0 rfl, hS103.cell 1 rfl 1 rfl, hS103.cell 0 rfl 0 rfl, hS103.cell 1 rfl 0 rfl, hS103.cell 1 rfl 1 rfl, hS103.cell 1 rfl 2 rfl, trivial⟩, forallC ?_ (forallN)⟩
        refine segF 6 [.v (iv p1.Width)] [0, 3, 6, 7, 8, 59] [(0, (sv Aa p0 ca)), (3, (pt g3)), (6, (iv x28)), (7, (iv x36)), (8, (pt g50)), (59, (bv (decide (w64 (x36 + 1) < p1.Width))))] [] [0] [(3, ⟨g3, 0, none⟩, (iv p1.Width))] (fun fb => by kernel_rfl) rfl trivial rfl ?_
        refine WL.setB 59 h57 rfl ?_
        refine segF 26 [.v (iv p1.Height)] [0, 3, 6, 7, 8, 73, 79] [(0, (sv Aa p0 ca)), (3, (pt g3)), (6, (iv x28)), (7, (iv x36)), (8, (pt g50)), (73, (bv false)), (79, (bv (decide (w64 (x28 + 1) < p1.Height))))] [] [1] [(23, ⟨g3, 1, none⟩, (iv p1.Height))] (fun fb => by kernel_rfl) rfl trivial rfl ?_
        refine WL.setB 79 h93 rfl ?_
        refine seg 40 [] [0, 3, 6, 7, 93] [(0, (sv Aa p0 ca)), (3, (pt g3)), (6, (iv x28)), (7, (iv x36)), (93, (bv false))] [] (fun fb => by kernel_rfl) rfl trivial ?_
        refine WL.done rfl ?_
        injection hx56 with hx56
        exact WX.to Kx55 false [0, 3, 6, 7, 93] rfl ⟨(hS103.subR [0, 1]).sub [1] (by decide), hx56.symm⟩
       rintro y107 w104 ⟨hS105, hq106⟩
       subst hq106
       refine WX.next ?_
       rcases br_some hl42 with ⟨h108, hl42⟩ | ⟨h108, hl42⟩
       ·refine WC.condT2 (fun fb => by kernel_rfl) h108 ?_
        refine WC.seq (WC.region ?_)
        refine seg 1 [] [4] [(4, (bv false))] [] (fun fb => by kernel_rfl) rfl trivial ?_
        refine WL.done rfl (WX.next ?_)
        refine WC.ret ?_
        injection hl42 with hl42
        subst hl42
        injection hl34 with hl34
        subst hl34
        injection hf with hf
        subst hf
        exact WX.blockR (WX.thenR (WX.thenR (WX.blockR (WX.blockR (WX.thenR (WX.thenR (WX.blockR (WX.thenR (WX.ret_ [] (bv false) [] (fun fb => by kernel_rfl) trivial ⟨_, rfl, rfl, hS105.keep⟩)))))))))
       refine WC.condF2 (fun fb => by kernel_rfl) h108 ?_
       refine WC.skip ?_
       refine WX.blockN (WX.next ?_)
       refine WC.region ?_
       refine seg 3 [] [0, 3, 6, 7] [(0, (sv Aa p0 ca)), (3, (pt g3)), (6, (iv x28)), (7, (iv (w64 (x36 + 1))))] [] (fun fb => by kernel_rfl) rfl trivial ?_
       refine WL.done rfl ?_
       exact WX.again k39 (Nat.lt_succ_self _) (w64 (x36 + 1)) [0, 3, 6, 7] rfl ⟨(hS105.subR [0, 1]).sub [0] (by decide), hl42⟩
      refine WC.condF2 (fun fb => by kernel_rfl) h43 ?_
      refine WC.exit ?_
      injection hl42 with hl42
      exact WX.thenX (WX.thenX (WX.blockHere (WX.to Kx37 () [0, 3, 6] rfl ⟨(hS41.subR [0, 1]).sub [0] (by decide), hl42.symm⟩)))
    rintro y112 w109 ⟨hS110, hq111⟩
    subst hq111
    have hl34 := sum_inr hl34
    refine WX.blockN (WX.next ?_)
    refine WC.region ?_
    refine seg 3 [] [0, 3, 6] [(0, (sv Aa p0 ca)), (3, (pt g3)), (6, (iv (w64 (x28 + 1))))] [] (fun fb => by kernel_rfl) rfl trivial ?_
    refine WL.done rfl ?_
    exact WX.again k31 (Nat.lt_succ_self _) (w64 (x28 + 1)) [0, 3, 6] rfl ⟨(hS110.subR [0, 1]).sub [0] (by decide), hl34⟩
   refine WC.condF2 (fun fb => by kernel_rfl) h35 ?_
   refine WC.exit ?_
   injection hl34 with hl34
   exact WX.thenX (WX.thenX (WX.blockHere (WX.to Kx29 () [] rfl ⟨(hS33.subR [0, 1]).sub [] (by decide), hl34.symm⟩)))
 rintro y116 w113 ⟨hS114, hq115⟩
 subst hq115
 have hf := sum_inr hf
 refine WX.next (WC.seq (WC.region ?_))
 refine seg 1 [] [4] [(4, (bv true))] [] (fun fb => by kernel_rfl) rfl trivial ?_
 refine WL.done rfl (WX.next ?_)
 refine WC.ret ?_
 injection hf with hf
 subst hf
 exact WX.ret_ [] (bv true) [] (fun fb => by kernel_rfl) trivial ⟨_, rfl, rfl, hS114.keep⟩
theorem ref01_Fits_calls (k : Nat) (p0 : List Tile) (p1 : Pattern) (Aa : Option Addr) (ca : Nat) (Ab : Option Addr) (cb : Nat) (r : Bool) (w : World) (hR0 : RO NoS w (rowR enc_Tile Aa ca p0)) (hR1 : RO NoS w (rowR encInt Ab cb p1.Cells)) (hf : ref01_Fits k p0 p1 = some r) :
  CallsR Tryd.prog 35 #[(sv Aa p0 ca), (.agg #[(iv p1.Width), (iv p1.Height), (sv Ab p1.Cells cb)])] w (fun v w' => v = (bv r) ∧ Keeps NoS w w') := by
 have hS : St NoS w w [rowR enc_Tile Aa ca p0, rowR encInt Ab cb p1.Cells] [] := St.init (ro_cons hR0 (ro_cons hR1 (ro_nil _ _)))
 refine enter 12 Tryd.func35 rfl Tryd.ntmps35 rfl ?_
 unfold ref01_Fits at hf
 refine WC.seq (WC.region ?_)
 refine WL.new hS 3 [] (fun g => (pt g)) (.cells #[(iv p1.Width), (iv p1.Height), (sv Ab p1.Cells cb)] 27 (0, 0)) [] (fun fb g => by kernel_rfl) trivial (fun g2 w3 hS4 => ?_)
 refine ⟨trivial, ?_⟩
 refine seg 2 [] [0, 3] [(0, (sv Aa p0 ca)), (3, (pt g2))] [] (fun fb => by kernel_rfl) rfl trivial ?_
 refine WL.done rfl (WX.next (WC.seq (WC.region ?_)))
 refine seg 1 [] [0, 3, 5] [(0, (sv Aa p0 ca)), (3, (pt g2)), (5, (sv Aa p0 ca))] [] (fun fb => by kernel_rfl) rfl trivial ?_
 obtain ⟨t5, ht6, hf⟩ := bind_some hf
 refine WL.call (some 6) 15 #[(sv Aa p0 ca)] (fun fb => by kernel_rfl) (ref01_Valid_calls _ p0 Aa ca t5 _ (hS4.rd 0) ht6) (fun v w7 hR8 => ?_)
 obtain ⟨rfl, hk_⟩ := hR8
 have hS9 := hS4.keepN hk_
 refine ⟨trivial, ?_⟩
 refine seg 3 [] [0, 3, 7] [(0, (sv Aa p0 ca)), (3, (pt g2)), (7, (bv t5))] [] (fun fb => by kernel_rfl) rfl trivial ?_
 obtain ⟨x10, hx11, hf⟩ := bind_some hf
 refine WL.cutW (T := Bool) 7 (fun t => [(11, (bv t))]) (fun t w1 => (St NoS w w1 [rowR enc_Tile Aa ca p0, rowR encInt Ab cb p1.Cells] [] ∧ x10 = t) ∧ CellsOK [] w1) (fun K => ?_) ?_
 ·
  rcases br_some hx11 with ⟨h12, hx11⟩ | ⟨h12, hx11⟩
  ·
   refine WL.setB 7 h12 rfl ?_
   refine seg 5 [.v (iv p1.Width), .v (iv p1.Height), .v (sv Ab p1.Cells cb)] [7, 8, 9] [(7, (bv true)), (8, (sv Aa p0 ca)), (9, (.agg #[(iv p1.Width), (iv p1.Height), (sv Ab p1.Cells cb)]))] [.cell ⟨g2, 0, none⟩ (iv p1.Width), .cell ⟨g2, 1, none⟩ (iv p1.Height), .cell ⟨g2, 2, none⟩ (sv Ab p1.Cells cb)] (fun fb => by kernel_rfl) rfl ⟨hS9.cell 0 rfl 0 rfl, hS9.cell 0 rfl 1 rfl, hS9.cell 0 rfl 2 rfl, trivial⟩ ?_
   obtain ⟨t13, ht14, hx11⟩ := bind_some hx11
   refine WL.call (some 10) 65 #[(sv Aa p0 ca), (.agg #[(iv p1.Width), (iv p1.Height), (sv Ab p1.Cells cb)])] (fun fb => by kernel_rfl) (ref01_Of_calls _ p0 p1 Aa ca Ab cb t13 _ (hS9.rd 0) (hS9.rd 1) ht14) (fun v w15 hR16 => ?_)
   obtain ⟨rfl, hk_⟩ := hR16
   have hS17 := hS9.keepN hk_
   refine ⟨trivial, ?_⟩
   refine seg 7 [] [11] [(11, (bv t13))] [] (fun fb => by kernel_rfl) rfl trivial ?_
   injection hx11 with hx11
   exact WL.to K t13 [11] rfl ⟨⟨(hS17.subR [0, 1]).sub [] (by decide), hx11.symm⟩, trivial⟩
  refine WL.setB 7 h12 rfl ?_
  refine seg 7 [] [11] [(11, (bv false))] [] (fun fb => by kernel_rfl) rfl trivial ?_
  injection hx11 with hx11
  exact WL.to K false [11] rfl ⟨⟨(hS9.subR [0, 1]).sub [] (by decide), hx11.symm⟩, trivial⟩
 rintro y18 w20 ⟨⟨hS21, hq19⟩, hF22⟩
 subst hq19
 refine seg 8 [] [4] [(4, (bv x10))] [] (fun fb => by kernel_rfl) rfl trivial ?_
 refine WL.done rfl (WX.next ?_)
 refine WC.ret ?_
 injection hf with hf
 subst hf
 exact WX.ret_ [] (bv x10) [] (fun fb => by kernel_rfl) trivial ⟨_, rfl, rfl, hS21.keep⟩
theorem ref02_has_calls (p0 : List Int) (p1 : Int) (p2 : Int) (Aa : Option Addr) (ca : Nat) (r : Bool) (w : World) (hR0 : RO NoS w (rowR encInt Aa ca p0)) (hf : ref02_has p0 p1 p2 = some r) :
  CallsR Tryd.prog 66 #[(sv Aa p0 ca), (iv p1), (iv p2)] w (fun v w' => v = (bv r) ∧ Keeps NoS w w') := by
 have hS : St NoS w w [rowR encInt Aa ca p0] [] := St.init (ro_cons hR0 (ro_nil _ _))
 refine enter 18 Tryd.func66 rfl Tryd.ntmps66 rfl ?_
 unfold ref02_has at hf
 refine WC.seq (WC.region ?_)
 refine seg 1 [] [0, 1, 2] [(0, (sv Aa p0 ca)), (1, (iv p1)), (2, (iv p2))] [] (fun fb => by kernel_rfl) rfl trivial ?_
 refine WL.done rfl (WX.next (WC.seq (WC.region ?_)))
 refine seg 4 [] [0, 1, 2, 10] [(0, (sv Aa p0 ca)), (1, (iv p1)), (2, (iv p2)), (10, (bv ((p0.length : Int) == 0)))] [] (fun fb => by kernel_rfl) rfl trivial ?_
 obtain ⟨b3, hv4, hf⟩ := bind_some hf
 refine WL.cutV (T := Unit) 11 (fun t => [(17, (bv b3))]) (fun t => True) (fun K => ?_) ?_
 ·
  rcases br_some hv4 with ⟨h5, hv4⟩ | ⟨h5, hv4⟩
  ·
   refine WL.setB 10 h5 rfl ?_
   refine seg 11 [] [17] [(17, (bv true))] [] (fun fb => by kernel_rfl) rfl trivial ?_
   injection hv4 with hv4
   subst hv4
   exact WL.toV K () [17] rfl trivial
  refine WL.setB 10 h5 rfl ?_
  refine seg 6 [] [2, 10, 11, 12] [(2, (iv p2)), (10, (bv false)), (11, (sv Aa p0 ca)), (12, (iv p1))] [] (fun fb => by kernel_rfl) rfl trivial ?_
  obtain ⟨h6, hv4⟩ := as_some hv4
  refine seg 11 [.v (iv (rdD p0 p1 0))] [17] [(17, (bv ((rdD p0 p1 0) == p2)))] [.idx Aa p1 p0.length, .cell ((adr Aa).add ((p1).toNat * 1)) (iv (rdD p0 p1 0))] (fun fb => by kernel_rfl) rfl ⟨rowR.adr (hS.rd 0).1 h6.1 h6.2, rowR.cell (hS.rd 0).1 0 h6.1 h6.2 0 rfl, trivial⟩ ?_
  injection hv4 with hv4
  subst hv4
  exact WL.toV K () [17] rfl trivial
 rintro _ _
 refine seg 12 [] [6] [(6, (bv b3))] [] (fun fb => by kernel_rfl) rfl trivial ?_
 refine WL.done rfl (WX.next ?_)
 refine WC.ret ?_
 injection hf with hf
 subst hf
 exact WX.ret_ [] (bv b3) [] (fun fb => by kernel_rfl) trivial ⟨_, rfl, rfl, hS.keep⟩
theorem ref02_Has_calls (k : Nat) (p0 : List Tile) (p1 : Pattern) (p2 : Edges) (Aa : Option Addr) (ca : Nat) (Ab : Option Addr) (cb : Nat) (Ac : Option Addr) (cc : Nat) (Ad : Option Addr) (cd : Nat) (Ae : Option Addr) (ce : Nat) (Af : Option Addr) (cf : Nat) (r : Bool) (w : World) (hR0 : RO NoS w (rowR enc_Tile Aa ca p0)) (hR1 : RO NoS w (rowR encInt Ab cb p1.Cells)) (hR2 : RO NoS w (rowR encInt Ac cc p2.North)) (hR3 : RO NoS w (rowR encInt Ad cd p2.East)) (hR4 : RO NoS w (rowR encInt Ae ce p2.South)) (hR5 : RO NoS w (rowR encInt Af cf p2.West)) (hf : ref02_Has k p0 p1 p2 = some r) :
  CallsR Tryd.prog 36 #[(sv Aa p0 ca), (.agg #[(iv p1.Width), (iv p1.Height), (sv Ab p1.Cells cb)]), (.agg #[(sv Ac p2.North cc), (sv Ad p2.East cd), (sv Ae p2.South ce), (sv Af p2.West cf)])] w (fun v w' => v = (bv r) ∧ Keeps NoS w w') := by
 have hS : St NoS w w [rowR enc_Tile Aa ca p0, rowR encInt Ab cb p1.Cells, rowR encInt Ac cc p2.North, rowR encInt Ad cd p2.East, rowR encInt Ae ce p2.South, rowR encInt Af cf p2.West] [] := St.init (ro_cons hR0 (ro_cons hR1 (ro_cons hR2 (ro_cons hR3 (ro_cons hR4 (ro_cons hR5 (ro_nil _ _)))))))
 refine enter 79 Tryd.func36 rfl Tryd.ntmps36 rfl ?_
 unfold ref02_Has at hf
 refine WC.seq (WC.region ?_)
 refine WL.new hS 4 [] (fun g => (pt g)) (.cells #[(iv p1.Width), (iv p1.Height), (sv Ab p1.Cells cb)] 27 (0, 0)) [] (fun fb g => by kernel_rfl) trivial (fun g6 w7 hS8 => ?_)
 refine ⟨trivial, ?_⟩
 refine WL.new hS8 5 [] (fun g => (pt g)) (.cells #[(sv Ac p2.North cc), (sv Ad p2.East cd), (sv Ae p2.South ce), (sv Af p2.West cf)] 44 (0, 0)) [] (fun fb g => by kernel_rfl) trivial (fun g9 w10 hS11 => ?_)
 refine ⟨trivial, ?_⟩
 refine seg 3 [] [0, 4, 5] [(0, (sv Aa p0 ca)), (4, (pt g6)), (5, (pt g9))] [] (fun fb => by kernel_rfl) rfl trivial ?_
 refine WL.done rfl (WX.next (WC.seq (WC.seq (WC.region ?_))))
 refine seg 1 [] [0, 4, 5, 7] [(0, (sv Aa p0 ca)), (4, (pt g6)), (5, (pt g9)), (7, (iv 0))] [] (fun fb => by kernel_rfl) rfl trivial ?_
 refine WL.done rfl (WX.next ?_)
 obtain ⟨x13, hx14, hf⟩ := bind_some hf
 refine WC.cutN (T := Unit) (fun t => [(0, (sv Aa p0 ca)), (4, (pt g6)), (5, (pt g9))]) (fun t w1 => St NoS w w1 [rowR enc_Tile Aa ca p0, rowR encInt Ab cb p1.Cells, rowR encInt Ac cc p2.North, rowR encInt Ad cd p2.East, rowR encInt Ae ce p2.South, rowR encInt Af cf p2.West] [blk g6 (.cells #[(iv p1.Width), (iv p1.Height), (sv Ab p1.Cells cb)] 27 (0, 0)), blk g9 (.cells #[(sv Ac p2.North cc), (sv Ad p2.East cd), (sv Ae p2.South ce), (sv Af p2.West cf)] 44 (0, 0))] ∧ x13 = .inr t) (fun Kx13 => ?_) ?_
 ·
  refine WC.block ?_
  refine WC.loop (T := Int) (fun t => [(0, (sv Aa p0 ca)), (4, (pt g6)), (5, (pt g9)), (7, (iv t))]) (fun n t w1 => St NoS w w1 [rowR enc_Tile Aa ca p0, rowR encInt Ab cb p1.Cells, rowR encInt Ac cc p2.North, rowR encInt Ad cd p2.East, rowR encInt Ae ce p2.South, rowR encInt Af cf p2.West] [blk g6 (.cells #[(iv p1.Width), (iv p1.Height), (sv Ab p1.Cells cb)] 27 (0, 0)), blk g9 (.cells #[(sv Ac p2.North cc), (sv Ad p2.East cd), (sv Ae p2.South ce), (sv Af p2.West cf)] 44 (0, 0))] ∧ ref02_Has.l0 n t p0 p1 p2 = some x13) k 0 [0, 4, 5, 7] rfl ⟨(hS11.subR [0, 1, 2, 3, 4, 5]).sub [1, 0] (by decide), hx14⟩ ?_
  rintro k15 x12 w16 ⟨hS17, hl18⟩
  cases k15 with
  | zero => rw [ref02_Has.l0] at hl18; cases hl18
  | succ k15 =>
   rw [ref02_Has.l0] at hl18
   refine WC.seq (WC.seq (WC.region ?_))
   refine seg 4 [.v (iv p1.Width)] [0, 4, 5, 7, 12] [(0, (sv Aa p0 ca)), (4, (pt g6)), (5, (pt g9)), (7, (iv x12)), (12, (bv (decide (x12 < p1.Width))))] [.cell ⟨g6, 0, none⟩ (iv p1.Width)] (fun fb => by kernel_rfl) rfl ⟨hS17.cell 0 rfl 0 rfl, trivial⟩ ?_
   refine WL.done rfl (WX.next ?_)
   rcases br_some hl18 with ⟨h19, hl18⟩ | ⟨h19, hl18⟩
   ·refine WC.condT2 (fun fb => by kernel_rfl) h19 ?_
    refine WC.skip (WX.next (WC.seq (WC.block (WC.seq ?_))))
    refine WC.regionD ([(1, ⟨g9, 2, none⟩, (sv Ae p2.South ce)), (4, ⟨g6, 0, none⟩, (iv p1.Width)), (4, ⟨g6, 1, none⟩, (iv p1.Height)), (4, ⟨g6, 2, none⟩, (sv Ab p1.Cells cb)), (14, ⟨g9, 0, none⟩, (sv Ac p2.North cc)), (17, ⟨g6, 0, none⟩, (iv p1.Width)), (17, ⟨g6, 1, none⟩, (iv p1.Height)), (17, ⟨g6, 2, none⟩, (sv Ab p1.Cells cb)), (20, ⟨g6, 1, none⟩, (iv p1.Height))], [0, 1, 2, 3, 4, 5, 7, 8, 11, 12, 13, 14, 15, 16, 17, 18, 19, 20, 21, 23, 24, 27, 28], [[], [0], [], [], [], [], [4, 5], [3, 4, 5, 6], [3, 4, 5, 6, 7], [3, 4, 5, 6, 7, 8], [0, 1, 2, 3, 4, 5, 6, 7, 8, 9], [0, 1, 2, 3, 4, 5, 6, 7, 8, 9, 10], [0, 1, 2, 3, 4, 5, 6, 7, 8, 9, 10, 11], [0, 1, 2, 3, 4, 5, 6, 7, 8, 9, 10, 11, 12], [0, 1, 2, 3, 4, 5, 6, 7, 8, 9, 10, 11, 12, 13], [0, 1, 2, 3, 4, 5, 6, 7, 8, 9, 10, 11, 12], [0, 1, 2, 3, 4, 5, 6, 7, 8, 9, 10, 11, 12], [0, 1, 2, 3, 4, 5, 6, 7, 8, 9, 10, 11, 12], [0, 1, 2, 3, 4, 5, 6, 7, 8, 9, 10, 11, 12], [0, 1, 2, 3, 4, 5, 6, 7, 8, 9, 10, 11, 12], [0, 1, 2, 3, 4, 5, 6, 7, 8, 9, 10, 11, 12, 19], [0, 1, 2, 3, 4, 5, 6, 7, 8, 9, 10, 11, 12, 19, 20], [0, 1, 2, 3, 4, 5, 6, 7, 8, 9, 10, 11, 12, 17, 18, 19, 20, 21], [0, 1, 2, 3, 4, 5, 6, 7, 8, 9, 10, 11, 12, 16, 17, 18, 19, 20, 21, 22], [0, 1, 2, 3, 4, 5, 6, 7, 8, 9, 10, 11, 12, 16, 17, 18, 19, 20, 21, 22, 23], [0, 1, 2, 3, 4, 5, 6, 7, 8, 9, 10, 11, 12, 16, 17, 18, 19, 20, 21, 22, 23, 24], [0, 1, 2, 3, 4, 5, 6, 7, 8, 9, 10, 11, 12, 13, 14, 15, 16, 17, 18, 19, 20, 21, 22, 23, 24, 25], [0, 1, 2, 3, 4, 5, 6, 7, 8, 9, 10, 11, 12, 13, 14, 15, 16, 17, 18, 19, 20, 21, 22, 23, 24, 25, 26], [0, 1, 2, 3, 4, 5, 6, 7, 8, 9, 10, 11, 12, 13, 14, 15, 16, 17, 18, 19, 20, 21, 22, 23, 24, 25, 26, 27]]) [[0, 1, 2, 3, 4, 5, 6, 7, 8, 9, 10, 11, 12, 13, 14, 15, 16, 17, 18, 19, 20, 21, 22, 23, 24, 25, 26, 27, 28]] (by kernel_rfl) (by kernel_rfl) (NoPanic.seq (NoPanic.block (NoPanic.seq (NoPanic.seq (NoPanic.block (NoPanic.seq (NoPanic.body))))))) ?_
    have hS21 := hS17.drew
    revert hS21
    generalize World.drew w16 = w20
    intro hS21
    refine ⟨⟨hS21.cell 1 rfl 2 rfl, hS21.cell 0 rfl 0 rfl, hS21.cell 0 rfl 1 rfl, hS21.cell 0 rfl 2 rfl, hS21.cell 1 rfl 0 rfl, hS21.cell 0 rfl 0 rfl, hS21.cell 0 rfl 1 rfl, hS21.cell 0 rfl 2 rfl, hS21.cell 0 rfl 1 rfl, trivial⟩, forallC ?_ (forallN)⟩
    refine segF 6 [.v (sv Ae p2.South ce), .v (iv p1.Width), .v (iv p1.Height), .v (sv Ab p1.Cells cb)] [0, 4, 5, 7, 16, 17, 18, 19, 20] [(0, (sv Aa p0 ca)), (4, (pt g6)), (5, (pt g9)), (7, (iv x12)), (16, (sv Ae p2.South ce)), (17, (iv x12)), (18, (sv Aa p0 ca)), (19, (.agg #[(iv p1.Width), (iv p1.Height), (sv Ab p1.Cells cb)])), (20, (iv x12))] [] [0, 1, 2, 3] [(1, ⟨g9, 2, none⟩, (sv Ae p2.South ce)), (4, ⟨g6, 0, none⟩, (iv p1.Width)), (4, ⟨g6, 1, none⟩, (iv p1.Height)), (4, ⟨g6, 2, none⟩, (sv Ab p1.Cells cb))] (fun fb => by kernel_rfl) rfl trivial rfl ?_
    obtain ⟨t22, ht23, hl18⟩ := bind_some hl18
    refine WL.call (some 21) 37 #[(.agg #[(iv p1.Width), (iv p1.Height), (sv Ab p1.Cells cb)]), (iv x12), (iv 0)] (fun fb => by kernel_rfl) (ref01_Cell_calls p1 x12 0 Ab cb t22 _ (hS21.rd 1) ht23) (fun v w24 hR25 => ?_)
    obtain ⟨rfl, hk_⟩ := hR25
    have hS26 := hS21.keepN hk_
    refine ⟨⟨hS26.cell 1 rfl 2 rfl, hS26.cell 1 rfl 0 rfl, hS26.cell 0 rfl 0 rfl, hS26.cell 0 rfl 1 rfl, hS26.cell 0 rfl 2 rfl, hS26.cell 0 rfl 1 rfl, trivial⟩, ?_⟩
    obtain ⟨h27, hl18⟩ := as_some hl18
    refine seg 10 [.v (iv ((rdD p0 t22 z_Tile).S))] [0, 4, 5, 7, 16, 17, 24] [(0, (sv Aa p0 ca)), (4, (pt g6)), (5, (pt g9)), (7, (iv x12)), (16, (sv Ae p2.South ce)), (17, (iv x12)), (24, (iv ((rdD p0 t22 z_Tile).S)))] [.idx Aa t22 p0.length, .cell (((adr Aa).add ((t22).toNat * 4)).add 2) (iv ((rdD p0 t22 z_Tile).S))] (fun fb => by kernel_rfl) rfl ⟨rowR.adr (hS26.rd 0).1 h27.1 h27.2, rowR.cell (hS26.rd 0).1 z_Tile h27.1 h27.2 2 rfl, trivial⟩ ?_
    obtain ⟨t28, ht29, hl18⟩ := bind_some hl18
    refine WL.call (some 25) 66 #[(sv Ae p2.South ce), (iv x12), (iv ((rdD p0 t22 z_Tile).S))] (fun fb => by kernel_rfl) (ref02_has_calls p2.South x12 ((rdD p0 t22 z_Tile).S) Ae ce t28 _ (hS26.rd 4) ht29) (fun v w30 hR31 => ?_)
    obtain ⟨rfl, hk_⟩ := hR31
    have hS32 := hS26.keepN hk_
    refine ⟨⟨hS32.cell 1 rfl 0 rfl, hS32.cell 0 rfl 0 rfl, hS32.cell 0 rfl 1 rfl, hS32.cell 0 rfl 2 rfl, hS32.cell 0 rfl 1 rfl, trivial⟩, ?_⟩
    refine seg 13 [] [0, 4, 5, 7, 27] [(0, (sv Aa p0 ca)), (4, (pt g6)), (5, (pt g9)), (7, (iv x12)), (27, (bv (!t28)))] [] (fun fb => by kernel_rfl) rfl trivial ?_
    obtain ⟨x33, hx34, hl18⟩ := bind_some hl18
    refine WL.cutW (T := Bool) 29 (fun t => [(0, (sv Aa p0 ca)), (4, (pt g6)), (5, (pt g9)), (7, (iv x12)), (43, (bv t))]) (fun t w1 => (St NoS w w1 [rowR enc_Tile Aa ca p0, rowR encInt Ab cb p1.Cells, rowR encInt Ac cc p2.North, rowR encInt Ad cd p2.East, rowR encInt Ae ce p2.South, rowR encInt Af cf p2.West] [blk g6 (.cells #[(iv p1.Width), (iv p1.Height), (sv Ab p1.Cells cb)] 27 (0, 0)), blk g9 (.cells #[(sv Ac p2.North cc), (sv Ad p2.East cd), (sv Ae p2.South ce), (sv Af p2.West cf)] 44 (0, 0))] ∧ x33 = t) ∧ CellsOK [] w1) (fun K => ?_) ?_
    ·
     rcases br_some hx34 with ⟨h35, hx34⟩ | ⟨h35, hx34⟩
     ·
      refine WL.setB 27 h35 rfl ?_
      refine seg 29 [] [0, 4, 5, 7, 43] [(0, (sv Aa p0 ca)), (4, (pt g6)), (5, (pt g9)), (7, (iv x12)), (43, (bv true))] [] (fun fb => by kernel_rfl) rfl trivial ?_
      injection hx34 with hx34
      exact WL.to K true [0, 4, 5, 7, 43] rfl ⟨⟨(hS32.subR [0, 1, 2, 3, 4, 5]).sub [0, 1] (by decide), hx34.symm⟩, trivial⟩
     refine WL.setB 27 h35 rfl ?_
     refine segF 22 [.v (sv Ac p2.North cc), .v (iv p1.Width), .v (iv p1.Height), .v (sv Ab p1.Cells cb), .v (iv p1.Height)] [0, 4, 5, 7, 27, 29, 30, 31, 32, 33, 36] [(0, (sv Aa p0 ca)), (4, (pt g6)), (5, (pt g9)), (7, (iv x12)), (27, (bv false)), (29, (sv Ac p2.North cc)), (30, (iv x12)), (31, (sv Aa p0 ca)), (32, (.agg #[(iv p1.Width), (iv p1.Height), (sv Ab p1.Cells cb)])), (33, (iv x12)), (36, (iv (w64 (p1.Height - 1))))] [] [4, 5, 6, 7, 8] [(14, ⟨g9, 0, none⟩, (sv Ac p2.North cc)), (17, ⟨g6, 0, none⟩, (iv p1.Width)), (17, ⟨g6, 1, none⟩, (iv p1.Height)), (17, ⟨g6, 2, none⟩, (sv Ab p1.Cells cb)), (20, ⟨g6, 1, none⟩, (iv p1.Height))] (fun fb => by kernel_rfl) rfl trivial rfl ?_
     obtain ⟨t37, ht38, hx34⟩ := bind_some hx34
     refine WL.call (some 37) 37 #[(.agg #[(iv p1.Width), (iv p1.Height), (sv Ab p1.Cells cb)]), (iv x12), (iv (w64 (p1.Height - 1)))] (fun fb => by kernel_rfl) (ref01_Cell_calls p1 x12 (w64 (p1.Height - 1)) Ab cb t37 _ (hS32.rd 1) ht38) (fun v w39 hR40 => ?_)
     obtain ⟨rfl, hk_⟩ := hR40
     have hS41 := hS32.keepN hk_
     refine ⟨⟨hS41.cell 1 rfl 0 rfl, trivial⟩, ?_⟩
     obtain ⟨h42, hx34⟩ := as_some hx34
     refine seg 26 [.v (iv ((rdD p0 t37 z_Tile).N))] [0, 4, 5, 7, 27, 29, 30, 40] [(0, (sv Aa p0 ca)), (4, (pt g6)), (5, (pt g9)), (7, (iv x12)), (27, (bv false)), (29, (sv Ac p2.North cc)), (30, (iv x12)), (40, (iv ((rdD p0 t37 z_Tile).N)))] [.idx Aa t37 p0.length, .cell ((adr Aa).add ((t37).toNat * 4)) (iv ((rdD p0 t37 z_Tile).N))] (fun fb => by kernel_rfl) rfl ⟨rowR.adr (hS41.rd 0).1 h42.1 h42.2, rowR.cell (hS41.rd 0).1 z_Tile h42.1 h42.2 0 rfl, trivial⟩ ?_
     obtain ⟨t43, ht44, hx34⟩ := bind_some hx34
     refine WL.call (some 41) 66 #[(sv Ac p2.North cc), (iv x12), (iv ((rdD p0 t37 z_Tile).N))] (fun fb => by kernel_rfl) (ref02_has_calls p2.North x12 ((rdD p0 t37 z_Tile).N) Ac cc t43 _ (hS41.rd 2) ht44) (fun v w45 hR46 => ?_)
     obtain ⟨rfl, hk_⟩ := hR46
     have hS47 := hS41.keepN hk_
     refine ⟨trivial, ?_⟩
     refine seg 29 [] [0, 4, 5, 7, 43] [(0, (sv Aa p0 ca)), (4, (pt g6)), (5, (pt g9)), (7, (iv x12)), (43, (bv (!t43)))] [] (fun fb => by kernel_rfl) rfl trivial ?_
     injection hx34 with hx34
     exact WL.to K (!t43) [0, 4, 5, 7, 43] rfl ⟨⟨(hS47.subR [0, 1, 2, 3, 4, 5]).sub [0, 1] (by decide), hx34.symm⟩, trivial⟩
    rintro y48 w50 ⟨⟨hS51, hq49⟩, hF52⟩
    subst hq49
    refine WL.done rfl (WX.next ?_)
    rcases br_some hl18 with ⟨h53, hl18⟩ | ⟨h53, hl18⟩
    ·refine WC.condT2 (fun fb => by kernel_rfl) h53 ?_
     refine WC.seq (WC.region ?_)
     refine seg 1 [] [6] [(6, (bv false))] [] (fun fb => by kernel_rfl) rfl trivial ?_
     refine WL.done rfl (WX.next ?_)
     refine WC.ret ?_
     injection hl18 with hl18
     subst hl18
     injection hf with hf
     subst hf
     exact WX.blockR (WX.thenR (WX.thenR (WX.blockR (WX.thenR (WX.ret_ [] (bv false) [] (fun fb => by kernel_rfl) trivial ⟨_, rfl, rfl, hS51.keep⟩)))))
    refine WC.condF2 (fun fb => by kernel_rfl) h53 ?_
    refine WC.skip ?_
    refine WX.blockN (WX.next ?_)
    refine WC.region ?_
    refine seg 3 [] [0, 4, 5, 7] [(0, (sv Aa p0 ca)), (4, (pt g6)), (5, (pt g9)), (7, (iv (w64 (x12 + 1))))] [] (fun fb => by kernel_rfl) rfl trivial ?_
    refine WL.done rfl ?_
    exact WX.again k15 (Nat.lt_succ_self _) (w64 (x12 + 1)) [0, 4, 5, 7] rfl ⟨(hS51.subR [0, 1, 2, 3, 4, 5]).sub [0, 1] (by decide), hl18⟩
   refine WC.condF2 (fun fb => by kernel_rfl) h19 ?_
   refine WC.exit ?_
   injection hl18 with hl18
   exact WX.thenX (WX.thenX (WX.blockHere (WX.to Kx13 () [0, 4, 5] rfl ⟨(hS17.subR [0, 1, 2, 3, 4, 5]).sub [0, 1] (by decide), hl18.symm⟩)))
 rintro y57 w54 ⟨hS55, hq56⟩
 subst hq56
 have hf := sum_inr hf
 refine WX.next (WC.seq (WC.seq (WC.region ?_)))
 refine seg 1 [] [0, 4, 5, 8] [(0, (sv Aa p0 ca)), (4, (pt g6)), (5, (pt g9)), (8, (iv 0))] [] (fun fb => by kernel_rfl) rfl trivial ?_
 refine WL.done rfl (WX.next ?_)
 obtain ⟨x59, hx60, hf⟩ := bind_some hf
 refine WC.cutN (T := Unit) (fun t => []) (fun t w1 => St NoS w w1 [rowR enc_Tile Aa ca p0, rowR encInt Ab cb p1.Cells, rowR encInt Ac cc p2.North, rowR encInt Ad cd p2.East, rowR encInt Ae ce p2.South, rowR encInt Af cf p2.West] [] ∧ x59 = .inr t) (fun Kx59 => ?_) ?_
 ·
  refine WC.block ?_
  refine WC.loop (T := Int) (fun t => [(0, (sv Aa p0 ca)), (4, (pt g6)), (5, (pt g9)), (8, (iv t))]) (fun n t w1 => St NoS w w1 [rowR enc_Tile Aa ca p0, rowR encInt Ab cb p1.Cells, rowR encInt Ac cc p2.North, rowR encInt Ad cd p2.East, rowR encInt Ae ce p2.South, rowR encInt Af cf p2.West] [blk g6 (.cells #[(iv p1.Width), (iv p1.Height), (sv Ab p1.Cells cb)] 27 (0, 0)), blk g9 (.cells #[(sv Ac p2.North cc), (sv Ad p2.East cd), (sv Ae p2.South ce), (sv Af p2.West cf)] 44 (0, 0))] ∧ ref02_Has.l1 n t p0 p1 p2 = some x59) k 0 [0, 4, 5, 8] rfl ⟨(hS55.subR [0, 1, 2, 3, 4, 5]).sub [0, 1] (by decide), hx60⟩ ?_
  rintro k61 x58 w62 ⟨hS63, hl65⟩
  cases k61 with
  | zero => rw [ref02_Has.l1] at hl65; cases hl65
  | succ k61 =>
   rw [ref02_Has.l1] at hl65
   refine WC.seq (WC.seq (WC.region ?_))
   refine seg 4 [.v (iv p1.Height)] [0, 4, 5, 8, 47] [(0, (sv Aa p0 ca)), (4, (pt g6)), (5, (pt g9)), (8, (iv x58)), (47, (bv (decide (x58 < p1.Height))))] [.cell ⟨g6, 1, none⟩ (iv p1.Height)] (fun fb => by kernel_rfl) rfl ⟨hS63.cell 0 rfl 1 rfl, trivial⟩ ?_
   refine WL.done rfl (WX.next ?_)
   rcases br_some hl65 with ⟨h66, hl65⟩ | ⟨h66, hl65⟩
   ·refine WC.condT2 (fun fb => by kernel_rfl) h66 ?_
    refine WC.skip (WX.next (WC.seq (WC.block (WC.seq ?_))))
    refine WC.regionD ([(1, ⟨g9, 3, none⟩, (sv Af p2.West cf)), (4, ⟨g6, 0, none⟩, (iv p1.Width)), (4, ⟨g6, 1, none⟩, (iv p1.Height)), (4, ⟨g6, 2, none⟩, (sv Ab p1.Cells cb)), (14, ⟨g9, 1, none⟩, (sv Ad p2.East cd)), (17, ⟨g6, 0, none⟩, (iv p1.Width)), (17, ⟨g6, 1, none⟩, (iv p1.Height)), (17, ⟨g6, 2, none⟩, (sv Ab p1.Cells cb)), (19, ⟨g6, 0, none⟩, (iv p1.Width))], [0, 1, 2, 3, 4, 5, 7, 8, 11, 12, 13, 14, 15, 16, 17, 18, 19, 20, 21, 23, 24, 27, 28], [[], [0], [], [], [], [], [4, 5], [3, 4, 5, 6], [3, 4, 5, 6, 7], [3, 4, 5, 6, 7, 8], [0, 1, 2, 3, 4, 5, 6, 7, 8, 9], [0, 1, 2, 3, 4, 5, 6, 7, 8, 9, 10], [0, 1, 2, 3, 4, 5, 6, 7, 8, 9, 10, 11], [0, 1, 2, 3, 4, 5, 6, 7, 8, 9, 10, 11, 12], [0, 1, 2, 3, 4, 5, 6, 7, 8, 9, 10, 11, 12, 13], [0, 1, 2, 3, 4, 5, 6, 7, 8, 9, 10, 11, 12], [0, 1, 2, 3, 4, 5, 6, 7, 8, 9, 10, 11, 12], [0, 1, 2, 3, 4, 5, 6, 7, 8, 9, 10, 11, 12], [0, 1, 2, 3, 4, 5, 6, 7, 8, 9, 10, 11, 12], [0, 1, 2, 3, 4, 5, 6, 7, 8, 9, 10, 11, 12, 18], [0, 1, 2, 3, 4, 5, 6, 7, 8, 9, 10, 11, 12, 18, 19], [0, 1, 2, 3, 4, 5, 6, 7, 8, 9, 10, 11, 12], [0, 1, 2, 3, 4, 5, 6, 7, 8, 9, 10, 11, 12, 17, 18, 19, 20, 21], [0, 1, 2, 3, 4, 5, 6, 7, 8, 9, 10, 11, 12, 16, 17, 18, 19, 20, 21, 22], [0, 1, 2, 3, 4, 5, 6, 7, 8, 9, 10, 11, 12, 16, 17, 18, 19, 20, 21, 22, 23], [0, 1, 2, 3, 4, 5, 6, 7, 8, 9, 10, 11, 12, 16, 17, 18, 19, 20, 21, 22, 23, 24], [0, 1, 2, 3, 4, 5, 6, 7, 8, 9, 10, 11, 12, 13, 14, 15, 16, 17, 18, 19, 20, 21, 22, 23, 24, 25], [0, 1, 2, 3, 4, 5, 6, 7, 8, 9, 10, 11, 12, 13, 14, 15, 16, 17, 18, 19, 20, 21, 22, 23, 24, 25, 26], [0, 1, 2, 3, 4, 5, 6, 7, 8, 9, 10, 11, 12, 13, 14, 15, 16, 17, 18, 19, 20, 21, 22, 23, 24, 25, 26, 27]]) [[0, 1, 2, 3, 4, 5, 6, 7, 8, 9, 10, 11, 12, 13, 14, 15, 16, 17, 18, 19, 20, 21, 22, 23, 24, 25, 26, 27, 28]] (by kernel_rfl) (by kernel_rfl) (NoPanic.seq (NoPanic.block (NoPanic.seq (NoPanic.seq (NoPanic.block (NoPanic.seq (NoPanic.body))))))) ?_
    have hS68 := hS63.drew
    revert hS68
    generalize World.drew w62 = w67
    intro hS68
    refine ⟨⟨hS68.cell 1 rfl 3 rfl, hS68.cell 0 rfl 0 rfl, hS68.cell 0 rfl 1 rfl, hS68.cell 0 rfl 2 rfl, hS68.cell 1 rfl 1 rfl, hS68.cell 0 rfl 0 rfl, hS68.cell 0 rfl 1 rfl, hS68.cell 0 rfl 2 rfl, hS68.cell 0 rfl 0 rfl, trivial⟩, forallC ?_ (forallN)⟩
    refine segF 6 [.v (sv Af p2.West cf), .v (iv p1.Width), .v (iv p1.Height), .v (sv Ab p1.Cells cb)] [0, 4, 5, 8, 51, 52, 53, 54, 55] [(0, (sv Aa p0 ca)), (4, (pt g6)), (5, (pt g9)), (8, (iv x58)), (51, (sv Af p2.West cf)), (52, (iv x58)), (53, (sv Aa p0 ca)), (54, (.agg #[(iv p1.Width), (iv p1.Height), (sv Ab p1.Cells cb)])), (55, (iv x58))] [] [0, 1, 2, 3] [(1, ⟨g9, 3, none⟩, (sv Af p2.West cf)), (4, ⟨g6, 0, none⟩, (iv p1.Width)), (4, ⟨g6, 1, none⟩, (iv p1.Height)), (4, ⟨g6, 2, none⟩, (sv Ab p1.Cells cb))] (fun fb => by kernel_rfl) rfl trivial rfl ?_
    obtain ⟨t69, ht70, hl65⟩ := bind_some hl65
    refine WL.call (some 56) 37 #[(.agg #[(iv p1.Width), (iv p1.Height), (sv Ab p1.Cells cb)]), (iv 0), (iv x58)] (fun fb => by kernel_rfl) (ref01_Cell_calls p1 0 x58 Ab cb t69 _ (hS68.rd 1) ht70) (fun v w71 hR72 => ?_)
    obtain ⟨rfl, hk_⟩ := hR72
    have hS73 := hS68.keepN hk_
    refine ⟨⟨hS73.cell 1 rfl 3 rfl, hS73.cell 1 rfl 1 rfl, hS73.cell 0 rfl 0 rfl, hS73.cell 0 rfl 1 rfl, hS73.cell 0 rfl 2 rfl, hS73.cell 0 rfl 0 rfl, trivial⟩, ?_⟩
    obtain ⟨h74, hl65⟩ := as_some hl65
    refine seg 10 [.v (iv ((rdD p0 t69 z_Tile).W))] [0, 4, 5, 8, 51, 52, 59] [(0, (sv Aa p0 ca)), (4, (pt g6)), (5, (pt g9)), (8, (iv x58)), (51, (sv Af p2.West cf)), (52, (iv x58)), (59, (iv ((rdD p0 t69 z_Tile).W)))] [.idx Aa t69 p0.length, .cell (((adr Aa).add ((t69).toNat * 4)).add 3) (iv ((rdD p0 t69 z_Tile).W))] (fun fb => by kernel_rfl) rfl ⟨rowR.adr (hS73.rd 0).1 h74.1 h74.2, rowR.cell (hS73.rd 0).1 z_Tile h74.1 h74.2 3 rfl, trivial⟩ ?_
    obtain ⟨t75, ht76, hl65⟩ := bind_some hl65
    refine WL.call (some 60) 66 #[(sv Af p2.West cf), (iv x58), (iv ((rdD p0 t69 z_Tile).W))] (fun fb => by kernel_rfl) (ref02_has_calls p2.West x58 ((rdD p0 t69 z_Tile).W) Af cf t75 _ (hS73.rd 5) ht76) (fun v w77 hR78 => ?_)
    obtain ⟨rfl, hk_⟩ := hR78
    have hS79 := hS73.keepN hk_
    refine ⟨⟨hS79.cell 1 rfl 1 rfl, hS79.cell 0 rfl 0 rfl, hS79.cell 0 rfl 1 rfl, hS79.cell 0 rfl 2 rfl, hS79.cell 0 rfl 0 rfl, trivial⟩, ?_⟩
    refine seg 13 [] [0, 4, 5, 8, 62] [(0, (sv Aa p0 ca)), (4, (pt g6)), (5, (pt g9)), (8, (iv x58)), (62, (bv (!t75)))] [] (fun fb => by kernel_rfl) rfl trivial ?_
    obtain ⟨x80, hx81, hl65⟩ := bind_some hl65
    refine WL.cutW (T := Bool) 29 (fun t => [(0, (sv Aa p0 ca)), (4, (pt g6)), (5, (pt g9)), (8, (iv x58)), (78, (bv t))]) (fun t w1 => (St NoS w w1 [rowR enc_Tile Aa ca p0, rowR encInt Ab cb p1.Cells, rowR encInt Ac cc p2.North, rowR encInt Ad cd p2.East, rowR encInt Ae ce p2.South, rowR encInt Af cf p2.West] [blk g6 (.cells #[(iv p1.Width), (iv p1.Height), (sv Ab p1.Cells cb)] 27 (0, 0)), blk g9 (.cells #[(sv Ac p2.North cc), (sv Ad p2.East cd), (sv Ae p2.South ce), (sv Af p2.West cf)] 44 (0, 0))] ∧ x80 = t) ∧ CellsOK [] w1) (fun K => ?_) ?_
    ·
     rcases br_some hx81 with ⟨h82, hx81⟩ | ⟨h82, hx81⟩
     ·
      refine WL.setB 62 h82 rfl ?_
      refine seg 29 [] [0, 4, 5, 8, 78] [(0, (sv Aa p0 ca)), (4, (pt g6)), (5, (pt g9)), (8, (iv x58)), (78, (bv true))] [] (fun fb => by kernel_rfl) rfl trivial ?_
      injection hx81 with hx81
      exact WL.to K true [0, 4, 5, 8, 78] rfl ⟨⟨(hS79.subR [0, 1, 2, 3, 4, 5]).sub [0, 1] (by decide), hx81.symm⟩, trivial⟩
     refine WL.setB 62 h82 rfl ?_
     refine segF 22 [.v (sv Ad p2.East cd), .v (iv p1.Width), .v (iv p1.Height), .v (sv Ab p1.Cells cb), .v (iv p1.Width)] [0, 4, 5, 8, 62, 64, 65, 66, 67, 70, 71] [(0, (sv Aa p0 ca)), (4, (pt g6)), (5, (pt g9)), (8, (iv x58)), (62, (bv false)), (64, (sv Ad p2.East cd)), (65, (iv x58)), (66, (sv Aa p0 ca)), (67, (.agg #[(iv p1.Width), (iv p1.Height), (sv Ab p1.Cells cb)])), (70, (iv (w64 (p1.Width - 1)))), (71, (iv x58))] [] [4, 5, 6, 7, 8] [(14, ⟨g9, 1, none⟩, (sv Ad p2.East cd)), (17, ⟨g6, 0, none⟩, (iv p1.Width)), (17, ⟨g6, 1, none⟩, (iv p1.Height)), (17, ⟨g6, 2, none⟩, (sv Ab p1.Cells cb)), (19, ⟨g6, 0, none⟩, (iv p1.Width))] (fun fb => by kernel_rfl) rfl trivial rfl ?_
     obtain ⟨t83, ht84, hx81⟩ := bind_some hx81
     refine WL.call (some 72) 37 #[(.agg #[(iv p1.Width), (iv p1.Height), (sv Ab p1.Cells cb)]), (iv (w64 (p1.Width - 1))), (iv x58)] (fun fb => by kernel_rfl) (ref01_Cell_calls p1 (w64 (p1.Width - 1)) x58 Ab cb t83 _ (hS79.rd 1) ht84) (fun v w85 hR86 => ?_)
     obtain ⟨rfl, hk_⟩ := hR86
     have hS87 := hS79.keepN hk_
     refine ⟨⟨hS87.cell 1 rfl 1 rfl, trivial⟩, ?_⟩
     obtain ⟨h88, hx81⟩ := as_some hx81
     refine seg 26 [.v (iv ((rdD p0 t83 z_Tile).E))] [0, 4, 5, 8, 62, 64, 65, 75] [(0, (sv Aa p0 ca)), (4, (pt g6)), (5, (pt g9)), (8, (iv x58)), (62, (bv false)), (64, (sv Ad p2.East cd)), (65, (iv x58)), (75, (iv ((rdD p0 t83 z_Tile).E)))] [.idx Aa t83 p0.length, .cell (((adr Aa).add ((t83).toNat * 4)).add 1) (iv ((rdD p0 t83 z_Tile).E))] (fun fb => by kernel_rfl) rfl ⟨rowR.adr (hS87.rd 0).1 h88.1 h88.2, rowR.cell (hS87.rd 0).1 z_Tile h88.1 h88.2 1 rfl, trivial⟩ ?_
     obtain ⟨t89, ht90, hx81⟩ := bind_some hx81
     refine WL.call (some 76) 66 #[(sv Ad p2.East cd), (iv x58), (iv ((rdD p0 t83 z_Tile).E))] (fun fb => by kernel_rfl) (ref02_has_calls p2.East x58 ((rdD p0 t83 z_Tile).E) Ad cd t89 _ (hS87.rd 3) ht90) (fun v w91 hR92 => ?_)
     obtain ⟨rfl, hk_⟩ := hR92
     have hS93 := hS87.keepN hk_
     refine ⟨trivial, ?_⟩
     refine seg 29 [] [0, 4, 5, 8, 78] [(0, (sv Aa p0 ca)), (4, (pt g6)), (5, (pt g9)), (8, (iv x58)), (78, (bv (!t89)))] [] (fun fb => by kernel_rfl) rfl trivial ?_
     injection hx81 with hx81
     exact WL.to K (!t89) [0, 4, 5, 8, 78] rfl ⟨⟨(hS93.subR [0, 1, 2, 3, 4, 5]).sub [0, 1] (by decide), hx81.symm⟩, trivial⟩
    rintro y94 w96 ⟨⟨hS97, hq95⟩, hF98⟩
    subst hq95
    refine WL.done rfl (WX.next ?_)
    rcases br_some hl65 with ⟨h99, hl65⟩ | ⟨h99, hl65⟩
    ·refine WC.condT2 (fun fb => by kernel_rfl) h99 ?_
     refine WC.seq (WC.region ?_)
     refine seg 1 [] [6] [(6, (bv false))] [] (fun fb => by kernel_rfl) rfl trivial ?_
     refine WL.done rfl (WX.next ?_)
     refine WC.ret ?_
     injection hl65 with hl65
     subst hl65
     injection hf with hf
     subst hf
     exact WX.blockR (WX.thenR (WX.thenR (WX.blockR (WX.thenR (WX.ret_ [] (bv false) [] (fun fb => by kernel_rfl) trivial ⟨_, rfl, rfl, hS97.keep⟩)))))
    refine WC.condF2 (fun fb => by kernel_rfl) h99 ?_
    refine WC.skip ?_
    refine WX.blockN (WX.next ?_)
    refine WC.region ?_
    refine seg 3 [] [0, 4, 5, 8] [(0, (sv Aa p0 ca)), (4, (pt g6)), (5, (pt g9)), (8, (iv (w64 (x58 + 1))))] [] (fun fb => by kernel_rfl) rfl trivial ?_
    refine WL.done rfl ?_
    exact WX.again k61 (Nat.lt_succ_self _) (w64 (x58 + 1)) [0, 4, 5, 8] rfl ⟨(hS97.subR [0, 1, 2, 3, 4, 5]).sub [0, 1] (by decide), hl65⟩
   refine WC.condF2 (fun fb => by kernel_rfl) h66 ?_
   refine WC.exit ?_
   injection hl65 with hl65
   exact WX.thenX (WX.thenX (WX.blockHere (WX.to Kx59 () [] rfl ⟨(hS63.subR [0, 1, 2, 3, 4, 5]).sub [] (by decide), hl65.symm⟩)))
 rintro y103 w100 ⟨hS101, hq102⟩
 subst hq102
 have hf := sum_inr hf
 refine WX.next (WC.seq (WC.region ?_))
 refine seg 1 [] [6] [(6, (bv true))] [] (fun fb => by kernel_rfl) rfl trivial ?_
 refine WL.done rfl (WX.next ?_)
 refine WC.ret ?_
 injection hf with hf
 subst hf
 exact WX.ret_ [] (bv true) [] (fun fb => by kernel_rfl) trivial ⟨_, rfl, rfl, hS101.keep⟩
theorem law02_FillThere_calls (k : Nat) (p0 : List Tile) (p1 : Int) (p2 : Int) (p3 : Edges) (Aa : Option Addr) (ca : Nat) (Ab : Option Addr) (cb : Nat) (Ac : Option Addr) (cc : Nat) (Ad : Option Addr) (cd : Nat) (Ae : Option Addr) (ce : Nat) (mG : Int) (r : Bool) (w : World) (hR0 : RO NoS w (rowR enc_Tile Aa ca p0)) (hR1 : RO NoS w (rowR encInt Ab cb p3.North)) (hR2 : RO NoS w (rowR encInt Ac cc p3.East)) (hR3 : RO NoS w (rowR encInt Ad cd p3.South)) (hR4 : RO NoS w (rowR encInt Ae ce p3.West)) (hR5 : RO NoS w (cel ⟨2, 0, none⟩ (iv mG))) (hf : law02_FillThere k p0 p1 p2 p3 = some r) :
  CallsR Tryd.prog 8 #[(sv Aa p0 ca), (iv p1), (iv p2), (.agg #[(sv Ab p3.North cb), (sv Ac p3.East cc), (sv Ad p3.South cd), (sv Ae p3.West ce)])] w (fun v w' => v = (bv r) ∧ Keeps NoS w w') := by
 have hS : St NoS w w [rowR enc_Tile Aa ca p0, rowR encInt Ab cb p3.North, rowR encInt Ac cc p3.East, rowR encInt Ad cd p3.South, rowR encInt Ae ce p3.West, cel ⟨2, 0, none⟩ (iv mG)] [] := St.init (ro_cons hR0 (ro_cons hR1 (ro_cons hR2 (ro_cons hR3 (ro_cons hR4 (ro_cons hR5 (ro_nil _ _)))))))
 refine enter 174 Tryd.func8 rfl Tryd.ntmps8 rfl ?_
 unfold law02_FillThere at hf
 refine WC.seq (WC.region ?_)
 refine WL.new hS 7 [] (fun g => (pt g)) (.cells #[(sv Ab p3.North cb), (sv Ac p3.East cc), (sv Ad p3.South cd), (sv Ae p3.West ce)] 44 (0, 0)) [] (fun fb g => by kernel_rfl) trivial (fun g1 w2 hS3 => ?_)
 refine ⟨trivial, ?_⟩
 refine seg 2 [] [0, 1, 2, 7] [(0, (sv Aa p0 ca)), (1, (iv p1)), (2, (iv p2)), (7, (pt g1))] [] (fun fb => by kernel_rfl) rfl trivial ?_
 refine WL.done rfl (WX.next (WC.seq (WC.seq (WC.region ?_))))
 refine seg 4 [.v (sv Ab p3.North cb), .v (sv Ac p3.East cc), .v (sv Ad p3.South cd), .v (sv Ae p3.West ce)] [0, 1, 2, 7, 17, 18, 19, 20] [(0, (sv Aa p0 ca)), (1, (iv p1)), (2, (iv p2)), (7, (pt g1)), (17, (sv Aa p0 ca)), (18, (iv p1)), (19, (iv p2)), (20, (.agg #[(sv Ab p3.North cb), (sv Ac p3.East cc), (sv Ad p3.South cd), (sv Ae p3.West ce)]))] [.cell ⟨g1, 0, none⟩ (sv Ab p3.North cb), .cell ⟨g1, 1, none⟩ (sv Ac p3.East cc), .cell ⟨g1, 2, none⟩ (sv Ad p3.South cd), .cell ⟨g1, 3, none⟩ (sv Ae p3.West ce)] (fun fb => by kernel_rfl) rfl ⟨hS3.cell 0 rfl 0 rfl, hS3.cell 0 rfl 1 rfl, hS3.cell 0 rfl 2 rfl, hS3.cell 0 rfl 3 rfl, trivial⟩ ?_
 obtain ⟨t6, ht7, hf⟩ := bind_some hf
 refine WL.call (some 21) 34 #[(sv Aa p0 ca), (iv p1), (iv p2), (.agg #[(sv Ab p3.North cb), (sv Ac p3.East cc), (sv Ad p3.South cd), (sv Ae p3.West ce)])] (fun fb => by kernel_rfl) (law02_small_calls _ p0 p1 p2 p3 Aa ca Ab cb Ac cc Ad cd Ae ce t6 _ (hS3.rd 0) (hS3.rd 1) (hS3.rd 2) (hS3.rd 3) (hS3.rd 4) ht7) (fun v w9 hR10 => ?_)
 obtain ⟨rfl, hk_⟩ := hR10
 have hS11 := hS3.keepN hk_
 refine ⟨trivial, ?_⟩
 refine seg 6 [] [0, 1, 2, 7, 22] [(0, (sv Aa p0 ca)), (1, (iv p1)), (2, (iv p2)), (7, (pt g1)), (22, (bv (!t6)))] [] (fun fb => by kernel_rfl) rfl trivial ?_
 refine WL.done rfl (WX.next ?_)
 rcases br_some hf with ⟨h12, hf⟩ | ⟨h12, hf⟩
 ·refine WC.condT2 (fun fb => by kernel_rfl) h12 ?_
  refine WC.seq (WC.region ?_)
  obtain ⟨t13, ht14, hf⟩ := bind_some hf
  refine WL.call (some 23) 26 #[] (fun fb => by kernel_rfl) (law02_awake_calls _ mG t13 _ (hS11.rd 5) ht14) (fun v w15 hR16 => ?_)
  obtain ⟨rfl, hk_⟩ := hR16
  have hS17 := hS11.keepN hk_
  refine ⟨trivial, ?_⟩
  refine seg 2 [] [8] [(8, (bv t13))] [] (fun fb => by kernel_rfl) rfl trivial ?_
  refine WL.done rfl (WX.next ?_)
  refine WC.ret ?_
  injection hf with hf
  subst hf
  exact WX.thenR (WX.ret_ [] (bv t13) [] (fun fb => by kernel_rfl) trivial ⟨_, rfl, rfl, hS17.keep⟩)
 refine WC.condF2 (fun fb => by kernel_rfl) h12 ?_
 refine WC.skip (WX.next (WC.seq (WC.region ?_)))
 refine seg 4 [.v (sv Ab p3.North cb), .v (sv Ac p3.East cc), .v (sv Ad p3.South cd), .v (sv Ae p3.West ce)] [0, 1, 2, 7, 25, 26, 27, 28] [(0, (sv Aa p0 ca)), (1, (iv p1)), (2, (iv p2)), (7, (pt g1)), (25, (sv Aa p0 ca)), (26, (iv p1)), (27, (iv p2)), (28, (.agg #[(sv Ab p3.North cb), (sv Ac p3.East cc), (sv Ad p3.South cd), (sv Ae p3.West ce)]))] [.cell ⟨g1, 0, none⟩ (sv Ab p3.North cb), .cell ⟨g1, 1, none⟩ (sv Ac p3.East cc), .cell ⟨g1, 2, none⟩ (sv Ad p3.South cd), .cell ⟨g1, 3, none⟩ (sv Ae p3.West ce)] (fun fb => by kernel_rfl) rfl ⟨hS11.cell 0 rfl 0 rfl, hS11.cell 0 rfl 1 rfl, hS11.cell 0 rfl 2 rfl, hS11.cell 0 rfl 3 rfl, trivial⟩ ?_
 obtain ⟨t18, ht19, hf⟩ := bind_some hf
 refine WL.call (some 29) 28 #[(sv Aa p0 ca), (iv p1), (iv p2), (.agg #[(sv Ab p3.North cb), (sv Ac p3.East cc), (sv Ad p3.South cd), (sv Ae p3.West ce)])] (fun fb => by kernel_rfl) (fill_Count_calls _ p0 p1 p2 p3 Aa ca Ab cb Ac cc Ad cd Ae ce t18 _ (hS11.rd 0) (hS11.rd 1) (hS11.rd 2) (hS11.rd 3) (hS11.rd 4) ht19) (fun v w20 hR21 => ?_)
 obtain ⟨rfl, hk_⟩ := hR21
 have hS22 := hS11.keepN hk_
 refine ⟨trivial, ?_⟩
 refine seg 10 [] [0, 1, 2, 7, 9, 10] [(0, (sv Aa p0 ca)), (1, (iv p1)), (2, (iv p2)), (7, (pt g1)), (9, (iv t18.1)), (10, (iv t18.2))] [] (fun fb => by kernel_rfl) rfl trivial ?_
 refine WL.done rfl (WX.next (WC.seq (WC.region ?_)))
 refine seg 4 [.v (sv Ab p3.North cb), .v (sv Ac p3.East cc), .v (sv Ad p3.South cd), .v (sv Ae p3.West ce)] [0, 1, 2, 7, 9, 10, 33, 34, 35, 36] [(0, (sv Aa p0 ca)), (1, (iv p1)), (2, (iv p2)), (7, (pt g1)), (9, (iv t18.1)), (10, (iv t18.2)), (33, (sv Aa p0 ca)), (34, (iv p1)), (35, (iv p2)), (36, (.agg #[(sv Ab p3.North cb), (sv Ac p3.East cc), (sv Ad p3.South cd), (sv Ae p3.West ce)]))] [.cell ⟨g1, 0, none⟩ (sv Ab p3.North cb), .cell ⟨g1, 1, none⟩ (sv Ac p3.East cc), .cell ⟨g1, 2, none⟩ (sv Ad p3.South cd), .cell ⟨g1, 3, none⟩ (sv Ae p3.West ce)] (fun fb => by kernel_rfl) rfl ⟨hS22.cell 0 rfl 0 rfl, hS22.cell 0 rfl 1 rfl, hS22.cell 0 rfl 2 rfl, hS22.cell 0 rfl 3 rfl, trivial⟩ ?_
 obtain ⟨t23, ht24, hf⟩ := bind_some hf
 refine WL.call (some 37) 31 #[(sv Aa p0 ca), (iv p1), (iv p2), (.agg #[(sv Ab p3.North cb), (sv Ac p3.East cc), (sv Ad p3.South cd), (sv Ae p3.West ce)])] (fun fb => by kernel_rfl) (fill_First_calls _ p0 p1 p2 p3 Aa ca Ab cb Ac cc Ad cd Ae ce t23 _ (hS22.rd 0) (hS22.rd 1) (hS22.rd 2) (hS22.rd 3) (hS22.rd 4) ht24) (fun v w25 hR26 => ?_)
 obtain ⟨A28, c29, rfl, hk_⟩ := hR26
 have hS27 := hS.go w25 [rowO 3 encInt A28 c29 t23.1.Cells, blk g1 (.cells #[(.slice Ab p3.North.length cb), (.slice Ac p3.East.length cc), (.slice Ad p3.South.length cd), (.slice Ae p3.West.length ce)] 44 (0, 0))] (hS22.call hk_ [] [0] (fun g hg => hg.elim) (by simp) (by decide))
 refine ⟨trivial, ?_⟩
 refine seg 8 [] [0, 1, 2, 7, 9, 10, 38, 39] [(0, (sv Aa p0 ca)), (1, (iv p1)), (2, (iv p2)), (7, (pt g1)), (9, (iv t18.1)), (10, (iv t18.2)), (38, (.agg #[(iv t23.1.Width), (iv t23.1.Height), (sv A28 t23.1.Cells c29)])), (39, (iv t23.2))] [] (fun fb => by kernel_rfl) rfl trivial ?_
 refine WL.new hS27 11 [] (fun g => (pt g)) (.cells #[(iv 0), (iv 0), (.slice none 0 0)] 27 (0, 0)) [] (fun fb g => by kernel_rfl) trivial (fun g30 w31 hS32 => ?_)
 refine ⟨trivial, ?_⟩
 refine WL.store hS32 0 rfl [(0, (iv t23.1.Width)), (1, (iv t23.1.Height)), (2, (sv A28 t23.1.Cells c29))] #[(iv t23.1.Width), (iv t23.1.Height), (sv A28 t23.1.Cells c29)] (fun fb => by kernel_rfl) (by kernel_rfl) rfl [1, 2] (by decide) (by decide) (fun w33 hS34 => ?_)
 refine ⟨trivial, ?_⟩
 refine seg 11 [] [0, 1, 2, 7, 9, 10, 11, 12] [(0, (sv Aa p0 ca)), (1, (iv p1)), (2, (iv p2)), (7, (pt g1)), (9, (iv t18.1)), (10, (iv t18.2)), (11, (pt g30)), (12, (iv t23.2))] [] (fun fb => by kernel_rfl) rfl trivial ?_
 refine WL.done rfl (WX.next (WC.seq (WC.seq (WC.region ?_))))
 refine seg 3 [] [0, 1, 2, 7, 9, 10, 11, 12, 42] [(0, (sv Aa p0 ca)), (1, (iv p1)), (2, (iv p2)), (7, (pt g1)), (9, (iv t18.1)), (10, (iv t18.2)), (11, (pt g30)), (12, (iv t23.2)), (42, (bv (t18.2 != 0)))] [] (fun fb => by kernel_rfl) rfl trivial ?_
 refine WL.cutV (T := Bool) 6 (fun t => [(45, (bv t)), (0, (sv Aa p0 ca)), (1, (iv p1)), (2, (iv p2)), (7, (pt g1)), (9, (iv t18.1)), (10, (iv t18.2)), (11, (pt g30)), (12, (iv t23.2))]) (fun t => ((t18.2 != 0) && (t18.2 != 4)) = t) (fun K => ?_) ?_
 ·
  rcases Bool.eq_false_or_eq_true (t18.2 != 0) with h35 | h35
  ·
   refine WL.setB 42 h35 rfl ?_
   refine seg 6 [] [0, 1, 2, 7, 9, 10, 11, 12, 45] [(0, (sv Aa p0 ca)), (1, (iv p1)), (2, (iv p2)), (7, (pt g1)), (9, (iv t18.1)), (10, (iv t18.2)), (11, (pt g30)), (12, (iv t23.2)), (45, (bv (t18.2 != 4)))] [] (fun fb => by kernel_rfl) rfl trivial ?_
   exact WL.toV K (t18.2 != 4) [45, 0, 1, 2, 7, 9, 10, 11, 12] rfl (by first | (rw [h35]; done) | (rw [h35]; rfl))
  refine WL.setB 42 h35 rfl ?_
  refine seg 6 [] [0, 1, 2, 7, 9, 10, 11, 12, 45] [(0, (sv Aa p0 ca)), (1, (iv p1)), (2, (iv p2)), (7, (pt g1)), (9, (iv t18.1)), (10, (iv t18.2)), (11, (pt g30)), (12, (iv t23.2)), (45, (bv false))] [] (fun fb => by kernel_rfl) rfl trivial ?_
  exact WL.toV K false [45, 0, 1, 2, 7, 9, 10, 11, 12] rfl (by first | (rw [h35]; done) | (rw [h35]; rfl))
 rintro b36 rfl
 refine seg 7 [] [0, 1, 2, 7, 9, 10, 11, 12, 46] [(0, (sv Aa p0 ca)), (1, (iv p1)), (2, (iv p2)), (7, (pt g1)), (9, (iv t18.1)), (10, (iv t18.2)), (11, (pt g30)), (12, (iv t23.2)), (46, (bv ((t18.2 != 0) && (t18.2 != 4))))] [] (fun fb => by kernel_rfl) rfl trivial ?_
 refine WL.cutV (T := Bool) 17 (fun t => [(56, (bv t)), (0, (sv Aa p0 ca)), (1, (iv p1)), (2, (iv p2)), (7, (pt g1)), (11, (pt g30)), (12, (iv t23.2))]) (fun t => (((t18.2 != 0) && (t18.2 != 4)) || ((t23.2 == 6) != ((t18.2 == 0) && (t18.1 == 0)))) = t) (fun K => ?_) ?_
 ·
  rcases Bool.eq_false_or_eq_true ((t18.2 != 0) && (t18.2 != 4)) with h37 | h37
  ·
   refine WL.setB 46 h37 rfl ?_
   refine seg 17 [] [0, 1, 2, 7, 11, 12, 56] [(0, (sv Aa p0 ca)), (1, (iv p1)), (2, (iv p2)), (7, (pt g1)), (11, (pt g30)), (12, (iv t23.2)), (56, (bv true))] [] (fun fb => by kernel_rfl) rfl trivial ?_
   exact WL.toV K true [56, 0, 1, 2, 7, 11, 12] rfl (by first | (rw [h37]; done) | (rw [h37]; rfl))
  refine WL.setB 46 h37 rfl ?_
  refine seg 12 [] [0, 1, 2, 7, 9, 11, 12, 46, 48, 51] [(0, (sv Aa p0 ca)), (1, (iv p1)), (2, (iv p2)), (7, (pt g1)), (9, (iv t18.1)), (11, (pt g30)), (12, (iv t23.2)), (46, (bv false)), (48, (bv (t23.2 == 6))), (51, (bv (t18.2 == 0)))] [] (fun fb => by kernel_rfl) rfl trivial ?_
  refine WL.cutV (T := Bool) 15 (fun t => [(54, (bv t)), (0, (sv Aa p0 ca)), (1, (iv p1)), (2, (iv p2)), (7, (pt g1)), (11, (pt g30)), (12, (iv t23.2)), (46, (bv false)), (48, (bv (t23.2 == 6)))]) (fun t => ((t18.2 == 0) && (t18.1 == 0)) = t) (fun K => ?_) ?_
  ·
   rcases Bool.eq_false_or_eq_true (t18.2 == 0) with h38 | h38
   ·
    refine WL.setB 51 h38 rfl ?_
    refine seg 15 [] [0, 1, 2, 7, 11, 12, 46, 48, 54] [(0, (sv Aa p0 ca)), (1, (iv p1)), (2, (iv p2)), (7, (pt g1)), (11, (pt g30)), (12, (iv t23.2)), (46, (bv false)), (48, (bv (t23.2 == 6))), (54, (bv (t18.1 == 0)))] [] (fun fb => by kernel_rfl) rfl trivial ?_
    exact WL.toV K (t18.1 == 0) [54, 0, 1, 2, 7, 11, 12, 46, 48] rfl (by first | (rw [h38]; done) | (rw [h38]; rfl))
   refine WL.setB 51 h38 rfl ?_
   refine seg 15 [] [0, 1, 2, 7, 11, 12, 46, 48, 54] [(0, (sv Aa p0 ca)), (1, (iv p1)), (2, (iv p2)), (7, (pt g1)), (11, (pt g30)), (12, (iv t23.2)), (46, (bv false)), (48, (bv (t23.2 == 6))), (54, (bv false))] [] (fun fb => by kernel_rfl) rfl trivial ?_
   exact WL.toV K false [54, 0, 1, 2, 7, 11, 12, 46, 48] rfl (by first | (rw [h38]; done) | (rw [h38]; rfl))
  rintro b39 rfl
  refine seg 17 [] [0, 1, 2, 7, 11, 12, 56] [(0, (sv Aa p0 ca)), (1, (iv p1)), (2, (iv p2)), (7, (pt g1)), (11, (pt g30)), (12, (iv t23.2)), (56, (bv ((t23.2 == 6) != ((t18.2 == 0) && (t18.1 == 0)))))] [] (fun fb => by kernel_rfl) rfl trivial ?_
  exact WL.toV K ((t23.2 == 6) != ((t18.2 == 0) && (t18.1 == 0))) [56, 0, 1, 2, 7, 11, 12] rfl (by first | (rw [h37]; done) | (rw [h37]; rfl))
 rintro b40 rfl
 refine WL.done rfl (WX.next ?_)
 rcases br_some hf with ⟨h41, hf⟩ | ⟨h41, hf⟩
 ·refine WC.condT2 (fun fb => by kernel_rfl) h41 ?_
  refine WC.seq (WC.region ?_)
  refine seg 1 [] [8] [(8, (bv false))] [] (fun fb => by kernel_rfl) rfl trivial ?_
  refine WL.done rfl (WX.next ?_)
  refine WC.ret ?_
  injection hf with hf
  subst hf
  exact WX.thenR (WX.ret_ [] (bv false) [] (fun fb => by kernel_rfl) trivial ⟨_, rfl, rfl, hS34.keep⟩)
 refine WC.condF2 (fun fb => by kernel_rfl) h41 ?_
 refine WC.skip (WX.next (WC.seq (WC.seq (WC.region ?_))))
 refine seg 2 [] [0, 1, 2, 7, 11, 12, 58] [(0, (sv Aa p0 ca)), (1, (iv p1)), (2, (iv p2)), (7, (pt g1)), (11, (pt g30)), (12, (iv t23.2)), (58, (bv (t23.2 != 0)))] [] (fun fb => by kernel_rfl) rfl trivial ?_
 refine WL.done rfl (WX.next ?_)
 rcases br_some hf with ⟨h42, hf⟩ | ⟨h42, hf⟩
 ·refine WC.condT2 (fun fb => by kernel_rfl) h42 ?_
  refine WC.seq (WC.region ?_)
  refine seg 3 [] [61] [(61, (bv (t23.2 == 6)))] [] (fun fb => by kernel_rfl) rfl trivial ?_
  obtain ⟨x43, hx44, hf⟩ := bind_some hf
  refine WL.cutW (T := Bool) 5 (fun t => [(63, (bv t))]) (fun t w1 => (St NoS w w1 [rowR enc_Tile Aa ca p0, rowR encInt Ab cb p3.North, rowR encInt Ac cc p3.East, rowR encInt Ad cd p3.South, rowR encInt Ae ce p3.West, cel ⟨2, 0, none⟩ (iv mG)] [] ∧ x43 = t) ∧ CellsOK [] w1) (fun K => ?_) ?_
  ·
   rcases br_some hx44 with ⟨h45, hx44⟩ | ⟨h45, hx44⟩
   ·
    refine WL.setB 61 h45 rfl ?_
    obtain ⟨t46, ht47, hx44⟩ := bind_some hx44
    refine WL.call (some 62) 26 #[] (fun fb => by kernel_rfl) (law02_awake_calls _ mG t46 _ (hS34.rd 5) ht47) (fun v w48 hR49 => ?_)
    obtain ⟨rfl, hk_⟩ := hR49
    have hS50 := hS34.keepN hk_
    refine ⟨trivial, ?_⟩
    refine seg 5 [] [63] [(63, (bv t46))] [] (fun fb => by kernel_rfl) rfl trivial ?_
    injection hx44 with hx44
    exact WL.to K t46 [63] rfl ⟨⟨(hS50.subR [0, 1, 2, 3, 4, 5]).sub [] (by decide), hx44.symm⟩, trivial⟩
   refine WL.setB 61 h45 rfl ?_
   refine seg 5 [] [63] [(63, (bv false))] [] (fun fb => by kernel_rfl) rfl trivial ?_
   injection hx44 with hx44
   exact WL.to K false [63] rfl ⟨⟨(hS34.subR [0, 1, 2, 3, 4, 5]).sub [] (by decide), hx44.symm⟩, trivial⟩
  rintro y51 w53 ⟨⟨hS54, hq52⟩, hF55⟩
  subst hq52
  refine seg 6 [] [8] [(8, (bv x43))] [] (fun fb => by kernel_rfl) rfl trivial ?_
  refine WL.done rfl (WX.next ?_)
  refine WC.ret ?_
  injection hf with hf
  subst hf
  exact WX.thenR (WX.ret_ [] (bv x43) [] (fun fb => by kernel_rfl) trivial ⟨_, rfl, rfl, hS54.keep⟩)
 refine WC.condF2 (fun fb => by kernel_rfl) h42 ?_
 refine WC.skip (WX.next (WC.seq (WC.seq (WC.region ?_))))
 refine seg 5 [.v (iv t23.1.Width)] [0, 1, 2, 7, 11, 68] [(0, (sv Aa p0 ca)), (1, (iv p1)), (2, (iv p2)), (7, (pt g1)), (11, (pt g30)), (68, (bv (t23.1.Width != p1)))] [.cell ⟨g30, 0, none⟩ (iv t23.1.Width)] (fun fb => by kernel_rfl) rfl ⟨hS34.cell 0 rfl 0 rfl, trivial⟩ ?_
 refine WL.cutV (T := Bool) 10 (fun t => [(73, (bv t)), (0, (sv Aa p0 ca)), (1, (iv p1)), (2, (iv p2)), (7, (pt g1)), (11, (pt g30))]) (fun t => ((t23.1.Width != p1) || (t23.1.Height != p2)) = t) (fun K => ?_) ?_
 ·
  rcases Bool.eq_false_or_eq_true (t23.1.Width != p1) with h56 | h56
  ·
   refine WL.setB 68 h56 rfl ?_
   refine seg 10 [] [0, 1, 2, 7, 11, 73] [(0, (sv Aa p0 ca)), (1, (iv p1)), (2, (iv p2)), (7, (pt g1)), (11, (pt g30)), (73, (bv true))] [] (fun fb => by kernel_rfl) rfl trivial ?_
   exact WL.toV K true [73, 0, 1, 2, 7, 11] rfl (by first | (rw [h56]; done) | (rw [h56]; rfl))
  refine WL.setB 68 h56 rfl ?_
  refine seg 10 [.v (iv t23.1.Height)] [0, 1, 2, 7, 11, 73] [(0, (sv Aa p0 ca)), (1, (iv p1)), (2, (iv p2)), (7, (pt g1)), (11, (pt g30)), (73, (bv (t23.1.Height != p2)))] [.cell ⟨g30, 1, none⟩ (iv t23.1.Height)] (fun fb => by kernel_rfl) rfl ⟨hS34.cell 0 rfl 1 rfl, trivial⟩ ?_
  exact WL.toV K (t23.1.Height != p2) [73, 0, 1, 2, 7, 11] rfl (by first | (rw [h56]; done) | (rw [h56]; rfl))
 rintro b57 rfl
 refine seg 11 [] [0, 1, 2, 7, 11, 74] [(0, (sv Aa p0 ca)), (1, (iv p1)), (2, (iv p2)), (7, (pt g1)), (11, (pt g30)), (74, (bv ((t23.1.Width != p1) || (t23.1.Height != p2))))] [] (fun fb => by kernel_rfl) rfl trivial ?_
 obtain ⟨x58, hx59, hf⟩ := bind_some hf
 refine WL.cutW (T := Bool) 16 (fun t => [(0, (sv Aa p0 ca)), (1, (iv p1)), (2, (iv p2)), (7, (pt g1)), (11, (pt g30)), (79, (bv t))]) (fun t w1 => (St NoS w w1 [rowR enc_Tile Aa ca p0, rowR encInt Ab cb p3.North, rowR encInt Ac cc p3.East, rowR encInt Ad cd p3.South, rowR encInt Ae ce p3.West, cel ⟨2, 0, none⟩ (iv mG)] [blk g1 (.cells #[(sv Ab p3.North cb), (sv Ac p3.East cc), (sv Ad p3.South cd), (sv Ae p3.West ce)] 44 (0, 0)), blk g30 (.cells #[(iv t23.1.Width), (iv t23.1.Height), (sv A28 t23.1.Cells c29)] 27 (0, 0)), rowO 3 encInt A28 c29 t23.1.Cells] ∧ x58 = t) ∧ CellsOK [] w1) (fun K => ?_) ?_
 ·
  rcases br_some hx59 with ⟨h60, hx59⟩ | ⟨h60, hx59⟩
  ·
   refine WL.setB 74 h60 rfl ?_
   refine seg 16 [] [0, 1, 2, 7, 11, 79] [(0, (sv Aa p0 ca)), (1, (iv p1)), (2, (iv p2)), (7, (pt g1)), (11, (pt g30)), (79, (bv true))] [] (fun fb => by kernel_rfl) rfl trivial ?_
   injection hx59 with hx59
   exact WL.to K true [0, 1, 2, 7, 11, 79] rfl ⟨⟨(hS34.subR [0, 1, 2, 3, 4, 5]).sub [2, 0, 1] (by decide), hx59.symm⟩, trivial⟩
  refine WL.setB 74 h60 rfl ?_
  refine seg 13 [.v (iv t23.1.Width), .v (iv t23.1.Height), .v (sv A28 t23.1.Cells c29)] [0, 1, 2, 7, 11, 74, 75, 76] [(0, (sv Aa p0 ca)), (1, (iv p1)), (2, (iv p2)), (7, (pt g1)), (11, (pt g30)), (74, (bv false)), (75, (sv Aa p0 ca)), (76, (.agg #[(iv t23.1.Width), (iv t23.1.Height), (sv A28 t23.1.Cells c29)]))] [.cell ⟨g30, 0, none⟩ (iv t23.1.Width), .cell ⟨g30, 1, none⟩ (iv t23.1.Height), .cell ⟨g30, 2, none⟩ (sv A28 t23.1.Cells c29)] (fun fb => by kernel_rfl) rfl ⟨hS34.cell 0 rfl 0 rfl, hS34.cell 0 rfl 1 rfl, hS34.cell 0 rfl 2 rfl, trivial⟩ ?_
  obtain ⟨t61, ht62, hx59⟩ := bind_some hx59
  refine WL.call (some 77) 35 #[(sv Aa p0 ca), (.agg #[(iv t23.1.Width), (iv t23.1.Height), (sv A28 t23.1.Cells c29)])] (fun fb => by kernel_rfl) (ref01_Fits_calls _ p0 t23.1 Aa ca A28 c29 t61 _ (hS34.rd 0) (hS34.ow 1).ofO ht62) (fun v w63 hR65 => ?_)
  obtain ⟨rfl, hk_⟩ := hR65
  have hS66 := hS34.keepN hk_
  refine ⟨trivial, ?_⟩
  refine seg 16 [] [0, 1, 2, 7, 11, 79] [(0, (sv Aa p0 ca)), (1, (iv p1)), (2, (iv p2)), (7, (pt g1)), (11, (pt g30)), (79, (bv (!t61)))] [] (fun fb => by kernel_rfl) rfl trivial ?_
  injection hx59 with hx59
  exact WL.to K (!t61) [0, 1, 2, 7, 11, 79] rfl ⟨⟨(hS66.subR [0, 1, 2, 3, 4, 5]).sub [2, 0, 1] (by decide), hx59.symm⟩, trivial⟩
 rintro y67 w69 ⟨⟨hS70, hq68⟩, hF71⟩
 subst hq68
 refine seg 17 [] [0, 1, 2, 7, 11, 80] [(0, (sv Aa p0 ca)), (1, (iv p1)), (2, (iv p2)), (7, (pt g1)), (11, (pt g30)), (80, (bv x58))] [] (fun fb => by kernel_rfl) rfl trivial ?_
 obtain ⟨x72, hx73, hf⟩ := bind_some hf
 refine WL.cutW (T := Bool) 23 (fun t => [(0, (sv Aa p0 ca)), (1, (iv p1)), (2, (iv p2)), (11, (pt g30)), (86, (bv t))]) (fun t w1 => (St NoS w w1 [rowR enc_Tile Aa ca p0, rowR encInt Ab cb p3.North, rowR encInt Ac cc p3.East, rowR encInt Ad cd p3.South, rowR encInt Ae ce p3.West, cel ⟨2, 0, none⟩ (iv mG)] [blk g30 (.cells #[(iv t23.1.Width), (iv t23.1.Height), (sv A28 t23.1.Cells c29)] 27 (0, 0)), rowO 3 encInt A28 c29 t23.1.Cells] ∧ x72 = t) ∧ CellsOK [] w1) (fun K => ?_) ?_
 ·
  rcases br_some hx73 with ⟨h74, hx73⟩ | ⟨h74, hx73⟩
  ·
   refine WL.setB 80 h74 rfl ?_
   refine seg 23 [] [0, 1, 2, 11, 86] [(0, (sv Aa p0 ca)), (1, (iv p1)), (2, (iv p2)), (11, (pt g30)), (86, (bv true))] [] (fun fb => by kernel_rfl) rfl trivial ?_
   injection hx73 with hx73
   exact WL.to K true [0, 1, 2, 11, 86] rfl ⟨⟨(hS70.subR [0, 1, 2, 3, 4, 5]).sub [1, 2] (by decide), hx73.symm⟩, trivial⟩
  refine WL.setB 80 h74 rfl ?_
  refine seg 20 [.v (iv t23.1.Width), .v (iv t23.1.Height), .v (sv A28 t23.1.Cells c29), .v (sv Ab p3.North cb), .v (sv Ac p3.East cc), .v (sv Ad p3.South cd), .v (sv Ae p3.West ce)] [0, 1, 2, 11, 80, 81, 82, 83] [(0, (sv Aa p0 ca)), (1, (iv p1)), (2, (iv p2)), (11, (pt g30)), (80, (bv false)), (81, (sv Aa p0 ca)), (82, (.agg #[(iv t23.1.Width), (iv t23.1.Height), (sv A28 t23.1.Cells c29)])), (83, (.agg #[(sv Ab p3.North cb), (sv Ac p3.East cc), (sv Ad p3.South cd), (sv Ae p3.West ce)]))] [.cell ⟨g30, 0, none⟩ (iv t23.1.Width), .cell ⟨g30, 1, none⟩ (iv t23.1.Height), .cell ⟨g30, 2, none⟩ (sv A28 t23.1.Cells c29), .cell ⟨g1, 0, none⟩ (sv Ab p3.North cb), .cell ⟨g1, 1, none⟩ (sv Ac p3.East cc), .cell ⟨g1, 2, none⟩ (sv Ad p3.South cd), .cell ⟨g1, 3, none⟩ (sv Ae p3.West ce)] (fun fb => by kernel_rfl) rfl ⟨hS70.cell 1 rfl 0 rfl, hS70.cell 1 rfl 1 rfl, hS70.cell 1 rfl 2 rfl, hS70.cell 0 rfl 0 rfl, hS70.cell 0 rfl 1 rfl, hS70.cell 0 rfl 2 rfl, hS70.cell 0 rfl 3 rfl, trivial⟩ ?_
  obtain ⟨t75, ht76, hx73⟩ := bind_some hx73
  refine WL.call (some 84) 36 #[(sv Aa p0 ca), (.agg #[(iv t23.1.Width), (iv t23.1.Height), (sv A28 t23.1.Cells c29)]), (.agg #[(sv Ab p3.North cb), (sv Ac p3.East cc), (sv Ad p3.South cd), (sv Ae p3.West ce)])] (fun fb => by kernel_rfl) (ref02_Has_calls _ p0 t23.1 p3 Aa ca A28 c29 Ab cb Ac cc Ad cd Ae ce t75 _ (hS70.rd 0) (hS70.ow 2).ofO (hS70.rd 1) (hS70.rd 2) (hS70.rd 3) (hS70.rd 4) ht76) (fun v w77 hR78 => ?_)
  obtain ⟨rfl, hk_⟩ := hR78
  have hS79 := hS70.keepN hk_
  refine ⟨trivial, ?_⟩
  refine seg 23 [] [0, 1, 2, 11, 86] [(0, (sv Aa p0 ca)), (1, (iv p1)), (2, (iv p2)), (11, (pt g30)), (86, (bv (!t75)))] [] (fun fb => by kernel_rfl) rfl trivial ?_
  injection hx73 with hx73
  exact WL.to K (!t75) [0, 1, 2, 11, 86] rfl ⟨⟨(hS79.subR [0, 1, 2, 3, 4, 5]).sub [1, 2] (by decide), hx73.symm⟩, trivial⟩
 rintro y80 w82 ⟨⟨hS83, hq81⟩, hF84⟩
 subst hq81
 refine WL.done rfl (WX.next ?_)
 rcases br_some hf with ⟨h85, hf⟩ | ⟨h85, hf⟩
 ·refine WC.condT2 (fun fb => by kernel_rfl) h85 ?_
  refine WC.seq (WC.region ?_)
  refine seg 1 [] [8] [(8, (bv false))] [] (fun fb => by kernel_rfl) rfl trivial ?_
  refine WL.done rfl (WX.next ?_)
  refine WC.ret ?_
  injection hf with hf
  subst hf
  exact WX.thenR (WX.ret_ [] (bv false) [] (fun fb => by kernel_rfl) trivial ⟨_, rfl, rfl, hS83.keep⟩)
 refine WC.condF2 (fun fb => by kernel_rfl) h85 ?_
 refine WC.skip (WX.next (WC.seq (WC.region ?_)))
 refine seg 1 [] [0, 1, 2, 11, 87] [(0, (sv Aa p0 ca)), (1, (iv p1)), (2, (iv p2)), (11, (pt g30)), (87, (.agg #[(.slice none 0 0), (.slice none 0 0), (.slice none 0 0), (.slice none 0 0)]))] [] (fun fb => by kernel_rfl) rfl trivial ?_
 refine WL.new hS83 13 [] (fun g => (pt g)) (.cells #[(.slice none 0 0), (.slice none 0 0), (.slice none 0 0), (.slice none 0 0)] 44 (0, 0)) [] (fun fb g => by kernel_rfl) trivial (fun g86 w87 hS88 => ?_)
 refine ⟨trivial, ?_⟩
 refine WL.store hS88 0 rfl [(0, (.slice none 0 0)), (1, (.slice none 0 0)), (2, (.slice none 0 0)), (3, (.slice none 0 0))] #[(.slice none 0 0), (.slice none 0 0), (.slice none 0 0), (.slice none 0 0)] (fun fb => by kernel_rfl) (by kernel_rfl) rfl [1, 2] (by decide) (by decide) (fun w89 hS90 => ?_)
 refine ⟨trivial, ?_⟩
 refine WL.done rfl (WX.next (WC.seq (WC.seq (WC.region ?_))))
 refine seg 1 [] [0, 1, 2, 11, 13, 14] [(0, (sv Aa p0 ca)), (1, (iv p1)), (2, (iv p2)), (11, (pt g30)), (13, (pt g86)), (14, (iv 0))] [] (fun fb => by kernel_rfl) rfl trivial ?_
 refine WL.done rfl (WX.next ?_)
 have hS91 := hS90.nilrow 3 encInt
 have hS92 := hS91.nilrow 3 encInt
 obtain ⟨x104, hx105, hf⟩ := bind_some hf
 refine WC.cutN (T := ((List Int) × (List Int)) × (Option Addr) × Nat × (Option Addr) × Nat) (fun t => [(0, (sv Aa p0 ca)), (1, (iv p1)), (2, (iv p2)), (11, (pt g30)), (13, (pt g86))]) (fun t w1 => St NoS w w1 [rowR enc_Tile Aa ca p0, rowR encInt Ab cb p3.North, rowR encInt Ac cc p3.East, rowR encInt Ad cd p3.South, rowR encInt Ae ce p3.West, cel ⟨2, 0, none⟩ (iv mG)] [blk g30 (.cells #[(iv t23.1.Width), (iv t23.1.Height), (sv A28 t23.1.Cells c29)] 27 (0, 0)), rowO 3 encInt A28 c29 t23.1.Cells, blk g86 (.cells #[(sv t.2.1 t.1.1 t.2.2.1), (.slice none 0 0), (sv t.2.2.2.1 t.1.2 t.2.2.2.2), (.slice none 0 0)] 44 (0, 0)), rowO 3 encInt t.2.1 t.2.2.1 t.1.1, rowO 3 encInt t.2.2.2.1 t.2.2.2.2 t.1.2] ∧ x104 = t.1) (fun Kx104 => ?_) ?_
 ·
  refine WC.block ?_
  refine WC.loop (T := ((List Int) × (List Int) × Int) × (Option Addr) × Nat × (Option Addr) × Nat) (fun t => [(0, (sv Aa p0 ca)), (1, (iv p1)), (2, (iv p2)), (11, (pt g30)), (13, (pt g86)), (14, (iv t.1.2.2))]) (fun n t w1 => St NoS w w1 [rowR enc_Tile Aa ca p0, rowR encInt Ab cb p3.North, rowR encInt Ac cc p3.East, rowR encInt Ad cd p3.South, rowR encInt Ae ce p3.West, cel ⟨2, 0, none⟩ (iv mG)] [blk g30 (.cells #[(iv t23.1.Width), (iv t23.1.Height), (sv A28 t23.1.Cells c29)] 27 (0, 0)), rowO 3 encInt A28 c29 t23.1.Cells, blk g86 (.cells #[(sv t.2.1 t.1.1 t.2.2.1), (.slice none 0 0), (sv t.2.2.2.1 t.1.2.1 t.2.2.2.2), (.slice none 0 0)] 44 (0, 0)), rowO 3 encInt t.2.1 t.2.2.1 t.1.1, rowO 3 encInt t.2.2.2.1 t.2.2.2.2 t.1.2.1] ∧ law02_FillThere.l0 n t.1.1 t.1.2.1 t.1.2.2 p0 p1 p2 t23 = some x104) k ((([] : List Int), ([] : List Int), 0), none, 0, none, 0) [0, 1, 2, 11, 13, 14] rfl ⟨(hS92.subR [0, 1, 2, 3, 4, 5]).sub [3, 4, 2, 1, 0] (by decide), hx105⟩ ?_
  rintro k106 ⟨⟨l95, l98, x99⟩, A93, c94, A96, c97⟩ w107 ⟨hS108, hl109⟩
  cases k106 with
  | zero => rw [law02_FillThere.l0] at hl109; cases hl109
  | succ k106 =>
   rw [law02_FillThere.l0] at hl109
   refine WC.seq (WC.seq (WC.region ?_))
   refine seg 3 [] [0, 1, 2, 11, 13, 14, 90] [(0, (sv Aa p0 ca)), (1, (iv p1)), (2, (iv p2)), (11, (pt g30)), (13, (pt g86)), (14, (iv x99)), (90, (bv (decide (x99 < p1))))] [] (fun fb => by kernel_rfl) rfl trivial ?_
   refine WL.done rfl (WX.next ?_)
   rcases br_some hl109 with ⟨h110, hl109⟩ | ⟨h110, hl109⟩
   ·refine WC.condT2 (fun fb => by kernel_rfl) h110 ?_
    refine WC.skip (WX.next (WC.seq (WC.block (WC.seq ?_))))
    refine WC.regionD ([(1, ⟨g86, 2, none⟩, (sv A96 l98 c97)), (3, ⟨g30, 0, none⟩, (iv t23.1.Width)), (3, ⟨g30, 1, none⟩, (iv t23.1.Height)), (3, ⟨g30, 2, none⟩, (sv A28 t23.1.Cells c29))], [0, 1, 2, 3, 4, 6, 7, 11], [[], [0], [], [], [], [3, 4], [2, 3, 4, 5], [2, 3, 4, 5, 6], [2, 3, 4, 5, 6, 7], [2, 3, 4, 5, 6, 7, 8], [0, 1, 2, 3, 4, 5, 6, 7, 8, 9], [0, 1, 2, 3, 4, 5, 6, 7, 8, 9, 10], [0, 1, 2, 3, 4, 5, 6, 7, 8, 9, 10, 11]]) [[0, 1, 2, 3, 4, 5, 6, 7, 8, 9, 10, 11, 12]] (by kernel_rfl) (by kernel_rfl) (NoPanic.seq (NoPanic.block (NoPanic.seq (NoPanic.seq (NoPanic.block (NoPanic.seq (NoPanic.body))))))) ?_
    have hS112 := hS108.drew
    revert hS112
    generalize World.drew w107 = w111
    intro hS112
    refine ⟨⟨hS112.cell 2 rfl 2 rfl, hS112.cell 0 rfl 0 rfl, hS112.cell 0 rfl 1 rfl, hS112.cell 0 rfl 2 rfl, trivial⟩, forallC ?_ (forallN)⟩
    refine segF 5 [.v (sv A96 l98 c97), .v (iv t23.1.Width), .v (iv t23.1.Height), .v (sv A28 t23.1.Cells c29)] [0, 1, 2, 11, 13, 14, 94, 95, 96, 97] [(0, (sv Aa p0 ca)), (1, (iv p1)), (2, (iv p2)), (11, (pt g30)), (13, (pt g86)), (14, (iv x99)), (94, (sv A96 l98 c97)), (95, (sv Aa p0 ca)), (96, (.agg #[(iv t23.1.Width), (iv t23.1.Height), (sv A28 t23.1.Cells c29)])), (97, (iv x99))] [] [0, 1, 2, 3] [(1, ⟨g86, 2, none⟩, (sv A96 l98 c97)), (3, ⟨g30, 0, none⟩, (iv t23.1.Width)), (3, ⟨g30, 1, none⟩, (iv t23.1.Height)), (3, ⟨g30, 2, none⟩, (sv A28 t23.1.Cells c29))] (fun fb => by kernel_rfl) rfl trivial rfl ?_
    obtain ⟨t113, ht114, hl109⟩ := bind_some hl109
    refine WL.call (some 98) 37 #[(.agg #[(iv t23.1.Width), (iv t23.1.Height), (sv A28 t23.1.Cells c29)]), (iv x99), (iv 0)] (fun fb => by kernel_rfl) (ref01_Cell_calls t23.1 x99 0 A28 c29 t113 _ (hS112.ow 1).ofO ht114) (fun v w115 hR116 => ?_)
    obtain ⟨rfl, hk_⟩ := hR116
    have hS117 := hS112.keepN hk_
    refine ⟨⟨hS117.cell 2 rfl 2 rfl, trivial⟩, ?_⟩
    obtain ⟨h118, hl109⟩ := as_some hl109
    refine seg 9 [.v (iv ((rdD p0 t113 z_Tile).S))] [0, 1, 2, 11, 13, 14, 94, 101] [(0, (sv Aa p0 ca)), (1, (iv p1)), (2, (iv p2)), (11, (pt g30)), (13, (pt g86)), (14, (iv x99)), (94, (sv A96 l98 c97)), (101, (iv ((rdD p0 t113 z_Tile).S)))] [.idx Aa t113 p0.length, .cell (((adr Aa).add ((t113).toNat * 4)).add 2) (iv ((rdD p0 t113 z_Tile).S))] (fun fb => by kernel_rfl) rfl ⟨rowR.adr (hS117.rd 0).1 h118.1 h118.2, rowR.cell (hS117.rd 0).1 z_Tile h118.1 h118.2 2 rfl, trivial⟩ ?_
    refine WL.new hS117 102 [] (fun g => (.slice (some ⟨g, 0, none⟩) 1 1)) (.cells #[(iv ((rdD p0 t113 z_Tile).S))] 3 (0, 0)) [] (fun fb g => by kernel_rfl) trivial (fun g119 w120 hS121 => ?_)
    refine ⟨⟨hS121.cell 3 rfl 2 rfl, trivial⟩, ?_⟩
    have hS122 := hS27.go w120 [rowO 3 encInt (some ⟨g119, 0, none⟩) 1 [(rdD p0 t113 z_Tile).S], blk g30 (.cells #[(iv t23.1.Width), (iv t23.1.Height), (sv A28 t23.1.Cells c29)] 27 (0, 0)), rowO 3 encInt A28 c29 t23.1.Cells, blk g86 (.cells #[(sv A93 l95 c94), (.slice none 0 0), (sv A96 l98 c97), (.slice none 0 0)] 44 (0, 0)), rowO 3 encInt A93 c94 l95, rowO 3 encInt A96 c97 l98] (hS121.map1 0 _ (fun h => rowO.ofBlk h rfl (Nat.le_of_ble_eq_true (by kernel_rfl))) (fun _ h => by obtain ⟨_, h1, h2⟩ := h; injection h1 with h1; subst h1; exact h2) [1, 2, 3, 4, 5] (by decide) (by decide))
    obtain ⟨h123, hl109⟩ := as_some hl109
    refine WL.append hS122 5 (d := 103) (tS := 25) (z := (iv 0)) (bytes := 8) (c2 := 1) rfl (fun fb => by kernel_rfl) (rowO.rd (hS122.own 0).1) (by kernel_rfl) (by kernel_rfl) rfl (by decide) h123 (by decide) [0, 1, 2, 3, 4] (by decide) (by decide) (fun A124 c125 w126 hS127 => ?_)
    refine ⟨trivial, ?_⟩
    refine seg 12 [] [0, 1, 2, 11, 13, 14, 103, 104] [(0, (sv Aa p0 ca)), (1, (iv p1)), (2, (iv p2)), (11, (pt g30)), (13, (pt g86)), (14, (iv x99)), (103, (sv A124 (l98 ++ [(rdD p0 t113 z_Tile).S]) c125)), (104, (.pointer (some ⟨g86, 2, none⟩)))] [] (fun fb => by kernel_rfl) rfl trivial ?_
    refine WL.store hS127 4 rfl [(2, (sv A124 (l98 ++ [(rdD p0 t113 z_Tile).S]) c125))] #[(sv A93 l95 c94), (.slice none 0 0), (sv A124 (l98 ++ [(rdD p0 t113 z_Tile).S]) c125), (.slice none 0 0)] (fun fb => by kernel_rfl) (by kernel_rfl) rfl [0, 1, 2, 3, 5] (by decide) (by decide) (fun w128 hS129 => ?_)
    refine ⟨trivial, ?_⟩
    refine WL.done rfl (WX.next ?_)
    refine WC.regionD ([(1, ⟨g86, 0, none⟩, (sv A93 l95 c94)), (3, ⟨g30, 0, none⟩, (iv t23.1.Width)), (3, ⟨g30, 1, none⟩, (iv t23.1.Height)), (3, ⟨g30, 2, none⟩, (sv A28 t23.1.Cells c29))], [0, 1, 2, 3, 4, 5, 6, 8, 9, 13], [[], [0], [], [], [], [], [5], [3, 4, 5, 6], [2, 3, 4, 5, 6, 7], [2, 3, 4, 5, 6, 7, 8], [2, 3, 4, 5, 6, 7, 8, 9], [2, 3, 4, 5, 6, 7, 8, 9, 10], [0, 1, 2, 3, 4, 5, 6, 7, 8, 9, 10, 11], [0, 1, 2, 3, 4, 5, 6, 7, 8, 9, 10, 11, 12], [0, 1, 2, 3, 4, 5, 6, 7, 8, 9, 10, 11, 12, 13]]) [[0, 1, 2, 3, 4, 5, 6, 7, 8, 9, 10, 11, 12, 13, 14]] (by kernel_rfl) (by kernel_rfl) (NoPanic.block (NoPanic.seq (NoPanic.seq (NoPanic.block (NoPanic.seq (NoPanic.body)))))) ?_
    have hS131 := hS129.drew
    revert hS131
    generalize World.drew w128 = w130
    intro hS131
    refine ⟨⟨hS131.cell 0 rfl 0 rfl, hS131.cell 3 rfl 0 rfl, hS131.cell 3 rfl 1 rfl, hS131.cell 3 rfl 2 rfl, trivial⟩, forallC ?_ (forallN)⟩
    refine segF 7 [.v (sv A93 l95 c94), .v (iv t23.1.Width), .v (iv t23.1.Height), .v (sv A28 t23.1.Cells c29)] [0, 1, 2, 11, 13, 14, 106, 107, 108, 109, 111] [(0, (sv Aa p0 ca)), (1, (iv p1)), (2, (iv p2)), (11, (pt g30)), (13, (pt g86)), (14, (iv x99)), (106, (sv A93 l95 c94)), (107, (sv Aa p0 ca)), (108, (.agg #[(iv t23.1.Width), (iv t23.1.Height), (sv A28 t23.1.Cells c29)])), (109, (iv x99)), (111, (iv (w64 (p2 - 1))))] [] [0, 1, 2, 3] [(1, ⟨g86, 0, none⟩, (sv A93 l95 c94)), (3, ⟨g30, 0, none⟩, (iv t23.1.Width)), (3, ⟨g30, 1, none⟩, (iv t23.1.Height)), (3, ⟨g30, 2, none⟩, (sv A28 t23.1.Cells c29))] (fun fb => by kernel_rfl) rfl trivial rfl ?_
    obtain ⟨t132, ht133, hl109⟩ := bind_some hl109
    refine WL.call (some 112) 37 #[(.agg #[(iv t23.1.Width), (iv t23.1.Height), (sv A28 t23.1.Cells c29)]), (iv x99), (iv (w64 (p2 - 1)))] (fun fb => by kernel_rfl) (ref01_Cell_calls t23.1 x99 (w64 (p2 - 1)) A28 c29 t132 _ (hS131.ow 4).ofO ht133) (fun v w134 hR135 => ?_)
    obtain ⟨rfl, hk_⟩ := hR135
    have hS136 := hS131.keepN hk_
    refine ⟨⟨hS136.cell 0 rfl 0 rfl, trivial⟩, ?_⟩
    obtain ⟨h137, hl109⟩ := as_some hl109
    refine seg 11 [.v (iv ((rdD p0 t132 z_Tile).N))] [0, 1, 2, 11, 13, 14, 106, 115] [(0, (sv Aa p0 ca)), (1, (iv p1)), (2, (iv p2)), (11, (pt g30)), (13, (pt g86)), (14, (iv x99)), (106, (sv A93 l95 c94)), (115, (iv ((rdD p0 t132 z_Tile).N)))] [.idx Aa t132 p0.length, .cell ((adr Aa).add ((t132).toNat * 4)) (iv ((rdD p0 t132 z_Tile).N))] (fun fb => by kernel_rfl) rfl ⟨rowR.adr (hS136.rd 0).1 h137.1 h137.2, rowR.cell (hS136.rd 0).1 z_Tile h137.1 h137.2 0 rfl, trivial⟩ ?_
    refine WL.new hS136 116 [] (fun g => (.slice (some ⟨g, 0, none⟩) 1 1)) (.cells #[(iv ((rdD p0 t132 z_Tile).N))] 3 (0, 0)) [] (fun fb g => by kernel_rfl) trivial (fun g138 w139 hS140 => ?_)
    refine ⟨⟨hS140.cell 1 rfl 0 rfl, trivial⟩, ?_⟩
    have hS141 := hS122.go w139 [rowO 3 encInt (some ⟨g138, 0, none⟩) 1 [(rdD p0 t132 z_Tile).N], blk g86 (.cells #[(sv A93 l95 c94), (.slice none 0 0), (sv A124 (l98 ++ [(rdD p0 t113 z_Tile).S]) c125), (.slice none 0 0)] 44 (0, 0)), rowO 3 encInt A124 c125 (l98 ++ [(rdD p0 t113 z_Tile).S]), rowO 3 encInt (some ⟨g119, 0, none⟩) 1 [(rdD p0 t113 z_Tile).S], blk g30 (.cells #[(iv t23.1.Width), (iv t23.1.Height), (sv A28 t23.1.Cells c29)] 27 (0, 0)), rowO 3 encInt A28 c29 t23.1.Cells, rowO 3 encInt A93 c94 l95] (hS140.map1 0 _ (fun h => rowO.ofBlk h rfl (Nat.le_of_ble_eq_true (by kernel_rfl))) (fun _ h => by obtain ⟨_, h1, h2⟩ := h; injection h1 with h1; subst h1; exact h2) [1, 2, 3, 4, 5, 6] (by decide) (by decide))
    obtain ⟨h142, hl109⟩ := as_some hl109
    refine WL.append hS141 6 (d := 117) (tS := 25) (z := (iv 0)) (bytes := 8) (c2 := 1) rfl (fun fb => by kernel_rfl) (rowO.rd (hS141.own 0).1) (by kernel_rfl) (by kernel_rfl) rfl (by decide) h142 (by decide) [0, 1, 2, 3, 4, 5] (by decide) (by decide) (fun A143 c144 w145 hS146 => ?_)
    refine ⟨trivial, ?_⟩
    refine seg 14 [] [0, 1, 2, 11, 13, 14, 117, 118] [(0, (sv Aa p0 ca)), (1, (iv p1)), (2, (iv p2)), (11, (pt g30)), (13, (pt g86)), (14, (iv x99)), (117, (sv A143 (l95 ++ [(rdD p0 t132 z_Tile).N]) c144)), (118, (pt g86))] [] (fun fb => by kernel_rfl) rfl trivial ?_
    refine WL.store hS146 2 rfl [(0, (sv A143 (l95 ++ [(rdD p0 t132 z_Tile).N]) c144))] #[(sv A143 (l95 ++ [(rdD p0 t132 z_Tile).N]) c144), (.slice none 0 0), (sv A124 (l98 ++ [(rdD p0 t113 z_Tile).S]) c125), (.slice none 0 0)] (fun fb => by kernel_rfl) (by kernel_rfl) rfl [0, 1, 3, 4, 5, 6] (by decide) (by decide) (fun w147 hS148 => ?_)
    refine ⟨trivial, ?_⟩
    refine WL.done rfl ?_
    refine WX.blockN (WX.next ?_)
    refine WC.region ?_
    refine seg 3 [] [0, 1, 2, 11, 13, 14] [(0, (sv Aa p0 ca)), (1, (iv p1)), (2, (iv p2)), (11, (pt g30)), (13, (pt g86)), (14, (iv (w64 (x99 + 1))))] [] (fun fb => by kernel_rfl) rfl trivial ?_
    refine WL.done rfl ?_
    exact WX.again k106 (Nat.lt_succ_self _) ((l95 ++ [(rdD p0 t132 z_Tile).N], l98 ++ [(rdD p0 t113 z_Tile).S], w64 (x99 + 1)), A143, c144, A124, c125) [0, 1, 2, 11, 13, 14] rfl ⟨(hS148.subR [0, 1, 2, 3, 4, 5]).sub [5, 6, 0, 1, 3] (by decide), hl109⟩
   refine WC.condF2 (fun fb => by kernel_rfl) h110 ?_
   refine WC.exit ?_
   injection hl109 with hl109
   exact WX.thenX (WX.thenX (WX.blockHere (WX.to Kx104 ((l95, l98), A93, c94, A96, c97) [0, 1, 2, 11, 13] rfl ⟨(hS108.subR [0, 1, 2, 3, 4, 5]).sub [0, 1, 2, 3, 4] (by decide), hl109.symm⟩)))
 rintro ⟨y152, A100, c101, A102, c103⟩ w149 ⟨hS150, hq151⟩
 subst hq151
 refine WX.next (WC.seq (WC.seq (WC.region ?_)))
 refine seg 1 [] [0, 1, 2, 11, 13, 15] [(0, (sv Aa p0 ca)), (1, (iv p1)), (2, (iv p2)), (11, (pt g30)), (13, (pt g86)), (15, (iv 0))] [] (fun fb => by kernel_rfl) rfl trivial ?_
 refine WL.done rfl (WX.next ?_)
 have hS153 := hS150.nilrow 3 encInt
 have hS154 := hS153.nilrow 3 encInt
 obtain ⟨x166, hx167, hf⟩ := bind_some hf
 refine WC.cutN (T := ((List Int) × (List Int)) × (Option Addr) × Nat × (Option Addr) × Nat) (fun t => [(0, (sv Aa p0 ca)), (1, (iv p1)), (2, (iv p2)), (13, (pt g86))]) (fun t w1 => St NoS w w1 [rowR enc_Tile Aa ca p0, rowR encInt Ab cb p3.North, rowR encInt Ac cc p3.East, rowR encInt Ad cd p3.South, rowR encInt Ae ce p3.West, cel ⟨2, 0, none⟩ (iv mG)] [blk g86 (.cells #[(sv A100 x104.1 c101), (sv t.2.1 t.1.1 t.2.2.1), (sv A102 x104.2 c103), (sv t.2.2.2.1 t.1.2 t.2.2.2.2)] 44 (0, 0)), rowO 3 encInt A100 c101 x104.1, rowO 3 encInt t.2.1 t.2.2.1 t.1.1, rowO 3 encInt A102 c103 x104.2, rowO 3 encInt t.2.2.2.1 t.2.2.2.2 t.1.2] ∧ x166 = t.1) (fun Kx166 => ?_) ?_
 ·
  refine WC.block ?_
  refine WC.loop (T := ((List Int) × (List Int) × Int) × (Option Addr) × Nat × (Option Addr) × Nat) (fun t => [(0, (sv Aa p0 ca)), (1, (iv p1)), (2, (iv p2)), (11, (pt g30)), (13, (pt g86)), (15, (iv t.1.2.2))]) (fun n t w1 => St NoS w w1 [rowR enc_Tile Aa ca p0, rowR encInt Ab cb p3.North, rowR encInt Ac cc p3.East, rowR encInt Ad cd p3.South, rowR encInt Ae ce p3.West, cel ⟨2, 0, none⟩ (iv mG)] [blk g30 (.cells #[(iv t23.1.Width), (iv t23.1.Height), (sv A28 t23.1.Cells c29)] 27 (0, 0)), rowO 3 encInt A28 c29 t23.1.Cells, blk g86 (.cells #[(sv A100 x104.1 c101), (sv t.2.1 t.1.1 t.2.2.1), (sv A102 x104.2 c103), (sv t.2.2.2.1 t.1.2.1 t.2.2.2.2)] 44 (0, 0)), rowO 3 encInt A100 c101 x104.1, rowO 3 encInt t.2.1 t.2.2.1 t.1.1, rowO 3 encInt A102 c103 x104.2, rowO 3 encInt t.2.2.2.1 t.2.2.2.2 t.1.2.1] ∧ law02_FillThere.l1 n t.1.1 t.1.2.1 t.1.2.2 p0 p1 p2 t23 = some x166) k ((([] : List Int), ([] : List Int), 0), none, 0, none, 0) [0, 1, 2, 11, 13, 15] rfl ⟨(hS154.subR [0, 1, 2, 3, 4, 5]).sub [2, 3, 4, 5, 1, 6, 0] (by decide), hx167⟩ ?_
  rintro k168 ⟨⟨l157, l160, x161⟩, A155, c156, A158, c159⟩ w169 ⟨hS170, hl171⟩
  cases k168 with
  | zero => rw [law02_FillThere.l1] at hl171; cases hl171
  | succ k168 =>
   rw [law02_FillThere.l1] at hl171
   refine WC.seq (WC.seq (WC.region ?_))
   refine seg 3 [] [0, 1, 2, 11, 13, 15, 121] [(0, (sv Aa p0 ca)), (1, (iv p1)), (2, (iv p2)), (11, (pt g30)), (13, (pt g86)), (15, (iv x161)), (121, (bv (decide (x161 < p2))))] [] (fun fb => by kernel_rfl) rfl trivial ?_
   refine WL.done rfl (WX.next ?_)
   rcases br_some hl171 with ⟨h172, hl171⟩ | ⟨h172, hl171⟩
   ·refine WC.condT2 (fun fb => by kernel_rfl) h172 ?_
    refine WC.skip (WX.next (WC.seq (WC.block (WC.seq ?_))))
    refine WC.regionD ([(1, ⟨g86, 3, none⟩, (sv A158 l160 c159)), (3, ⟨g30, 0, none⟩, (iv t23.1.Width)), (3, ⟨g30, 1, none⟩, (iv t23.1.Height)), (3, ⟨g30, 2, none⟩, (sv A28 t23.1.Cells c29))], [0, 1, 2, 3, 4, 6, 7, 11], [[], [0], [], [], [], [3, 4], [2, 3, 4, 5], [2, 3, 4, 5, 6], [2, 3, 4, 5, 6, 7], [2, 3, 4, 5, 6, 7, 8], [0, 1, 2, 3, 4, 5, 6, 7, 8, 9], [0, 1, 2, 3, 4, 5, 6, 7, 8, 9, 10], [0, 1, 2, 3, 4, 5, 6, 7, 8, 9, 10, 11]]) [[0, 1, 2, 3, 4, 5, 6, 7, 8, 9, 10, 11, 12]] (by kernel_rfl) (by kernel_rfl) (NoPanic.seq (NoPanic.block (NoPanic.seq (NoPanic.seq (NoPanic.block (NoPanic.seq (NoPanic.body))))))) ?_
    have hS174 := hS170.drew
    revert hS174
    generalize World.drew w169 = w173
    intro hS174
    refine ⟨⟨hS174.cell 2 rfl 3 rfl, hS174.cell 0 rfl 0 rfl, hS174.cell 0 rfl 1 rfl, hS174.cell 0 rfl 2 rfl, trivial⟩, forallC ?_ (forallN)⟩
    refine segF 5 [.v (sv A158 l160 c159), .v (iv t23.1.Width), .v (iv t23.1.Height), .v (sv A28 t23.1.Cells c29)] [0, 1, 2, 11, 13, 15, 125, 126, 127, 128] [(0, (sv Aa p0 ca)), (1, (iv p1)), (2, (iv p2)), (11, (pt g30)), (13, (pt g86)), (15, (iv x161)), (125, (sv A158 l160 c159)), (126, (sv Aa p0 ca)), (127, (.agg #[(iv t23.1.Width), (iv t23.1.Height), (sv A28 t23.1.Cells c29)])), (128, (iv x161))] [] [0, 1, 2, 3] [(1, ⟨g86, 3, none⟩, (sv A158 l160 c159)), (3, ⟨g30, 0, none⟩, (iv t23.1.Width)), (3, ⟨g30, 1, none⟩, (iv t23.1.Height)), (3, ⟨g30, 2, none⟩, (sv A28 t23.1.Cells c29))] (fun fb => by kernel_rfl) rfl trivial rfl ?_
    obtain ⟨t175, ht176, hl171⟩ := bind_some hl171
    refine WL.call (some 129) 37 #[(.agg #[(iv t23.1.Width), (iv t23.1.Height), (sv A28 t23.1.Cells c29)]), (iv 0), (iv x161)] (fun fb => by kernel_rfl) (ref01_Cell_calls t23.1 0 x161 A28 c29 t175 _ (hS174.ow 1).ofO ht176) (fun v w177 hR178 => ?_)
    obtain ⟨rfl, hk_⟩ := hR178
    have hS179 := hS174.keepN hk_
    refine ⟨⟨hS179.cell 2 rfl 3 rfl, trivial⟩, ?_⟩
    obtain ⟨h180, hl171⟩ := as_some hl171
    refine seg 9 [.v (iv ((rdD p0 t175 z_Tile).W))] [0, 1, 2, 11, 13, 15, 125, 132] [(0, (sv Aa p0 ca)), (1, (iv p1)), (2, (iv p2)), (11, (pt g30)), (13, (pt g86)), (15, (iv x161)), (125, (sv A158 l160 c159)), (132, (iv ((rdD p0 t175 z_Tile).W)))] [.idx Aa t175 p0.length, .cell (((adr Aa).add ((t175).toNat * 4)).add 3) (iv ((rdD p0 t175 z_Tile).W))] (fun fb => by kernel_rfl) rfl ⟨rowR.adr (hS179.rd 0).1 h180.1 h180.2, rowR.cell (hS179.rd 0).1 z_Tile h180.1 h180.2 3 rfl, trivial⟩ ?_
    refine WL.new hS179 133 [] (fun g => (.slice (some ⟨g, 0, none⟩) 1 1)) (.cells #[(iv ((rdD p0 t175 z_Tile).W))] 3 (0, 0)) [] (fun fb g => by kernel_rfl) trivial (fun g181 w182 hS183 => ?_)
    refine ⟨⟨hS183.cell 3 rfl 3 rfl, trivial⟩, ?_⟩
    have hS184 := hS27.go w182 [rowO 3 encInt (some ⟨g181, 0, none⟩) 1 [(rdD p0 t175 z_Tile).W], blk g30 (.cells #[(iv t23.1.Width), (iv t23.1.Height), (sv A28 t23.1.Cells c29)] 27 (0, 0)), rowO 3 encInt A28 c29 t23.1.Cells, blk g86 (.cells #[(sv A100 x104.1 c101), (sv A155 l157 c156), (sv A102 x104.2 c103), (sv A158 l160 c159)] 44 (0, 0)), rowO 3 encInt A100 c101 x104.1, rowO 3 encInt A155 c156 l157, rowO 3 encInt A102 c103 x104.2, rowO 3 encInt A158 c159 l160] (hS183.map1 0 _ (fun h => rowO.ofBlk h rfl (Nat.le_of_ble_eq_true (by kernel_rfl))) (fun _ h => by obtain ⟨_, h1, h2⟩ := h; injection h1 with h1; subst h1; exact h2) [1, 2, 3, 4, 5, 6, 7] (by decide) (by decide))
    obtain ⟨h185, hl171⟩ := as_some hl171
    refine WL.append hS184 7 (d := 134) (tS := 25) (z := (iv 0)) (bytes := 8) (c2 := 1) rfl (fun fb => by kernel_rfl) (rowO.rd (hS184.own 0).1) (by kernel_rfl) (by kernel_rfl) rfl (by decide) h185 (by decide) [0, 1, 2, 3, 4, 5, 6] (by decide) (by decide) (fun A186 c187 w188 hS189 => ?_)
    refine ⟨trivial, ?_⟩
    refine seg 12 [] [0, 1, 2, 11, 13, 15, 134, 135] [(0, (sv Aa p0 ca)), (1, (iv p1)), (2, (iv p2)), (11, (pt g30)), (13, (pt g86)), (15, (iv x161)), (134, (sv A186 (l160 ++ [(rdD p0 t175 z_Tile).W]) c187)), (135, (.pointer (some ⟨g86, 3, none⟩)))] [] (fun fb => by kernel_rfl) rfl trivial ?_
    refine WL.store hS189 4 rfl [(3, (sv A186 (l160 ++ [(rdD p0 t175 z_Tile).W]) c187))] #[(sv A100 x104.1 c101), (sv A155 l157 c156), (sv A102 x104.2 c103), (sv A186 (l160 ++ [(rdD p0 t175 z_Tile).W]) c187)] (fun fb => by kernel_rfl) (by kernel_rfl) rfl [0, 1, 2, 3, 5, 6, 7] (by decide) (by decide) (fun w190 hS191 => ?_)
    refine ⟨trivial, ?_⟩
    refine WL.done rfl (WX.next ?_)
    refine WC.regionD ([(1, ⟨g86, 1, none⟩, (sv A155 l157 c156)), (3, ⟨g30, 0, none⟩, (iv t23.1.Width)), (3, ⟨g30, 1, none⟩, (iv t23.1.Height)), (3, ⟨g30, 2, none⟩, (sv A28 t23.1.Cells c29))], [0, 1, 2, 3, 4, 5, 6, 8, 9, 13], [[], [0], [], [], [], [4], [], [3, 4, 5, 6], [2, 3, 4, 5, 6, 7], [2, 3, 4, 5, 6, 7, 8], [2, 3, 4, 5, 6, 7, 8, 9], [2, 3, 4, 5, 6, 7, 8, 9, 10], [0, 1, 2, 3, 4, 5, 6, 7, 8, 9, 10, 11], [0, 1, 2, 3, 4, 5, 6, 7, 8, 9, 10, 11, 12], [0, 1, 2, 3, 4, 5, 6, 7, 8, 9, 10, 11, 12, 13]]) [[0, 1, 2, 3, 4, 5, 6, 7, 8, 9, 10, 11, 12, 13, 14]] (by kernel_rfl) (by kernel_rfl) (NoPanic.block (NoPanic.seq (NoPanic.seq (NoPanic.block (NoPanic.seq (NoPanic.body)))))) ?_
    have hS193 := hS191.drew
    revert hS193
    generalize World.drew w190 = w192
    intro hS193
    refine ⟨⟨hS193.cell 0 rfl 1 rfl, hS193.cell 3 rfl 0 rfl, hS193.cell 3 rfl 1 rfl, hS193.cell 3 rfl 2 rfl, trivial⟩, forallC ?_ (forallN)⟩
    refine segF 7 [.v (sv A155 l157 c156), .v (iv t23.1.Width), .v (iv t23.1.Height), .v (sv A28 t23.1.Cells c29)] [0, 1, 2, 11, 13, 15, 137, 138, 139, 141, 142] [(0, (sv Aa p0 ca)), (1, (iv p1)), (2, (iv p2)), (11, (pt g30)), (13, (pt g86)), (15, (iv x161)), (137, (sv A155 l157 c156)), (138, (sv Aa p0 ca)), (139, (.agg #[(iv t23.1.Width), (iv t23.1.Height), (sv A28 t23.1.Cells c29)])), (141, (iv (w64 (p1 - 1)))), (142, (iv x161))] [] [0, 1, 2, 3] [(1, ⟨g86, 1, none⟩, (sv A155 l157 c156)), (3, ⟨g30, 0, none⟩, (iv t23.1.Width)), (3, ⟨g30, 1, none⟩, (iv t23.1.Height)), (3, ⟨g30, 2, none⟩, (sv A28 t23.1.Cells c29))] (fun fb => by kernel_rfl) rfl trivial rfl ?_
    obtain ⟨t194, ht195, hl171⟩ := bind_some hl171
    refine WL.call (some 143) 37 #[(.agg #[(iv t23.1.Width), (iv t23.1.Height), (sv A28 t23.1.Cells c29)]), (iv (w64 (p1 - 1))), (iv x161)] (fun fb => by kernel_rfl) (ref01_Cell_calls t23.1 (w64 (p1 - 1)) x161 A28 c29 t194 _ (hS193.ow 4).ofO ht195) (fun v w196 hR197 => ?_)
    obtain ⟨rfl, hk_⟩ := hR197
    have hS198 := hS193.keepN hk_
    refine ⟨⟨hS198.cell 0 rfl 1 rfl, trivial⟩, ?_⟩
    obtain ⟨h199, hl171⟩ := as_some hl171
    refine seg 11 [.v (iv ((rdD p0 t194 z_Tile).E))] [0, 1, 2, 11, 13, 15, 137, 146] [(0, (sv Aa p0 ca)), (1, (iv p1)), (2, (iv p2)), (11, (pt g30)), (13, (pt g86)), (15, (iv x161)), (137, (sv A155 l157 c156)), (146, (iv ((rdD p0 t194 z_Tile).E)))] [.idx Aa t194 p0.length, .cell (((adr Aa).add ((t194).toNat * 4)).add 1) (iv ((rdD p0 t194 z_Tile).E))] (fun fb => by kernel_rfl) rfl ⟨rowR.adr (hS198.rd 0).1 h199.1 h199.2, rowR.cell (hS198.rd 0).1 z_Tile h199.1 h199.2 1 rfl, trivial⟩ ?_
    refine WL.new hS198 147 [] (fun g => (.slice (some ⟨g, 0, none⟩) 1 1)) (.cells #[(iv ((rdD p0 t194 z_Tile).E))] 3 (0, 0)) [] (fun fb g => by kernel_rfl) trivial (fun g200 w201 hS202 => ?_)
    refine ⟨⟨hS202.cell 1 rfl 1 rfl, trivial⟩, ?_⟩
    have hS203 := hS184.go w201 [rowO 3 encInt (some ⟨g200, 0, none⟩) 1 [(rdD p0 t194 z_Tile).E], blk g86 (.cells #[(sv A100 x104.1 c101), (sv A155 l157 c156), (sv A102 x104.2 c103), (sv A186 (l160 ++ [(rdD p0 t175 z_Tile).W]) c187)] 44 (0, 0)), rowO 3 encInt A186 c187 (l160 ++ [(rdD p0 t175 z_Tile).W]), rowO 3 encInt (some ⟨g181, 0, none⟩) 1 [(rdD p0 t175 z_Tile).W], blk g30 (.cells #[(iv t23.1.Width), (iv t23.1.Height), (sv A28 t23.1.Cells c29)] 27 (0, 0)), rowO 3 encInt A28 c29 t23.1.Cells, rowO 3 encInt A100 c101 x104.1, rowO 3 encInt A155 c156 l157, rowO 3 encInt A102 c103 x104.2] (hS202.map1 0 _ (fun h => rowO.ofBlk h rfl (Nat.le_of_ble_eq_true (by kernel_rfl))) (fun _ h => by obtain ⟨_, h1, h2⟩ := h; injection h1 with h1; subst h1; exact h2) [1, 2, 3, 4, 5, 6, 7, 8] (by decide) (by decide))
    obtain ⟨h204, hl171⟩ := as_some hl171
    refine WL.append hS203 7 (d := 148) (tS := 25) (z := (iv 0)) (bytes := 8) (c2 := 1) rfl (fun fb => by kernel_rfl) (rowO.rd (hS203.own 0).1) (by kernel_rfl) (by kernel_rfl) rfl (by decide) h204 (by decide) [0, 1, 2, 3, 4, 5, 6, 8] (by decide) (by decide) (fun A205 c206 w207 hS208 => ?_)
    refine ⟨trivial, ?_⟩
    refine seg 14 [] [0, 1, 2, 11, 13, 15, 148, 149] [(0, (sv Aa p0 ca)), (1, (iv p1)), (2, (iv p2)), (11, (pt g30)), (13, (pt g86)), (15, (iv x161)), (148, (sv A205 (l157 ++ [(rdD p0 t194 z_Tile).E]) c206)), (149, (.pointer (some ⟨g86, 1, none⟩)))] [] (fun fb => by kernel_rfl) rfl trivial ?_
    refine WL.store hS208 2 rfl [(1, (sv A205 (l157 ++ [(rdD p0 t194 z_Tile).E]) c206))] #[(sv A100 x104.1 c101), (sv A205 (l157 ++ [(rdD p0 t194 z_Tile).E]) c206), (sv A102 x104.2 c103), (sv A186 (l160 ++ [(rdD p0 t175 z_Tile).W]) c187)] (fun fb => by kernel_rfl) (by kernel_rfl) rfl [0, 1, 3, 4, 5, 6, 7, 8] (by decide) (by decide) (fun w209 hS210 => ?_)
    refine ⟨trivial, ?_⟩
    refine WL.done rfl ?_
    refine WX.blockN (WX.next ?_)
    refine WC.region ?_
    refine seg 3 [] [0, 1, 2, 11, 13, 15] [(0, (sv Aa p0 ca)), (1, (iv p1)), (2, (iv p2)), (11, (pt g30)), (13, (pt g86)), (15, (iv (w64 (x161 + 1))))] [] (fun fb => by kernel_rfl) rfl trivial ?_
    refine WL.done rfl ?_
    exact WX.again k168 (Nat.lt_succ_self _) ((l157 ++ [(rdD p0 t194 z_Tile).E], l160 ++ [(rdD p0 t175 z_Tile).W], w64 (x161 + 1)), A205, c206, A186, c187) [0, 1, 2, 11, 13, 15] rfl ⟨(hS210.subR [0, 1, 2, 3, 4, 5]).sub [5, 6, 0, 7, 1, 8, 3] (by decide), hl171⟩
   refine WC.condF2 (fun fb => by kernel_rfl) h172 ?_
   refine WC.exit ?_
   injection hl171 with hl171
   exact WX.thenX (WX.thenX (WX.blockHere (WX.to Kx166 ((l157, l160), A155, c156, A158, c159) [0, 1, 2, 13] rfl ⟨(hS170.subR [0, 1, 2, 3, 4, 5]).sub [2, 3, 4, 5, 6] (by decide), hl171.symm⟩)))
 rintro ⟨y214, A162, c163, A164, c165⟩ w211 ⟨hS212, hq213⟩
 subst hq213
 refine WX.next (WC.seq (WC.region ?_))
 refine seg 4 [.v (sv A100 x104.1 c101), .v (sv A162 x166.1 c163), .v (sv A102 x104.2 c103), .v (sv A164 x166.2 c165)] [0, 13, 151, 152, 153, 154] [(0, (sv Aa p0 ca)), (13, (pt g86)), (151, (sv Aa p0 ca)), (152, (iv p1)), (153, (iv p2)), (154, (.agg #[(sv A100 x104.1 c101), (sv A162 x166.1 c163), (sv A102 x104.2 c103), (sv A164 x166.2 c165)]))] [.cell ⟨g86, 0, none⟩ (sv A100 x104.1 c101), .cell ⟨g86, 1, none⟩ (sv A162 x166.1 c163), .cell ⟨g86, 2, none⟩ (sv A102 x104.2 c103), .cell ⟨g86, 3, none⟩ (sv A164 x166.2 c165)] (fun fb => by kernel_rfl) rfl ⟨hS212.cell 0 rfl 0 rfl, hS212.cell 0 rfl 1 rfl, hS212.cell 0 rfl 2 rfl, hS212.cell 0 rfl 3 rfl, trivial⟩ ?_
 obtain ⟨t215, ht216, hf⟩ := bind_some hf
 refine WL.call (some 155) 31 #[(sv Aa p0 ca), (iv p1), (iv p2), (.agg #[(sv A100 x104.1 c101), (sv A162 x166.1 c163), (sv A102 x104.2 c103), (sv A164 x166.2 c165)])] (fun fb => by kernel_rfl) (fill_First_calls _ p0 p1 p2 (Edges.mk x104.1 x166.1 x104.2 x166.2) Aa ca A100 c101 A162 c163 A102 c103 A164 c165 t215 _ (hS212.rd 0) (hS212.ow 1).ofO (hS212.ow 2).ofO (hS212.ow 3).ofO (hS212.ow 4).ofO ht216) (fun v w217 hR218 => ?_)
 obtain ⟨A220, c221, rfl, hk_⟩ := hR218
 have hS219 := hS27.go w217 [rowO 3 encInt A220 c221 t215.1.Cells, blk g86 (.cells #[(.slice A100 x104.1.length c101), (.slice A162 x166.1.length c163), (.slice A102 x104.2.length c103), (.slice A164 x166.2.length c165)] 44 (0, 0)), rowO 3 encInt A100 c101 x104.1, rowO 3 encInt A162 c163 x166.1, rowO 3 encInt A102 c103 x104.2, rowO 3 encInt A164 c165 x166.2] (hS212.call hk_ [] [0, 1, 2, 3, 4] (fun g hg => hg.elim) (by simp) (by decide))
 refine ⟨trivial, ?_⟩
 refine seg 8 [] [0, 13, 156, 157] [(0, (sv Aa p0 ca)), (13, (pt g86)), (156, (.agg #[(iv t215.1.Width), (iv t215.1.Height), (sv A220 t215.1.Cells c221)])), (157, (iv t215.2))] [] (fun fb => by kernel_rfl) rfl trivial ?_
 refine WL.new hS219 16 [] (fun g => (pt g)) (.cells #[(iv 0), (iv 0), (.slice none 0 0)] 27 (0, 0)) [] (fun fb g => by kernel_rfl) trivial (fun g222 w223 hS224 => ?_)
 refine ⟨trivial, ?_⟩
 refine WL.store hS224 0 rfl [(0, (iv t215.1.Width)), (1, (iv t215.1.Height)), (2, (sv A220 t215.1.Cells c221))] #[(iv t215.1.Width), (iv t215.1.Height), (sv A220 t215.1.Cells c221)] (fun fb => by kernel_rfl) (by kernel_rfl) rfl [1, 2, 3, 4, 5, 6] (by decide) (by decide) (fun w225 hS226 => ?_)
 refine ⟨trivial, ?_⟩
 refine seg 11 [] [0, 12, 13, 16] [(0, (sv Aa p0 ca)), (12, (iv t215.2)), (13, (pt g86)), (16, (pt g222))] [] (fun fb => by kernel_rfl) rfl trivial ?_
 refine WL.done rfl (WX.next (WC.seq (WC.region ?_)))
 refine seg 3 [] [0, 13, 16, 160] [(0, (sv Aa p0 ca)), (13, (pt g86)), (16, (pt g222)), (160, (bv (t215.2 == 0)))] [] (fun fb => by kernel_rfl) rfl trivial ?_
 obtain ⟨x227, hx228, hf⟩ := bind_some hf
 refine WL.cutW (T := Bool) 7 (fun t => [(0, (sv Aa p0 ca)), (13, (pt g86)), (16, (pt g222)), (164, (bv t))]) (fun t w1 => (St NoS w w1 [rowR enc_Tile Aa ca p0, rowR encInt Ab cb p3.North, rowR encInt Ac cc p3.East, rowR encInt Ad cd p3.South, rowR encInt Ae ce p3.West, cel ⟨2, 0, none⟩ (iv mG)] [blk g86 (.cells #[(sv A100 x104.1 c101), (sv A162 x166.1 c163), (sv A102 x104.2 c103), (sv A164 x166.2 c165)] 44 (0, 0)), rowO 3 encInt A100 c101 x104.1, rowO 3 encInt A162 c163 x166.1, rowO 3 encInt A102 c103 x104.2, rowO 3 encInt A164 c165 x166.2, blk g222 (.cells #[(iv t215.1.Width), (iv t215.1.Height), (sv A220 t215.1.Cells c221)] 27 (0, 0)), rowO 3 encInt A220 c221 t215.1.Cells] ∧ x227 = t) ∧ CellsOK [] w1) (fun K => ?_) ?_
 ·
  rcases br_some hx228 with ⟨h229, hx228⟩ | ⟨h229, hx228⟩
  ·
   refine WL.setB 160 h229 rfl ?_
   refine seg 5 [.v (iv t215.1.Width), .v (iv t215.1.Height), .v (sv A220 t215.1.Cells c221)] [0, 13, 16, 160, 161, 162] [(0, (sv Aa p0 ca)), (13, (pt g86)), (16, (pt g222)), (160, (bv true)), (161, (sv Aa p0 ca)), (162, (.agg #[(iv t215.1.Width), (iv t215.1.Height), (sv A220 t215.1.Cells c221)]))] [.cell ⟨g222, 0, none⟩ (iv t215.1.Width), .cell ⟨g222, 1, none⟩ (iv t215.1.Height), .cell ⟨g222, 2, none⟩ (sv A220 t215.1.Cells c221)] (fun fb => by kernel_rfl) rfl ⟨hS226.cell 0 rfl 0 rfl, hS226.cell 0 rfl 1 rfl, hS226.cell 0 rfl 2 rfl, trivial⟩ ?_
   obtain ⟨t230, ht231, hx228⟩ := bind_some hx228
   refine WL.call (some 163) 35 #[(sv Aa p0 ca), (.agg #[(iv t215.1.Width), (iv t215.1.Height), (sv A220 t215.1.Cells c221)])] (fun fb => by kernel_rfl) (ref01_Fits_calls _ p0 t215.1 Aa ca A220 c221 t230 _ (hS226.rd 0) (hS226.ow 1).ofO ht231) (fun v w232 hR233 => ?_)
   obtain ⟨rfl, hk_⟩ := hR233
   have hS234 := hS226.keepN hk_
   refine ⟨trivial, ?_⟩
   refine seg 7 [] [0, 13, 16, 164] [(0, (sv Aa p0 ca)), (13, (pt g86)), (16, (pt g222)), (164, (bv t230))] [] (fun fb => by kernel_rfl) rfl trivial ?_
   injection hx228 with hx228
   exact WL.to K t230 [0, 13, 16, 164] rfl ⟨⟨(hS234.subR [0, 1, 2, 3, 4, 5]).sub [2, 3, 4, 5, 6, 0, 1] (by decide), hx228.symm⟩, trivial⟩
  refine WL.setB 160 h229 rfl ?_
  refine seg 7 [] [0, 13, 16, 164] [(0, (sv Aa p0 ca)), (13, (pt g86)), (16, (pt g222)), (164, (bv false))] [] (fun fb => by kernel_rfl) rfl trivial ?_
  injection hx228 with hx228
  exact WL.to K false [0, 13, 16, 164] rfl ⟨⟨(hS226.subR [0, 1, 2, 3, 4, 5]).sub [2, 3, 4, 5, 6, 0, 1] (by decide), hx228.symm⟩, trivial⟩
 rintro y235 w237 ⟨⟨hS238, hq236⟩, hF239⟩
 subst hq236
 refine seg 8 [] [0, 13, 16, 165] [(0, (sv Aa p0 ca)), (13, (pt g86)), (16, (pt g222)), (165, (bv x227))] [] (fun fb => by kernel_rfl) rfl trivial ?_
 obtain ⟨x240, hx241, hf⟩ := bind_some hf
 refine WL.cutW (T := Bool) 13 (fun t => [(170, (bv t))]) (fun t w1 => (St NoS w w1 [rowR enc_Tile Aa ca p0, rowR encInt Ab cb p3.North, rowR encInt Ac cc p3.East, rowR encInt Ad cd p3.South, rowR encInt Ae ce p3.West, cel ⟨2, 0, none⟩ (iv mG)] [] ∧ x240 = t) ∧ CellsOK [] w1) (fun K => ?_) ?_
 ·
  rcases br_some hx241 with ⟨h242, hx241⟩ | ⟨h242, hx241⟩
  ·
   refine WL.setB 165 h242 rfl ?_
   refine seg 11 [.v (iv t215.1.Width), .v (iv t215.1.Height), .v (sv A220 t215.1.Cells c221), .v (sv A100 x104.1 c101), .v (sv A162 x166.1 c163), .v (sv A102 x104.2 c103), .v (sv A164 x166.2 c165)] [165, 166, 167, 168] [(165, (bv true)), (166, (sv Aa p0 ca)), (167, (.agg #[(iv t215.1.Width), (iv t215.1.Height), (sv A220 t215.1.Cells c221)])), (168, (.agg #[(sv A100 x104.1 c101), (sv A162 x166.1 c163), (sv A102 x104.2 c103), (sv A164 x166.2 c165)]))] [.cell ⟨g222, 0, none⟩ (iv t215.1.Width), .cell ⟨g222, 1, none⟩ (iv t215.1.Height), .cell ⟨g222, 2, none⟩ (sv A220 t215.1.Cells c221), .cell ⟨g86, 0, none⟩ (sv A100 x104.1 c101), .cell ⟨g86, 1, none⟩ (sv A162 x166.1 c163), .cell ⟨g86, 2, none⟩ (sv A102 x104.2 c103), .cell ⟨g86, 3, none⟩ (sv A164 x166.2 c165)] (fun fb => by kernel_rfl) rfl ⟨hS238.cell 5 rfl 0 rfl, hS238.cell 5 rfl 1 rfl, hS238.cell 5 rfl 2 rfl, hS238.cell 0 rfl 0 rfl, hS238.cell 0 rfl 1 rfl, hS238.cell 0 rfl 2 rfl, hS238.cell 0 rfl 3 rfl, trivial⟩ ?_
   obtain ⟨t243, ht244, hx241⟩ := bind_some hx241
   refine WL.call (some 169) 36 #[(sv Aa p0 ca), (.agg #[(iv t215.1.Width), (iv t215.1.Height), (sv A220 t215.1.Cells c221)]), (.agg #[(sv A100 x104.1 c101), (sv A162 x166.1 c163), (sv A102 x104.2 c103), (sv A164 x166.2 c165)])] (fun fb => by kernel_rfl) (ref02_Has_calls _ p0 t215.1 (Edges.mk x104.1 x166.1 x104.2 x166.2) Aa ca A220 c221 A100 c101 A162 c163 A102 c103 A164 c165 t243 _ (hS238.rd 0) (hS238.ow 6).ofO (hS238.ow 1).ofO (hS238.ow 2).ofO (hS238.ow 3).ofO (hS238.ow 4).ofO ht244) (fun v w245 hR246 => ?_)
   obtain ⟨rfl, hk_⟩ := hR246
   have hS247 := hS238.keepN hk_
   refine ⟨trivial, ?_⟩
   refine seg 13 [] [170] [(170, (bv t243))] [] (fun fb => by kernel_rfl) rfl trivial ?_
   injection hx241 with hx241
   exact WL.to K t243 [170] rfl ⟨⟨(hS247.subR [0, 1, 2, 3, 4, 5]).sub [] (by decide), hx241.symm⟩, trivial⟩
  refine WL.setB 165 h242 rfl ?_
  refine seg 13 [] [170] [(170, (bv false))] [] (fun fb => by kernel_rfl) rfl trivial ?_
  injection hx241 with hx241
  exact WL.to K false [170] rfl ⟨⟨(hS238.subR [0, 1, 2, 3, 4, 5]).sub [] (by decide), hx241.symm⟩, trivial⟩
 rintro y248 w250 ⟨⟨hS251, hq249⟩, hF252⟩
 subst hq249
 refine seg 14 [] [171] [(171, (bv x240))] [] (fun fb => by kernel_rfl) rfl trivial ?_
 obtain ⟨x253, hx254, hf⟩ := bind_some hf
 refine WL.cutW (T := Bool) 16 (fun t => [(173, (bv t))]) (fun t w1 => (St NoS w w1 [rowR enc_Tile Aa ca p0, rowR encInt Ab cb p3.North, rowR encInt Ac cc p3.East, rowR encInt Ad cd p3.South, rowR encInt Ae ce p3.West, cel ⟨2, 0, none⟩ (iv mG)] [] ∧ x253 = t) ∧ CellsOK [] w1) (fun K => ?_) ?_
 ·
  rcases br_some hx254 with ⟨h255, hx254⟩ | ⟨h255, hx254⟩
  ·
   refine WL.setB 171 h255 rfl ?_
   obtain ⟨t256, ht257, hx254⟩ := bind_some hx254
   refine WL.call (some 172) 26 #[] (fun fb => by kernel_rfl) (law02_awake_calls _ mG t256 _ (hS251.rd 5) ht257) (fun v w258 hR259 => ?_)
   obtain ⟨rfl, hk_⟩ := hR259
   have hS260 := hS251.keepN hk_
   refine ⟨trivial, ?_⟩
   refine seg 16 [] [173] [(173, (bv t256))] [] (fun fb => by kernel_rfl) rfl trivial ?_
   injection hx254 with hx254
   exact WL.to K t256 [173] rfl ⟨⟨(hS260.subR [0, 1, 2, 3, 4, 5]).sub [] (by decide), hx254.symm⟩, trivial⟩
  refine WL.setB 171 h255 rfl ?_
  refine seg 16 [] [173] [(173, (bv false))] [] (fun fb => by kernel_rfl) rfl trivial ?_
  injection hx254 with hx254
  exact WL.to K false [173] rfl ⟨⟨(hS251.subR [0, 1, 2, 3, 4, 5]).sub [] (by decide), hx254.symm⟩, trivial⟩
 rintro y261 w263 ⟨⟨hS264, hq262⟩, hF265⟩
 subst hq262
 refine seg 17 [] [8] [(8, (bv x253))] [] (fun fb => by kernel_rfl) rfl trivial ?_
 refine WL.done rfl (WX.next ?_)
 refine WC.ret ?_
 injection hf with hf
 subst hf
 exact WX.ret_ [] (bv x253) [] (fun fb => by kernel_rfl) trivial ⟨_, rfl, rfl, hS264.keep⟩
end Gp
