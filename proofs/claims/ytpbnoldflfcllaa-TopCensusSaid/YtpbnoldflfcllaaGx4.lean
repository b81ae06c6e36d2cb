/- Walks: each function of the program computes its plain function. -/
import Derived.Test.YtpbnoldflfcllaaGx3
set_option linter.unusedVariables false
set_option linter.unusedSimpArgs false
set_option maxHeartbeats 4000000
set_option maxRecDepth 8000
namespace Gp
open Go Gw Go.Proofs
theorem tile_Form_calls (p0 : Pattern) (Aa : Option Addr) (ca : Nat) (r : Bool) (w : World) (hR0 : RO NoS w (rowR encInt Aa ca p0.Cells)) (hf : tile_Form p0 = some r) :
  CallsR Try.prog 69 #[(.agg #[(iv p0.Width), (iv p0.Height), (sv Aa p0.Cells ca)])] w (fun v w' => v = (bv r) ∧ Keeps NoS w w') := by
 have hS : St NoS w w [rowR encInt Aa ca p0.Cells] [] := St.init (ro_cons hR0 (ro_nil _ _))
 refine enter 40 Try.func69 rfl Try.ntmps69 rfl ?_
 unfold tile_Form at hf
 refine WC.seq (WC.region ?_)
 refine WL.new hS 1 [] (fun g => (pt g)) (.cells #[(iv p0.Width), (iv p0.Height), (sv Aa p0.Cells ca)] 39 (0, 0)) [] (fun fb g => by kernel_rfl) trivial (fun g1 w2 hS3 => ?_)
 refine ⟨trivial, ?_⟩
 refine sg 2 [] [1] [(1, (pt g1))] (by kernel_rfl) ?_
 refine WL.done rfl (WX.next (WC.seq (WC.region ?_)))
 refine seg 4 [.v (iv p0.Width)] [1, 6] [(1, (pt g1)), (6, (bv (decide (p0.Width ≥ 1))))] [.cell ⟨g1, 0, none⟩ (iv p0.Width)] (fun fb => by kernel_rfl) rfl ⟨hS3.cell 0 rfl 0 rfl, trivial⟩ ?_
 refine WL.cutV (T := Bool) 8 (fun t => [(10, (bv t)), (1, (pt g1))]) (fun t => ((decide (p0.Width ≥ 1)) && (decide (p0.Height ≥ 1))) = t) (fun K => ?_) ?_
 ·
  rcases Bool.eq_false_or_eq_true (decide (p0.Width ≥ 1)) with h4 | h4
  ·
   refine WL.setB 6 h4 rfl ?_
   refine seg 8 [.v (iv p0.Height)] [1, 10] [(1, (pt g1)), (10, (bv (decide (p0.Height ≥ 1))))] [.cell ⟨g1, 1, none⟩ (iv p0.Height)] (fun fb => by kernel_rfl) rfl ⟨hS3.cell 0 rfl 1 rfl, trivial⟩ ?_
   exact WL.toV K (decide (p0.Height ≥ 1)) [10, 1] rfl (by first | (rw [h4]; done) | (rw [h4]; rfl))
  refine WL.setB 6 h4 rfl ?_
  refine sg 8 [] [1, 10] [(1, (pt g1)), (10, (bv false))] (by kernel_rfl) ?_
  exact WL.toV K false [10, 1] rfl (by first | (rw [h4]; done) | (rw [h4]; rfl))
 rintro b5 rfl
 refine sg 9 [] [1, 11] [(1, (pt g1)), (11, (bv ((decide (p0.Width ≥ 1)) && (decide (p0.Height ≥ 1)))))] (by kernel_rfl) ?_
 refine WL.cutV (T := Bool) 13 (fun t => [(15, (bv t)), (1, (pt g1))]) (fun t => (((decide (p0.Width ≥ 1)) && (decide (p0.Height ≥ 1))) && (decide (p0.Width ≤ 40000))) = t) (fun K => ?_) ?_
 ·
  rcases Bool.eq_false_or_eq_true ((decide (p0.Width ≥ 1)) && (decide (p0.Height ≥ 1))) with h6 | h6
  ·
   refine WL.setB 11 h6 rfl ?_
   refine seg 13 [.v (iv p0.Width)] [1, 15] [(1, (pt g1)), (15, (bv (decide (p0.Width ≤ 40000))))] [.cell ⟨g1, 0, none⟩ (iv p0.Width)] (fun fb => by kernel_rfl) rfl ⟨hS3.cell 0 rfl 0 rfl, trivial⟩ ?_
   exact WL.toV K (decide (p0.Width ≤ 40000)) [15, 1] rfl (by first | (rw [h6]; done) | (rw [h6]; rfl))
  refine WL.setB 11 h6 rfl ?_
  refine sg 13 [] [1, 15] [(1, (pt g1)), (15, (bv false))] (by kernel_rfl) ?_
  exact WL.toV K false [15, 1] rfl (by first | (rw [h6]; done) | (rw [h6]; rfl))
 rintro b7 rfl
 refine sg 14 [] [1, 16] [(1, (pt g1)), (16, (bv (((decide (p0.Width ≥ 1)) && (decide (p0.Height ≥ 1))) && (decide (p0.Width ≤ 40000)))))] (by kernel_rfl) ?_
 refine WL.cutV (T := Bool) 18 (fun t => [(20, (bv t)), (1, (pt g1))]) (fun t => ((((decide (p0.Width ≥ 1)) && (decide (p0.Height ≥ 1))) && (decide (p0.Width ≤ 40000))) && (decide (p0.Height ≤ 40000))) = t) (fun K => ?_) ?_
 ·
  rcases Bool.eq_false_or_eq_true (((decide (p0.Width ≥ 1)) && (decide (p0.Height ≥ 1))) && (decide (p0.Width ≤ 40000))) with h8 | h8
  ·
   refine WL.setB 16 h8 rfl ?_
   refine seg 18 [.v (iv p0.Height)] [1, 20] [(1, (pt g1)), (20, (bv (decide (p0.Height ≤ 40000))))] [.cell ⟨g1, 1, none⟩ (iv p0.Height)] (fun fb => by kernel_rfl) rfl ⟨hS3.cell 0 rfl 1 rfl, trivial⟩ ?_
   exact WL.toV K (decide (p0.Height ≤ 40000)) [20, 1] rfl (by first | (rw [h8]; done) | (rw [h8]; rfl))
  refine WL.setB 16 h8 rfl ?_
  refine sg 18 [] [1, 20] [(1, (pt g1)), (20, (bv false))] (by kernel_rfl) ?_
  exact WL.toV K false [20, 1] rfl (by first | (rw [h8]; done) | (rw [h8]; rfl))
 rintro b9 rfl
 refine sg 19 [] [1, 21] [(1, (pt g1)), (21, (bv ((((decide (p0.Width ≥ 1)) && (decide (p0.Height ≥ 1))) && (decide (p0.Width ≤ 40000))) && (decide (p0.Height ≤ 40000)))))] (by kernel_rfl) ?_
 refine WL.cutV (T := Bool) 26 (fun t => [(28, (bv t)), (1, (pt g1))]) (fun t => (((((decide (p0.Width ≥ 1)) && (decide (p0.Height ≥ 1))) && (decide (p0.Width ≤ 40000))) && (decide (p0.Height ≤ 40000))) && (decide (w64 (p0.Width * p0.Height) ≤ 40000))) = t) (fun K => ?_) ?_
 ·
  rcases Bool.eq_false_or_eq_true ((((decide (p0.Width ≥ 1)) && (decide (p0.Height ≥ 1))) && (decide (p0.Width ≤ 40000))) && (decide (p0.Height ≤ 40000))) with h10 | h10
  ·
   refine WL.setB 21 h10 rfl ?_
   refine seg 26 [.v (iv p0.Width), .v (iv p0.Height)] [1, 28] [(1, (pt g1)), (28, (bv (decide (w64 (p0.Width * p0.Height) ≤ 40000))))] [.cell ⟨g1, 0, none⟩ (iv p0.Width), .cell ⟨g1, 1, none⟩ (iv p0.Height)] (fun fb => by kernel_rfl) rfl ⟨hS3.cell 0 rfl 0 rfl, hS3.cell 0 rfl 1 rfl, trivial⟩ ?_
   exact WL.toV K (decide (w64 (p0.Width * p0.Height) ≤ 40000)) [28, 1] rfl (by first | (rw [h10]; done) | (rw [h10]; rfl))
  refine WL.setB 21 h10 rfl ?_
  refine sg 26 [] [1, 28] [(1, (pt g1)), (28, (bv false))] (by kernel_rfl) ?_
  exact WL.toV K false [28, 1] rfl (by first | (rw [h10]; done) | (rw [h10]; rfl))
 rintro b11 rfl
 refine sg 27 [] [1, 29] [(1, (pt g1)), (29, (bv (((((decide (p0.Width ≥ 1)) && (decide (p0.Height ≥ 1))) && (decide (p0.Width ≤ 40000))) && (decide (p0.Height ≤ 40000))) && (decide (w64 (p0.Width * p0.Height) ≤ 40000)))))] (by kernel_rfl) ?_
 refine WL.cutV (T := Bool) 37 (fun t => [(39, (bv t))]) (fun t => ((((((decide (p0.Width ≥ 1)) && (decide (p0.Height ≥ 1))) && (decide (p0.Width ≤ 40000))) && (decide (p0.Height ≤ 40000))) && (decide (w64 (p0.Width * p0.Height) ≤ 40000))) && ((p0.Cells.length : Int) == (w64 (p0.Width * p0.Height)))) = t) (fun K => ?_) ?_
 ·
  rcases Bool.eq_false_or_eq_true (((((decide (p0.Width ≥ 1)) && (decide (p0.Height ≥ 1))) && (decide (p0.Width ≤ 40000))) && (decide (p0.Height ≤ 40000))) && (decide (w64 (p0.Width * p0.Height) ≤ 40000))) with h12 | h12
  ·
   refine WL.setB 29 h12 rfl ?_
   refine seg 37 [.v (sv Aa p0.Cells ca), .v (iv p0.Width), .v (iv p0.Height)] [39] [(39, (bv ((p0.Cells.length : Int) == (w64 (p0.Width * p0.Height)))))] [.cell ⟨g1, 2, none⟩ (sv Aa p0.Cells ca), .cell ⟨g1, 0, none⟩ (iv p0.Width), .cell ⟨g1, 1, none⟩ (iv p0.Height)] (fun fb => by kernel_rfl) rfl ⟨hS3.cell 0 rfl 2 rfl, hS3.cell 0 rfl 0 rfl, hS3.cell 0 rfl 1 rfl, trivial⟩ ?_
   exact WL.toV K ((p0.Cells.length : Int) == (w64 (p0.Width * p0.Height))) [39] rfl (by first | (rw [h12]; done) | (rw [h12]; rfl))
  refine WL.setB 29 h12 rfl ?_
  refine sg 37 [] [39] [(39, (bv false))] (by kernel_rfl) ?_
  exact WL.toV K false [39] rfl (by first | (rw [h12]; done) | (rw [h12]; rfl))
 rintro b13 rfl
 refine sg 38 [] [2] [(2, (bv ((((((decide (p0.Width ≥ 1)) && (decide (p0.Height ≥ 1))) && (decide (p0.Width ≤ 40000))) && (decide (p0.Height ≤ 40000))) && (decide (w64 (p0.Width * p0.Height) ≤ 40000))) && ((p0.Cells.length : Int) == (w64 (p0.Width * p0.Height))))))] (by kernel_rfl) ?_
 refine WL.done rfl (WX.next ?_)
 refine WC.ret ?_
 injection hf with hf
 subst hf
 exact WX.ret_ [] (bv ((((((decide (p0.Width ≥ 1)) && (decide (p0.Height ≥ 1))) && (decide (p0.Width ≤ 40000))) && (decide (p0.Height ≤ 40000))) && (decide (w64 (p0.Width * p0.Height) ≤ 40000))) && ((p0.Cells.length : Int) == (w64 (p0.Width * p0.Height))))) [] (fun fb => by kernel_rfl) trivial ⟨_, rfl, rfl, hS3.keep⟩
theorem tile_Repeat_calls (k : Nat) (p0 : Pattern) (p1 : Int) (p2 : Int) (Aa : Option Addr) (ca : Nat) (r : Pattern × Int) (w : World) (hR0 : RO NoS w (rowR encInt Aa ca p0.Cells)) (hf : tile_Repeat k p0 p1 p2 = some r) :
  CallsR Try.prog 49 #[(.agg #[(iv p0.Width), (iv p0.Height), (sv Aa p0.Cells ca)]), (iv p1), (iv p2)] w (fun v w' => ∃ (A1_ : Option Addr), ∃ (c1_ : Nat), v = (.tuple #[(.agg #[(iv r.1.Width), (iv r.1.Height), (sv A1_ r.1.Cells c1_)]), (iv r.2)]) ∧ St NoS w w' [] [rowO 3 encInt A1_ c1_ r.1.Cells]) := by
 have hS : St NoS w w [rowR encInt Aa ca p0.Cells] [] := St.init (ro_cons hR0 (ro_nil _ _))
 refine enter 70 Try.func49 rfl Try.ntmps49 rfl ?_
 unfold tile_Repeat at hf
 refine WC.seq (WC.region ?_)
 refine WL.new hS 3 [] (fun g => (pt g)) (.cells #[(iv p0.Width), (iv p0.Height), (sv Aa p0.Cells ca)] 39 (0, 0)) [] (fun fb g => by kernel_rfl) trivial (fun g3 w4 hS5 => ?_)
 refine ⟨trivial, ?_⟩
 refine WL.new hS5 6 [] (fun g => (pt g)) (.cells #[(iv 0), (iv 0), (.slice none 0 0)] 39 (0, 0)) [] (fun fb g => by kernel_rfl) trivial (fun g6 w7 hS8 => ?_)
 refine ⟨trivial, ?_⟩
 refine sg 3 [] [1, 2, 3, 6] [(1, (iv p1)), (2, (iv p2)), (3, (pt g3)), (6, (pt g6))] (by kernel_rfl) ?_
 refine WL.done rfl (WX.next (WC.seq (WC.seq (WC.region ?_))))
 refine seg 1 [.v (iv p0.Width), .v (iv p0.Height), .v (sv Aa p0.Cells ca)] [1, 2, 3, 6, 11] [(1, (iv p1)), (2, (iv p2)), (3, (pt g3)), (6, (pt g6)), (11, (.agg #[(iv p0.Width), (iv p0.Height), (sv Aa p0.Cells ca)]))] [.cell ⟨g3, 0, none⟩ (iv p0.Width), .cell ⟨g3, 1, none⟩ (iv p0.Height), .cell ⟨g3, 2, none⟩ (sv Aa p0.Cells ca)] (fun fb => by kernel_rfl) rfl ⟨hS8.cell 1 rfl 0 rfl, hS8.cell 1 rfl 1 rfl, hS8.cell 1 rfl 2 rfl, trivial⟩ ?_
 obtain ⟨t9, ht10, hf⟩ := bind_some hf
 refine WL.call (some 12) 69 #[(.agg #[(iv p0.Width), (iv p0.Height), (sv Aa p0.Cells ca)])] (fun fb => by kernel_rfl) (tile_Form_calls p0 Aa ca t9 _ (hS8.rd 0) ht10) (fun v w11 hR12 => ?_)
 obtain ⟨rfl, hk_⟩ := hR12
 have hS13 := hS8.keepN hk_
 refine ⟨trivial, ?_⟩
 refine sg 3 [] [1, 2, 3, 6, 13] [(1, (iv p1)), (2, (iv p2)), (3, (pt g3)), (6, (pt g6)), (13, (bv (!t9)))] (by kernel_rfl) ?_
 refine WL.done rfl (WX.next ?_)
 rcases br_some hf with ⟨h14, hf⟩ | ⟨h14, hf⟩
 ·refine WC.condT2 (fun fb => by kernel_rfl) h14 ?_
  refine WC.seq (WC.region ?_)
  refine sg 1 [] [6, 14] [(6, (pt g6)), (14, (.agg #[(iv 0), (iv 0), (.slice none 0 0)]))] (by kernel_rfl) ?_
  refine WL.store hS13 0 rfl [(0, (iv 0)), (1, (iv 0)), (2, (.slice none 0 0))] #[(iv 0), (iv 0), (.slice none 0 0)] (fun fb => by kernel_rfl) (by kernel_rfl) rfl [1] (by decide) (by decide) (fun w15 hS16 => ?_)
  refine ⟨trivial, ?_⟩
  refine sg 3 [] [6, 7] [(6, (pt g6)), (7, (iv 1))] (by kernel_rfl) ?_
  refine WL.done rfl (WX.next ?_)
  refine WC.ret ?_
  have hS17 := hS16.nilrow 3 encInt
  injection hf with hf
  subst hf
  exact WX.thenR (WX.ret_ [.v (iv 0), .v (iv 0), .v (.slice none 0 0)] (.tuple #[(.agg #[(iv 0), (iv 0), (sv none ([] : List Int) 0)]), (iv 1)]) [.cell ⟨g6, 0, none⟩ (iv 0), .cell ⟨g6, 1, none⟩ (iv 0), .cell ⟨g6, 2, none⟩ (.slice none 0 0)] (fun fb => by kernel_rfl) ⟨hS16.cell 0 rfl 0 rfl, hS16.cell 0 rfl 1 rfl, hS16.cell 0 rfl 2 rfl, trivial⟩ ⟨_, rfl, none, 0, rfl, (hS17.sub [0] (by decide)).noR⟩)
 refine WC.condF2 (fun fb => by kernel_rfl) h14 ?_
 refine WC.skip (WX.next (WC.seq (WC.seq (WC.region ?_))))
 refine sg 3 [] [1, 2, 3, 6, 17] [(1, (iv p1)), (2, (iv p2)), (3, (pt g3)), (6, (pt g6)), (17, (bv (decide (p1 < 1))))] (by kernel_rfl) ?_
 refine WL.cutV (T := Bool) 6 (fun t => [(20, (bv t)), (1, (iv p1)), (2, (iv p2)), (3, (pt g3)), (6, (pt g6))]) (fun t => ((decide (p1 < 1)) || (decide (p2 < 1))) = t) (fun K => ?_) ?_
 ·
  rcases Bool.eq_false_or_eq_true (decide (p1 < 1)) with h18 | h18
  ·
   refine WL.setB 17 h18 rfl ?_
   refine sg 6 [] [1, 2, 3, 6, 20] [(1, (iv p1)), (2, (iv p2)), (3, (pt g3)), (6, (pt g6)), (20, (bv true))] (by kernel_rfl) ?_
   exact WL.toV K true [20, 1, 2, 3, 6] rfl (by first | (rw [h18]; done) | (rw [h18]; rfl))
  refine WL.setB 17 h18 rfl ?_
  refine sg 6 [] [1, 2, 3, 6, 20] [(1, (iv p1)), (2, (iv p2)), (3, (pt g3)), (6, (pt g6)), (20, (bv (decide (p2 < 1))))] (by kernel_rfl) ?_
  exact WL.toV K (decide (p2 < 1)) [20, 1, 2, 3, 6] rfl (by first | (rw [h18]; done) | (rw [h18]; rfl))
 rintro b19 rfl
 refine WL.done rfl (WX.next ?_)
 rcases br_some hf with ⟨h20, hf⟩ | ⟨h20, hf⟩
 ·refine WC.condT2 (fun fb => by kernel_rfl) h20 ?_
  refine WC.seq (WC.region ?_)
  refine sg 1 [] [6, 21] [(6, (pt g6)), (21, (.agg #[(iv 0), (iv 0), (.slice none 0 0)]))] (by kernel_rfl) ?_
  refine WL.store hS13 0 rfl [(0, (iv 0)), (1, (iv 0)), (2, (.slice none 0 0))] #[(iv 0), (iv 0), (.slice none 0 0)] (fun fb => by kernel_rfl) (by kernel_rfl) rfl [1] (by decide) (by decide) (fun w21 hS22 => ?_)
  refine ⟨trivial, ?_⟩
  refine sg 3 [] [6, 7] [(6, (pt g6)), (7, (iv 2))] (by kernel_rfl) ?_
  refine WL.done rfl (WX.next ?_)
  refine WC.ret ?_
  have hS23 := hS22.nilrow 3 encInt
  injection hf with hf
  subst hf
  exact WX.thenR (WX.ret_ [.v (iv 0), .v (iv 0), .v (.slice none 0 0)] (.tuple #[(.agg #[(iv 0), (iv 0), (sv none ([] : List Int) 0)]), (iv 2)]) [.cell ⟨g6, 0, none⟩ (iv 0), .cell ⟨g6, 1, none⟩ (iv 0), .cell ⟨g6, 2, none⟩ (.slice none 0 0)] (fun fb => by kernel_rfl) ⟨hS22.cell 0 rfl 0 rfl, hS22.cell 0 rfl 1 rfl, hS22.cell 0 rfl 2 rfl, trivial⟩ ⟨_, rfl, none, 0, rfl, (hS23.sub [0] (by decide)).noR⟩)
 refine WC.condF2 (fun fb => by kernel_rfl) h20 ?_
 refine WC.skip (WX.next (WC.seq (WC.seq (WC.region ?_))))
 refine sg 3 [] [1, 2, 3, 6, 24] [(1, (iv p1)), (2, (iv p2)), (3, (pt g3)), (6, (pt g6)), (24, (bv (decide (p1 > 40000))))] (by kernel_rfl) ?_
 refine WL.cutV (T := Bool) 6 (fun t => [(27, (bv t)), (1, (iv p1)), (2, (iv p2)), (3, (pt g3)), (6, (pt g6))]) (fun t => ((decide (p1 > 40000)) || (decide (p2 > 40000))) = t) (fun K => ?_) ?_
 ·
  rcases Bool.eq_false_or_eq_true (decide (p1 > 40000)) with h24 | h24
  ·
   refine WL.setB 24 h24 rfl ?_
   refine sg 6 [] [1, 2, 3, 6, 27] [(1, (iv p1)), (2, (iv p2)), (3, (pt g3)), (6, (pt g6)), (27, (bv true))] (by kernel_rfl) ?_
   exact WL.toV K true [27, 1, 2, 3, 6] rfl (by first | (rw [h24]; done) | (rw [h24]; rfl))
  refine WL.setB 24 h24 rfl ?_
  refine sg 6 [] [1, 2, 3, 6, 27] [(1, (iv p1)), (2, (iv p2)), (3, (pt g3)), (6, (pt g6)), (27, (bv (decide (p2 > 40000))))] (by kernel_rfl) ?_
  exact WL.toV K (decide (p2 > 40000)) [27, 1, 2, 3, 6] rfl (by first | (rw [h24]; done) | (rw [h24]; rfl))
 rintro b25 rfl
 refine sg 7 [] [1, 2, 3, 6, 28] [(1, (iv p1)), (2, (iv p2)), (3, (pt g3)), (6, (pt g6)), (28, (bv ((decide (p1 > 40000)) || (decide (p2 > 40000)))))] (by kernel_rfl) ?_
 refine WL.cutV (T := Bool) 12 (fun t => [(33, (bv t)), (1, (iv p1)), (2, (iv p2)), (3, (pt g3)), (6, (pt g6))]) (fun t => (((decide (p1 > 40000)) || (decide (p2 > 40000))) || (decide (w64 (p1 * p2) > 40000))) = t) (fun K => ?_) ?_
 ·
  rcases Bool.eq_false_or_eq_true ((decide (p1 > 40000)) || (decide (p2 > 40000))) with h26 | h26
  ·
   refine WL.setB 28 h26 rfl ?_
   refine sg 12 [] [1, 2, 3, 6, 33] [(1, (iv p1)), (2, (iv p2)), (3, (pt g3)), (6, (pt g6)), (33, (bv true))] (by kernel_rfl) ?_
   exact WL.toV K true [33, 1, 2, 3, 6] rfl (by first | (rw [h26]; done) | (rw [h26]; rfl))
  refine WL.setB 28 h26 rfl ?_
  refine sg 12 [] [1, 2, 3, 6, 33] [(1, (iv p1)), (2, (iv p2)), (3, (pt g3)), (6, (pt g6)), (33, (bv (decide (w64 (p1 * p2) > 40000))))] (by kernel_rfl) ?_
  exact WL.toV K (decide (w64 (p1 * p2) > 40000)) [33, 1, 2, 3, 6] rfl (by first | (rw [h26]; done) | (rw [h26]; rfl))
 rintro b27 rfl
 refine WL.done rfl (WX.next ?_)
 rcases br_some hf with ⟨h28, hf⟩ | ⟨h28, hf⟩
 ·refine WC.condT2 (fun fb => by kernel_rfl) h28 ?_
  refine WC.seq (WC.region ?_)
  refine sg 1 [] [6, 34] [(6, (pt g6)), (34, (.agg #[(iv 0), (iv 0), (.slice none 0 0)]))] (by kernel_rfl) ?_
  refine WL.store hS13 0 rfl [(0, (iv 0)), (1, (iv 0)), (2, (.slice none 0 0))] #[(iv 0), (iv 0), (.slice none 0 0)] (fun fb => by kernel_rfl) (by kernel_rfl) rfl [1] (by decide) (by decide) (fun w29 hS30 => ?_)
  refine ⟨trivial, ?_⟩
  refine sg 3 [] [6, 7] [(6, (pt g6)), (7, (iv 4))] (by kernel_rfl) ?_
  refine WL.done rfl (WX.next ?_)
  refine WC.ret ?_
  have hS31 := hS30.nilrow 3 encInt
  injection hf with hf
  subst hf
  exact WX.thenR (WX.ret_ [.v (iv 0), .v (iv 0), .v (.slice none 0 0)] (.tuple #[(.agg #[(iv 0), (iv 0), (sv none ([] : List Int) 0)]), (iv 4)]) [.cell ⟨g6, 0, none⟩ (iv 0), .cell ⟨g6, 1, none⟩ (iv 0), .cell ⟨g6, 2, none⟩ (.slice none 0 0)] (fun fb => by kernel_rfl) ⟨hS30.cell 0 rfl 0 rfl, hS30.cell 0 rfl 1 rfl, hS30.cell 0 rfl 2 rfl, trivial⟩ ⟨_, rfl, none, 0, rfl, (hS31.sub [0] (by decide)).noR⟩)
 refine WC.condF2 (fun fb => by kernel_rfl) h28 ?_
 refine WC.skip (WX.next (WC.seq (WC.region ?_)))
 refine sg 3 [] [1, 2, 3, 6, 37] [(1, (iv p1)), (2, (iv p2)), (3, (pt g3)), (6, (pt g6)), (37, (.agg #[(iv p1), (iv p2), (.slice none 0 0)]))] (by kernel_rfl) ?_
 refine WL.new hS13 8 [] (fun g => (pt g)) (.cells #[(iv 0), (iv 0), (.slice none 0 0)] 39 (0, 0)) [] (fun fb g => by kernel_rfl) trivial (fun g32 w33 hS34 => ?_)
 refine ⟨trivial, ?_⟩
 refine WL.store hS34 0 rfl [(0, (iv p1)), (1, (iv p2)), (2, (.slice none 0 0))] #[(iv p1), (iv p2), (.slice none 0 0)] (fun fb => by kernel_rfl) (by kernel_rfl) rfl [1, 2] (by decide) (by decide) (fun w35 hS36 => ?_)
 refine ⟨trivial, ?_⟩
 refine WL.done rfl (WX.next (WC.seq (WC.seq (WC.region ?_))))
 refine sg 2 [] [1, 3, 6, 8, 38, 39] [(1, (iv p1)), (3, (pt g3)), (6, (pt g6)), (8, (pt g32)), (38, (iv p2)), (39, (iv 0))] (by kernel_rfl) ?_
 refine WL.done rfl (WX.next ?_)
 have hS37 := hS36.nilrow 3 encInt
 obtain ⟨x44, hx45, hf⟩ := bind_some hf
 refine WC.cutN (T := (List Int) × (Option Addr) × Nat) (fun t => [(6, (pt g6)), (8, (pt g32))]) (fun t w1 => St NoS w w1 [rowR encInt Aa ca p0.Cells] [blk g6 (.cells #[(iv 0), (iv 0), (.slice none 0 0)] 39 (0, 0)), blk g32 (.cells #[(iv p1), (iv p2), (sv t.2.1 t.1 t.2.2)] 39 (0, 0)), rowO 3 encInt t.2.1 t.2.2 t.1] ∧ x44 = t.1) (fun Kx44 => ?_) ?_
 ·
  refine WC.block ?_
  refine WC.loop (T := ((List Int) × Int) × (Option Addr) × Nat) (fun t => [(1, (iv p1)), (3, (pt g3)), (6, (pt g6)), (8, (pt g32)), (38, (iv p2)), (39, (iv t.1.2))]) (fun n t w1 => St NoS w w1 [rowR encInt Aa ca p0.Cells] [blk g3 (.cells #[(iv p0.Width), (iv p0.Height), (sv Aa p0.Cells ca)] 39 (0, 0)), blk g6 (.cells #[(iv 0), (iv 0), (.slice none 0 0)] 39 (0, 0)), blk g32 (.cells #[(iv p1), (iv p2), (sv t.2.1 t.1.1 t.2.2)] 39 (0, 0)), rowO 3 encInt t.2.1 t.2.2 t.1.1] ∧ tile_Repeat.l0 n t.1.1 t.1.2 p0 p1 p2 = some x44) k ((([] : List Int), 0), none, 0) [1, 3, 6, 8, 38, 39] rfl ⟨(hS37.subR [0]).sub [3, 2, 1, 0] (by decide), hx45⟩ ?_
  rintro k46 ⟨⟨l40, x41⟩, A38, c39⟩ w47 ⟨hS48, hl50⟩
  cases k46 with
  | zero => rw [tile_Repeat.l0] at hl50; cases hl50
  | succ k46 =>
   rw [tile_Repeat.l0] at hl50
   refine WC.seq (WC.region ?_)
   refine sg 1 [] [1, 3, 6, 8, 38, 39, 40] [(1, (iv p1)), (3, (pt g3)), (6, (pt g6)), (8, (pt g32)), (38, (iv p2)), (39, (iv x41)), (40, (bv (decide (x41 < p2))))] (by kernel_rfl) ?_
   refine WL.done rfl (WX.next (WC.seq ?_))
   rcases br_some hl50 with ⟨h51, hl50⟩ | ⟨h51, hl50⟩
   ·refine WC.condT2 (fun fb => by kernel_rfl) h51 ?_
    refine WC.skip (WX.next (WC.seq (WC.block (WC.seq (WC.region ?_)))))
    refine sg 2 [] [1, 3, 6, 8, 9, 38, 39] [(1, (iv p1)), (3, (pt g3)), (6, (pt g6)), (8, (pt g32)), (9, (iv x41)), (38, (iv p2)), (39, (iv x41))] (by kernel_rfl) ?_
    refine WL.done rfl (WX.next (WC.seq (WC.region ?_)))
    refine sg 2 [] [1, 3, 6, 8, 9, 38, 39, 42, 43] [(1, (iv p1)), (3, (pt g3)), (6, (pt g6)), (8, (pt g32)), (9, (iv x41)), (38, (iv p2)), (39, (iv x41)), (42, (iv p1)), (43, (iv 0))] (by kernel_rfl) ?_
    refine WL.done rfl (WX.next ?_)
    obtain ⟨x58, hx59, hl50⟩ := bind_some hl50
    refine WC.cutN (T := (List Int) × (Option Addr) × Nat) (fun t => [(1, (iv p1)), (3, (pt g3)), (6, (pt g6)), (8, (pt g32)), (38, (iv p2)), (39, (iv x41))]) (fun t w1 => St NoS w w1 [rowR encInt Aa ca p0.Cells] [blk g3 (.cells #[(iv p0.Width), (iv p0.Height), (sv Aa p0.Cells ca)] 39 (0, 0)), blk g6 (.cells #[(iv 0), (iv 0), (.slice none 0 0)] 39 (0, 0)), blk g32 (.cells #[(iv p1), (iv p2), (sv t.2.1 t.1 t.2.2)] 39 (0, 0)), rowO 3 encInt t.2.1 t.2.2 t.1] ∧ x58 = t.1) (fun Kx58 => ?_) ?_
    ·
     refine WC.block ?_
     refine WC.loop (T := ((List Int) × Int) × (Option Addr) × Nat) (fun t => [(1, (iv p1)), (3, (pt g3)), (6, (pt g6)), (8, (pt g32)), (9, (iv x41)), (38, (iv p2)), (39, (iv x41)), (42, (iv p1)), (43, (iv t.1.2))]) (fun n t w1 => St NoS w w1 [rowR encInt Aa ca p0.Cells] [blk g3 (.cells #[(iv p0.Width), (iv p0.Height), (sv Aa p0.Cells ca)] 39 (0, 0)), blk g6 (.cells #[(iv 0), (iv 0), (.slice none 0 0)] 39 (0, 0)), blk g32 (.cells #[(iv p1), (iv p2), (sv t.2.1 t.1.1 t.2.2)] 39 (0, 0)), rowO 3 encInt t.2.1 t.2.2 t.1.1] ∧ tile_Repeat.l1 n t.1.1 t.1.2 p0 p1 x41 = some x58) k46 ((l40, 0), A38, c39) [1, 3, 6, 8, 9, 38, 39, 42, 43] rfl ⟨(hS48.subR [0]).sub [0, 1, 2, 3] (by decide), hx59⟩ ?_
     rintro k60 ⟨⟨l54, x55⟩, A52, c53⟩ w61 ⟨hS62, hl63⟩
     cases k60 with
     | zero => rw [tile_Repeat.l1] at hl63; cases hl63
     | succ k60 =>
      rw [tile_Repeat.l1] at hl63
      refine WC.seq (WC.region ?_)
      refine sg 1 [] [1, 3, 6, 8, 9, 38, 39, 42, 43, 44] [(1, (iv p1)), (3, (pt g3)), (6, (pt g6)), (8, (pt g32)), (9, (iv x41)), (38, (iv p2)), (39, (iv x41)), (42, (iv p1)), (43, (iv x55)), (44, (bv (decide (x55 < p1))))] (by kernel_rfl) ?_
      refine WL.done rfl (WX.next (WC.seq ?_))
      rcases br_some hl63 with ⟨h65, hl63⟩ | ⟨h65, hl63⟩
      ·refine WC.condT2 (fun fb => by kernel_rfl) h65 ?_
       refine WC.skip (WX.next (WC.seq (WC.block (WC.seq (WC.region ?_)))))
       refine sg 2 [] [1, 3, 6, 8, 9, 10, 38, 39, 42, 43] [(1, (iv p1)), (3, (pt g3)), (6, (pt g6)), (8, (pt g32)), (9, (iv x41)), (10, (iv x55)), (38, (iv p2)), (39, (iv x41)), (42, (iv p1)), (43, (iv x55))] (by kernel_rfl) ?_
       refine WL.done rfl (WX.next ?_)
       obtain ⟨h68, hl63⟩ := as_some hl63
       obtain ⟨h69, hl63⟩ := as_some hl63
       obtain ⟨h70, hl63⟩ := as_some hl63
       refine WC.regionD ([(1, ⟨g32, 2, none⟩, (sv A52 l54 c53)), (3, ⟨g3, 2, none⟩, (sv Aa p0.Cells ca)), (6, ⟨g3, 1, none⟩, (iv p0.Height)), (9, ⟨g3, 0, none⟩, (iv p0.Width)), (13, ⟨g3, 0, none⟩, (iv p0.Width)), (17, ((adr Aa).add ((w64 ((w64 ((Int.tmod x41 p0.Height) * p0.Width)) + (Int.tmod x55 p0.Width))).toNat * 1)), (iv (rdD p0.Cells (w64 ((w64 ((Int.tmod x41 p0.Height) * p0.Width)) + (Int.tmod x55 p0.Width))) 0)))], [0, 1, 2, 3, 4, 5, 6, 7, 8, 9, 10, 11, 12, 13, 14, 15, 16, 17, 20], [[], [0], [], [2], [], [], [5], [4, 5, 6], [], [8], [4, 5, 6, 7, 8, 9], [], [], [12], [11, 12, 13], [4, 5, 6, 7, 8, 9, 10, 11, 12, 13, 14], [2, 3, 4, 5, 6, 7, 8, 9, 10, 11, 12, 13, 14, 15], [2, 3, 4, 5, 6, 7, 8, 9, 10, 11, 12, 13, 14, 15, 16], [2, 3, 4, 5, 6, 7, 8, 9, 10, 11, 12, 13, 14, 15, 16, 17], [0, 1, 2, 3, 4, 5, 6, 7, 8, 9, 10, 11, 12, 13, 14, 15, 16, 17, 18], [0, 1, 2, 3, 4, 5, 6, 7, 8, 9, 10, 11, 12, 13, 14, 15, 16, 17, 18, 19], [0, 1, 2, 3, 4, 5, 6, 7, 8, 9, 10, 11, 12, 13, 14, 15, 16, 17, 18, 19, 20]]) [[0, 1, 2, 3, 4, 5, 6, 7, 8, 9, 10, 11, 12, 13, 14, 15, 16, 17, 18, 19, 20, 21]] (by kernel_rfl) (by kernel_rfl) (NoPanic.block (NoPanic.seq (NoPanic.seq (NoPanic.block (NoPanic.block (NoPanic.seq (NoPanic.seq (NoPanic.block (NoPanic.seq (NoPanic.body)))))))))) ?_
       have hS67 := hS62.drew
       revert hS67
       generalize World.drew w61 = w66
       intro hS67
       refine ⟨⟨hS67.cell 2 rfl 2 rfl, hS67.cell 0 rfl 2 rfl, hS67.cell 0 rfl 1 rfl, hS67.cell 0 rfl 0 rfl, hS67.cell 0 rfl 0 rfl, rowR.cell (hS67.rd 0).1 0 h70.1 h70.2 0 rfl, trivial⟩, forallC ?_ (forallN)⟩
       refine segF 18 [.v (sv A52 l54 c53), .v (sv Aa p0.Cells ca), .v (iv p0.Height), .v (iv p0.Width), .v (iv p0.Width), .v (iv (rdD p0.Cells (w64 ((w64 ((Int.tmod x41 p0.Height) * p0.Width)) + (Int.tmod x55 p0.Width))) 0))] [1, 3, 6, 8, 9, 38, 39, 42, 43, 47, 63] [(1, (iv p1)), (3, (pt g3)), (6, (pt g6)), (8, (pt g32)), (9, (iv x41)), (38, (iv p2)), (39, (iv x41)), (42, (iv p1)), (43, (iv x55)), (47, (sv A52 l54 c53)), (63, (iv (rdD p0.Cells (w64 ((w64 ((Int.tmod x41 p0.Height) * p0.Width)) + (Int.tmod x55 p0.Width))) 0)))] [.ne p0.Height, .ne p0.Width, .idx Aa (w64 ((w64 ((Int.tmod x41 p0.Height) * p0.Width)) + (Int.tmod x55 p0.Width))) p0.Cells.length] [0, 1, 2, 3, 4, 5] [(1, ⟨g32, 2, none⟩, (sv A52 l54 c53)), (3, ⟨g3, 2, none⟩, (sv Aa p0.Cells ca)), (6, ⟨g3, 1, none⟩, (iv p0.Height)), (9, ⟨g3, 0, none⟩, (iv p0.Width)), (13, ⟨g3, 0, none⟩, (iv p0.Width)), (17, ((adr Aa).add ((w64 ((w64 ((Int.tmod x41 p0.Height) * p0.Width)) + (Int.tmod x55 p0.Width))).toNat * 1)), (iv (rdD p0.Cells (w64 ((w64 ((Int.tmod x41 p0.Height) * p0.Width)) + (Int.tmod x55 p0.Width))) 0)))] (fun fb => by kernel_rfl) rfl ⟨h68, h69, rowR.adr (hS67.rd 0).1 h70.1 h70.2, trivial⟩ rfl ?_
       refine WL.new hS67 64 [] (fun g => (.slice (some ⟨g, 0, none⟩) 1 1)) (.cells #[(iv (rdD p0.Cells (w64 ((w64 ((Int.tmod x41 p0.Height) * p0.Width)) + (Int.tmod x55 p0.Width))) 0))] 3 (0, 0)) [] (fun fb g => by kernel_rfl) trivial (fun g71 w72 hS73 => ?_)
       refine ⟨⟨hS73.cell 3 rfl 2 rfl, trivial⟩, ?_⟩
       have hS74 := hS.go w72 [rowO 3 encInt (some ⟨g71, 0, none⟩) 1 [(rdD p0.Cells (w64 ((w64 ((Int.tmod x41 p0.Height) * p0.Width)) + (Int.tmod x55 p0.Width))) 0)], blk g3 (.cells #[(iv p0.Width), (iv p0.Height), (sv Aa p0.Cells ca)] 39 (0, 0)), blk g6 (.cells #[(iv 0), (iv 0), (.slice none 0 0)] 39 (0, 0)), blk g32 (.cells #[(iv p1), (iv p2), (sv A52 l54 c53)] 39 (0, 0)), rowO 3 encInt A52 c53 l54] (hS73.map1 0 _ (fun h => rowO.ofBlk h rfl (Nat.le_of_ble_eq_true (by kernel_rfl))) (fun _ h => by obtain ⟨_, h1, h2⟩ := h; injection h1 with h1; subst h1; exact h2) [1, 2, 3, 4] (by decide) (by decide))
       obtain ⟨h75, hl63⟩ := as_some hl63
       refine WL.append hS74 4 (d := 65) (tS := 37) (z := (iv 0)) (bytes := 8) (c2 := 1) rfl (fun fb => by kernel_rfl) (rowO.rd (hS74.own 0).1) (by kernel_rfl) (by kernel_rfl) rfl (by decide) h75 (by decide) [0, 1, 2, 3] (by decide) (by decide) (fun A76 c77 w78 hS79 => ?_)
       refine ⟨trivial, ?_⟩
       refine sg 21 [] [1, 3, 6, 8, 9, 38, 39, 42, 43, 65, 66] [(1, (iv p1)), (3, (pt g3)), (6, (pt g6)), (8, (pt g32)), (9, (iv x41)), (38, (iv p2)), (39, (iv x41)), (42, (iv p1)), (43, (iv x55)), (65, (sv A76 (l54 ++ [(rdD p0.Cells (w64 ((w64 ((Int.tmod x41 p0.Height) * p0.Width)) + (Int.tmod x55 p0.Width))) 0)]) c77)), (66, (.pointer (some ⟨g32, 2, none⟩)))] (by kernel_rfl) ?_
       refine WL.store hS79 4 rfl [(2, (sv A76 (l54 ++ [(rdD p0.Cells (w64 ((w64 ((Int.tmod x41 p0.Height) * p0.Width)) + (Int.tmod x55 p0.Width))) 0)]) c77))] #[(iv p1), (iv p2), (sv A76 (l54 ++ [(rdD p0.Cells (w64 ((w64 ((Int.tmod x41 p0.Height) * p0.Width)) + (Int.tmod x55 p0.Width))) 0)]) c77)] (fun fb => by kernel_rfl) (by kernel_rfl) rfl [0, 1, 2, 3] (by decide) (by decide) (fun w80 hS81 => ?_)
       refine ⟨trivial, ?_⟩
       refine WL.done rfl ?_
       refine WX.blockN (WX.next ?_)
       refine WC.region ?_
       refine sg 2 [] [1, 3, 6, 8, 9, 38, 39, 42, 43] [(1, (iv p1)), (3, (pt g3)), (6, (pt g6)), (8, (pt g32)), (9, (iv x41)), (38, (iv p2)), (39, (iv x41)), (42, (iv p1)), (43, (iv (w64 (x55 + 1))))] (by kernel_rfl) ?_
       refine WL.done rfl ?_
       exact WX.again k60 (Nat.lt_succ_self _) ((l54 ++ [(rdD p0.Cells (w64 ((w64 ((Int.tmod x41 p0.Height) * p0.Width)) + (Int.tmod x55 p0.Width))) 0)], w64 (x55 + 1)), A76, c77) [1, 3, 6, 8, 9, 38, 39, 42, 43] rfl ⟨(hS81.subR [0]).sub [3, 4, 0, 1] (by decide), hl63⟩
      refine WC.condF2 (fun fb => by kernel_rfl) h65 ?_
      refine WC.exit ?_
      injection hl63 with hl63
      exact WX.thenX (WX.thenX (WX.blockHere (WX.to Kx58 (l54, A52, c53) [1, 3, 6, 8, 38, 39] rfl ⟨(hS62.subR [0]).sub [0, 1, 2, 3] (by decide), hl63.symm⟩)))
    rintro ⟨y85, A56, c57⟩ w82 ⟨hS83, hq84⟩
    subst hq84
    refine WX.blockN (WX.next ?_)
    refine WC.region ?_
    refine sg 2 [] [1, 3, 6, 8, 38, 39] [(1, (iv p1)), (3, (pt g3)), (6, (pt g6)), (8, (pt g32)), (38, (iv p2)), (39, (iv (w64 (x41 + 1))))] (by kernel_rfl) ?_
    refine WL.done rfl ?_
    exact WX.again k46 (Nat.lt_succ_self _) ((x58, w64 (x41 + 1)), A56, c57) [1, 3, 6, 8, 38, 39] rfl ⟨(hS83.subR [0]).sub [0, 1, 2, 3] (by decide), hl50⟩
   refine WC.condF2 (fun fb => by kernel_rfl) h51 ?_
   refine WC.exit ?_
   injection hl50 with hl50
   exact WX.thenX (WX.thenX (WX.blockHere (WX.to Kx44 (l40, A38, c39) [6, 8] rfl ⟨(hS48.subR [0]).sub [1, 2, 3] (by decide), hl50.symm⟩)))
 rintro ⟨y89, A42, c43⟩ w86 ⟨hS87, hq88⟩
 subst hq88
 refine WX.next (WC.seq (WC.region ?_))
 refine seg 1 [.v (iv p1), .v (iv p2), .v (sv A42 x44 c43)] [6, 69] [(6, (pt g6)), (69, (.agg #[(iv p1), (iv p2), (sv A42 x44 c43)]))] [.cell ⟨g32, 0, none⟩ (iv p1), .cell ⟨g32, 1, none⟩ (iv p2), .cell ⟨g32, 2, none⟩ (sv A42 x44 c43)] (fun fb => by kernel_rfl) rfl ⟨hS87.cell 1 rfl 0 rfl, hS87.cell 1 rfl 1 rfl, hS87.cell 1 rfl 2 rfl, trivial⟩ ?_
 refine WL.store hS87 0 rfl [(0, (iv p1)), (1, (iv p2)), (2, (sv A42 x44 c43))] #[(iv p1), (iv p2), (sv A42 x44 c43)] (fun fb => by kernel_rfl) (by kernel_rfl) rfl [1, 2] (by decide) (by decide) (fun w90 hS91 => ?_)
 refine ⟨trivial, ?_⟩
 refine sg 3 [] [6, 7] [(6, (pt g6)), (7, (iv 0))] (by kernel_rfl) ?_
 refine WL.done rfl (WX.next ?_)
 refine WC.ret ?_
 injection hf with hf
 subst hf
 exact WX.ret_ [.v (iv p1), .v (iv p2), .v (sv A42 x44 c43)] (.tuple #[(.agg #[(iv p1), (iv p2), (sv A42 x44 c43)]), (iv 0)]) [.cell ⟨g6, 0, none⟩ (iv p1), .cell ⟨g6, 1, none⟩ (iv p2), .cell ⟨g6, 2, none⟩ (sv A42 x44 c43)] (fun fb => by kernel_rfl) ⟨hS91.cell 0 rfl 0 rfl, hS91.cell 0 rfl 1 rfl, hS91.cell 0 rfl 2 rfl, trivial⟩ ⟨_, rfl, A42, c43, rfl, (hS91.sub [2] (by decide)).noR⟩
theorem tile_of_1_calls (p0 : Int) (f0 : List Tile) (ga : Nat) (Aa : Option Addr) (ca : Nat) (r : Bool) (w : World) (hR0 : RO NoS w (blk ga (.cells #[(sv Aa f0 ca)] 28 (0, 0)))) (hR1 : RO NoS w (rowR enc_Tile Aa ca f0)) (hf : tile_of_1 p0 f0 = some r) :
  CallsR Try.prog 86 #[(iv p0), (pt ga)] w (fun v w' => v = (bv r) ∧ Keeps NoS w w') := by
 have hS : St NoS w w [blk ga (.cells #[(sv Aa f0 ca)] 28 (0, 0)), rowR enc_Tile Aa ca f0] [] := St.init (ro_cons hR0 (ro_cons hR1 (ro_nil _ _)))
 refine enter 12 Try.func86 rfl Try.ntmps86 rfl ?_
 unfold tile_of_1 at hf
 refine WC.seq (WC.region ?_)
 refine sg 1 [] [0, 1] [(0, (iv p0)), (1, (pt ga))] (by kernel_rfl) ?_
 refine WL.done rfl (WX.next (WC.seq (WC.region ?_)))
 refine sg 3 [] [0, 1, 6] [(0, (iv p0)), (1, (pt ga)), (6, (bv (decide (p0 < 0))))] (by kernel_rfl) ?_
 refine WL.cutV (T := Bool) 8 (fun t => [(11, (bv t))]) (fun t => ((decide (p0 < 0)) || (decide (p0 ≥ (f0.length : Int)))) = t) (fun K => ?_) ?_
 ·
  rcases Bool.eq_false_or_eq_true (decide (p0 < 0)) with h2 | h2
  ·
   refine WL.setB 6 h2 rfl ?_
   refine sg 8 [] [11] [(11, (bv true))] (by kernel_rfl) ?_
   exact WL.toV K true [11] rfl (by first | (rw [h2]; done) | (rw [h2]; rfl))
  refine WL.setB 6 h2 rfl ?_
  refine seg 8 [.v (sv Aa f0 ca)] [11] [(11, (bv (decide (p0 ≥ (f0.length : Int)))))] [.cell ⟨ga, 0, none⟩ (sv Aa f0 ca)] (fun fb => by kernel_rfl) rfl ⟨blk_cell (hS.rd 0).1 0 rfl, trivial⟩ ?_
  exact WL.toV K (decide (p0 ≥ (f0.length : Int))) [11] rfl (by first | (rw [h2]; done) | (rw [h2]; rfl))
 rintro b3 rfl
 refine sg 9 [] [3] [(3, (bv ((decide (p0 < 0)) || (decide (p0 ≥ (f0.length : Int))))))] (by kernel_rfl) ?_
 refine WL.done rfl (WX.next ?_)
 refine WC.ret ?_
 injection hf with hf
 subst hf
 exact WX.ret_ [] (bv ((decide (p0 < 0)) || (decide (p0 ≥ (f0.length : Int))))) [] (fun fb => by kernel_rfl) trivial ⟨_, rfl, rfl, hS.keep⟩
theorem slices_IndexFunc_int_int_with_tile_of_1_calls (k : Nat) (p0 : List Int) (p1_0 : List Tile) (Aa : Option Addr) (ca : Nat) (ga : Nat) (Ab : Option Addr) (cb : Nat) (r : Int) (w : World) (hR0 : RO NoS w (rowR encInt Aa ca p0)) (hR1 : RO NoS w (blk ga (.cells #[(sv Ab p1_0 cb)] 28 (0, 0)))) (hR2 : RO NoS w (rowR enc_Tile Ab cb p1_0)) (hf : slices_IndexFunc_int_int_with_tile_of_1 k p0 p1_0 = some r) :
  CallsR Try.prog 85 #[(sv Aa p0 ca), (.func (.func 86) #[] #[(pt ga)])] w (fun v w' => v = (iv r) ∧ Keeps NoS w w') := by
 have hS : St NoS w w [rowR encInt Aa ca p0, blk ga (.cells #[(sv Ab p1_0 cb)] 28 (0, 0)), rowR enc_Tile Ab cb p1_0] [] := St.init (ro_cons hR0 (ro_cons hR1 (ro_cons hR2 (ro_nil _ _))))
 refine enter 19 Try.func85 rfl Try.ntmps85 rfl ?_
 unfold slices_IndexFunc_int_int_with_tile_of_1 at hf
 refine WC.seq (WC.region ?_)
 refine sg 1 [] [0, 1] [(0, (sv Aa p0 ca)), (1, (.func (.func 86) #[] #[(pt ga)]))] (by kernel_rfl) ?_
 refine WL.done rfl (WX.next (WC.seq (WC.seq (WC.region ?_))))
 refine sg 3 [] [0, 1, 7, 8] [(0, (sv Aa p0 ca)), (1, (.func (.func 86) #[] #[(pt ga)])), (7, (iv (p0.length : Int))), (8, (iv 0))] (by kernel_rfl) ?_
 refine WL.done rfl (WX.next ?_)
 obtain ⟨x4, hx5, hf⟩ := bind_some hf
 refine WC.cutN (T := Unit) (fun t => []) (fun t w1 => St NoS w w1 [rowR encInt Aa ca p0, blk ga (.cells #[(sv Ab p1_0 cb)] 28 (0, 0)), rowR enc_Tile Ab cb p1_0] [] ∧ x4 = .inr t) (fun Kx4 => ?_) ?_
 ·
  refine WC.block ?_
  refine WC.loop (T := Int) (fun t => [(0, (sv Aa p0 ca)), (1, (.func (.func 86) #[] #[(pt ga)])), (7, (iv (p0.length : Int))), (8, (iv t))]) (fun n t w1 => St NoS w w1 [rowR encInt Aa ca p0, blk ga (.cells #[(sv Ab p1_0 cb)] 28 (0, 0)), rowR enc_Tile Ab cb p1_0] [] ∧ slices_IndexFunc_int_int_with_tile_of_1.l0 n t p0 p1_0 = some x4) k 0 [0, 1, 7, 8] rfl ⟨(hS.subR [0, 1, 2]).sub [] (by decide), hx5⟩ ?_
  rintro k6 x3 w7 ⟨hS8, hl9⟩
  cases k6 with
  | zero => rw [slices_IndexFunc_int_int_with_tile_of_1.l0] at hl9; cases hl9
  | succ k6 =>
   rw [slices_IndexFunc_int_int_with_tile_of_1.l0] at hl9
   refine WC.seq (WC.region ?_)
   refine sg 1 [] [0, 1, 7, 8, 9] [(0, (sv Aa p0 ca)), (1, (.func (.func 86) #[] #[(pt ga)])), (7, (iv (p0.length : Int))), (8, (iv x3)), (9, (bv (decide (x3 < (p0.length : Int)))))] (by kernel_rfl) ?_
   refine WL.done rfl (WX.next (WC.seq ?_))
   rcases br_some hl9 with ⟨h10, hl9⟩ | ⟨h10, hl9⟩
   ·refine WC.condT2 (fun fb => by kernel_rfl) h10 ?_
    refine WC.skip (WX.next (WC.seq (WC.block (WC.seq (WC.region ?_)))))
    refine sg 2 [] [0, 1, 5, 7, 8] [(0, (sv Aa p0 ca)), (1, (.func (.func 86) #[] #[(pt ga)])), (5, (iv x3)), (7, (iv (p0.length : Int))), (8, (iv x3))] (by kernel_rfl) ?_
    refine WL.done rfl (WX.next (WC.seq (WC.region ?_)))
    refine sg 3 [] [0, 1, 5, 7, 8, 11, 12, 13] [(0, (sv Aa p0 ca)), (1, (.func (.func 86) #[] #[(pt ga)])), (5, (iv x3)), (7, (iv (p0.length : Int))), (8, (iv x3)), (11, (.func (.func 86) #[] #[(pt ga)])), (12, (sv Aa p0 ca)), (13, (iv x3))] (by kernel_rfl) ?_
    obtain ⟨h11, hl9⟩ := as_some hl9
    refine seg 5 [.v (iv (rdD p0 x3 0))] [0, 1, 5, 7, 8, 11, 15] [(0, (sv Aa p0 ca)), (1, (.func (.func 86) #[] #[(pt ga)])), (5, (iv x3)), (7, (iv (p0.length : Int))), (8, (iv x3)), (11, (.func (.func 86) #[] #[(pt ga)])), (15, (iv (rdD p0 x3 0)))] [.idx Aa x3 p0.length, .cell ((adr Aa).add ((x3).toNat * 1)) (iv (rdD p0 x3 0))] (fun fb => by kernel_rfl) rfl ⟨rowR.adr (hS8.rd 0).1 h11.1 h11.2, rowR.cell (hS8.rd 0).1 0 h11.1 h11.2 0 rfl, trivial⟩ ?_
    obtain ⟨t12, ht13, hl9⟩ := bind_some hl9
    refine WL.call (some 16) 86 #[(iv (rdD p0 x3 0)), (pt ga)] (fun fb => by kernel_rfl) (tile_of_1_calls (rdD p0 x3 0) p1_0 ga Ab cb t12 _ (hS8.rd 1) (hS8.rd 2) ht13) (fun v w14 hR15 => ?_)
    obtain ⟨rfl, hk_⟩ := hR15
    have hS16 := hS8.keepN hk_
    refine ⟨trivial, ?_⟩
    refine WL.done rfl (WX.next ?_)
    rcases br_some hl9 with ⟨h17, hl9⟩ | ⟨h17, hl9⟩
    ·refine WC.condT2 (fun fb => by kernel_rfl) h17 ?_
     refine WC.seq (WC.region ?_)
     refine sg 2 [] [4] [(4, (iv x3))] (by kernel_rfl) ?_
     refine WL.done rfl (WX.next ?_)
     refine WC.ret ?_
     injection hl9 with hl9
     subst hl9
     injection hf with hf
     subst hf
     exact WX.blockR (WX.thenR (WX.thenR (WX.blockR (WX.thenR (WX.ret_ [] (iv x3) [] (fun fb => by kernel_rfl) trivial ⟨_, rfl, rfl, hS16.keep⟩)))))
    refine WC.condF2 (fun fb => by kernel_rfl) h17 ?_
    refine WC.skip ?_
    refine WX.blockN (WX.next ?_)
    refine WC.region ?_
    refine sg 2 [] [0, 1, 7, 8] [(0, (sv Aa p0 ca)), (1, (.func (.func 86) #[] #[(pt ga)])), (7, (iv (p0.length : Int))), (8, (iv (w64 (x3 + 1))))] (by kernel_rfl) ?_
    refine WL.done rfl ?_
    exact WX.again k6 (Nat.lt_succ_self _) (w64 (x3 + 1)) [0, 1, 7, 8] rfl ⟨(hS16.subR [0, 1, 2]).sub [] (by decide), hl9⟩
   refine WC.condF2 (fun fb => by kernel_rfl) h10 ?_
   refine WC.exit ?_
   injection hl9 with hl9
   exact WX.thenX (WX.thenX (WX.blockHere (WX.to Kx4 () [] rfl ⟨(hS8.subR [0, 1, 2]).sub [] (by decide), hl9.symm⟩)))
 rintro y21 w18 ⟨hS19, hq20⟩
 subst hq20
 have hf := sum_inr hf
 refine WX.next (WC.seq (WC.region ?_))
 refine sg 1 [] [4] [(4, (iv (-1)))] (by kernel_rfl) ?_
 refine WL.done rfl (WX.next ?_)
 refine WC.ret ?_
 injection hf with hf
 subst hf
 exact WX.ret_ [] (iv (-1)) [] (fun fb => by kernel_rfl) trivial ⟨_, rfl, rfl, hS19.keep⟩
theorem slices_ContainsFunc_int_int_with_tile_of_1_calls (k : Nat) (p0 : List Int) (p1_0 : List Tile) (Aa : Option Addr) (ca : Nat) (ga : Nat) (Ab : Option Addr) (cb : Nat) (r : Bool) (w : World) (hR0 : RO NoS w (rowR encInt Aa ca p0)) (hR1 : RO NoS w (blk ga (.cells #[(sv Ab p1_0 cb)] 28 (0, 0)))) (hR2 : RO NoS w (rowR enc_Tile Ab cb p1_0)) (hf : slices_ContainsFunc_int_int_with_tile_of_1 k p0 p1_0 = some r) :
  CallsR Try.prog 63 #[(sv Aa p0 ca), (.func (.func 86) #[] #[(pt ga)])] w (fun v w' => v = (bv r) ∧ Keeps NoS w w') := by
 have hS : St NoS w w [rowR encInt Aa ca p0, blk ga (.cells #[(sv Ab p1_0 cb)] 28 (0, 0)), rowR enc_Tile Ab cb p1_0] [] := St.init (ro_cons hR0 (ro_cons hR1 (ro_cons hR2 (ro_nil _ _))))
 refine enter 9 Try.func63 rfl Try.ntmps63 rfl ?_
 unfold slices_ContainsFunc_int_int_with_tile_of_1 at hf
 refine WC.seq (WC.region ?_)
 refine sg 1 [] [0, 1] [(0, (sv Aa p0 ca)), (1, (.func (.func 86) #[] #[(pt ga)]))] (by kernel_rfl) ?_
 refine WL.done rfl (WX.next (WC.seq (WC.region ?_)))
 refine sg 2 [] [5, 6] [(5, (sv Aa p0 ca)), (6, (.func (.func 86) #[] #[(pt ga)]))] (by kernel_rfl) ?_
 obtain ⟨t3, ht4, hf⟩ := bind_some hf
 refine WL.call (some 7) 85 #[(sv Aa p0 ca), (.func (.func 86) #[] #[(pt ga)])] (fun fb => by kernel_rfl) (slices_IndexFunc_int_int_with_tile_of_1_calls _ p0 p1_0 Aa ca ga Ab cb t3 _ (hS.rd 0) (hS.rd 1) (hS.rd 2) ht4) (fun v w5 hR6 => ?_)
 obtain ⟨rfl, hk_⟩ := hR6
 have hS7 := hS.keepN hk_
 refine ⟨trivial, ?_⟩
 refine sg 5 [] [4] [(4, (bv (decide (t3 ≥ 0))))] (by kernel_rfl) ?_
 refine WL.done rfl (WX.next ?_)
 refine WC.ret ?_
 injection hf with hf
 subst hf
 exact WX.ret_ [] (bv (decide (t3 ≥ 0))) [] (fun fb => by kernel_rfl) trivial ⟨_, rfl, rfl, hS7.keep⟩
theorem tile_of_calls (k : Nat) (p0 : List Tile) (p1 : Pattern) (Aa : Option Addr) (ca : Nat) (Ab : Option Addr) (cb : Nat) (r : Bool) (w : World) (hR0 : RO NoS w (rowR enc_Tile Aa ca p0)) (hR1 : RO NoS w (rowR encInt Ab cb p1.Cells)) (hf : tile_of k p0 p1 = some r) :
  CallsR Try.prog 70 #[(sv Aa p0 ca), (.agg #[(iv p1.Width), (iv p1.Height), (sv Ab p1.Cells cb)])] w (fun v w' => v = (bv r) ∧ Keeps NoS w w') := by
 have hS : St NoS w w [rowR enc_Tile Aa ca p0, rowR encInt Ab cb p1.Cells] [] := St.init (ro_cons hR0 (ro_cons hR1 (ro_nil _ _)))
 refine enter 18 Try.func70 rfl Try.ntmps70 rfl ?_
 unfold tile_of at hf
 refine WC.seq (WC.region ?_)
 refine WL.new hS 2 [] (fun g => (pt g)) (.cells #[(sv Aa p0 ca)] 28 (0, 0)) [] (fun fb g => by kernel_rfl) trivial (fun g2 w3 hS4 => ?_)
 refine ⟨trivial, ?_⟩
 refine WL.new hS4 3 [] (fun g => (pt g)) (.cells #[(iv p1.Width), (iv p1.Height), (sv Ab p1.Cells cb)] 39 (0, 0)) [] (fun fb g => by kernel_rfl) trivial (fun g5 w6 hS7 => ?_)
 refine ⟨trivial, ?_⟩
 refine sg 3 [] [2, 3] [(2, (pt g2)), (3, (pt g5))] (by kernel_rfl) ?_
 refine WL.done rfl (WX.next (WC.seq (WC.region ?_)))
 refine seg 1 [.v (sv Aa p0 ca)] [2, 3, 5] [(2, (pt g2)), (3, (pt g5)), (5, (sv Aa p0 ca))] [.cell ⟨g2, 0, none⟩ (sv Aa p0 ca)] (fun fb => by kernel_rfl) rfl ⟨hS7.cell 1 rfl 0 rfl, trivial⟩ ?_
 obtain ⟨t8, ht9, hf⟩ := bind_some hf
 refine WL.call (some 6) 33 #[(sv Aa p0 ca)] (fun fb => by kernel_rfl) (tile_Valid_calls _ p0 Aa ca t8 _ (hS7.rd 0) ht9) (fun v w10 hR11 => ?_)
 obtain ⟨rfl, hk_⟩ := hR11
 have hS12 := hS7.keepN hk_
 refine ⟨trivial, ?_⟩
 refine sg 3 [] [2, 3, 7] [(2, (pt g2)), (3, (pt g5)), (7, (bv t8))] (by kernel_rfl) ?_
 obtain ⟨x13, hx14, hf⟩ := bind_some hf
 refine WL.cutW (T := Bool) 6 (fun t => [(2, (pt g2)), (3, (pt g5)), (10, (bv t))]) (fun t w1 => (St NoS w w1 [rowR enc_Tile Aa ca p0, rowR encInt Ab cb p1.Cells] [blk g2 (.cells #[(sv Aa p0 ca)] 28 (0, 0)), blk g5 (.cells #[(iv p1.Width), (iv p1.Height), (sv Ab p1.Cells cb)] 39 (0, 0))] ∧ x13 = t) ∧ CellsOK [] w1) (fun K => ?_) ?_
 ·
  rcases br_some hx14 with ⟨h15, hx14⟩ | ⟨h15, hx14⟩
  ·
   refine WL.setB 7 h15 rfl ?_
   refine seg 4 [.v (iv p1.Width), .v (iv p1.Height), .v (sv Ab p1.Cells cb)] [2, 3, 7, 8] [(2, (pt g2)), (3, (pt g5)), (7, (bv true)), (8, (.agg #[(iv p1.Width), (iv p1.Height), (sv Ab p1.Cells cb)]))] [.cell ⟨g5, 0, none⟩ (iv p1.Width), .cell ⟨g5, 1, none⟩ (iv p1.Height), .cell ⟨g5, 2, none⟩ (sv Ab p1.Cells cb)] (fun fb => by kernel_rfl) rfl ⟨hS12.cell 0 rfl 0 rfl, hS12.cell 0 rfl 1 rfl, hS12.cell 0 rfl 2 rfl, trivial⟩ ?_
   obtain ⟨t16, ht17, hx14⟩ := bind_some hx14
   refine WL.call (some 9) 69 #[(.agg #[(iv p1.Width), (iv p1.Height), (sv Ab p1.Cells cb)])] (fun fb => by kernel_rfl) (tile_Form_calls p1 Ab cb t16 _ (hS12.rd 1) ht17) (fun v w18 hR19 => ?_)
   obtain ⟨rfl, hk_⟩ := hR19
   have hS20 := hS12.keepN hk_
   refine ⟨trivial, ?_⟩
   refine sg 6 [] [2, 3, 10] [(2, (pt g2)), (3, (pt g5)), (10, (bv t16))] (by kernel_rfl) ?_
   injection hx14 with hx14
   exact WL.to K t16 [2, 3, 10] rfl ⟨⟨(hS20.subR [0, 1]).sub [1, 0] (by decide), hx14.symm⟩, trivial⟩
  refine WL.setB 7 h15 rfl ?_
  refine sg 6 [] [2, 3, 10] [(2, (pt g2)), (3, (pt g5)), (10, (bv false))] (by kernel_rfl) ?_
  injection hx14 with hx14
  exact WL.to K false [2, 3, 10] rfl ⟨⟨(hS12.subR [0, 1]).sub [1, 0] (by decide), hx14.symm⟩, trivial⟩
 rintro y21 w23 ⟨⟨hS24, hq22⟩, hF25⟩
 subst hq22
 refine sg 7 [] [2, 3, 11] [(2, (pt g2)), (3, (pt g5)), (11, (bv x13))] (by kernel_rfl) ?_
 obtain ⟨x26, hx27, hf⟩ := bind_some hf
 refine WL.cutW (T := Bool) 13 (fun t => [(17, (bv t))]) (fun t w1 => (St NoS w w1 [rowR enc_Tile Aa ca p0, rowR encInt Ab cb p1.Cells] [] ∧ x26 = t) ∧ CellsOK [] w1) (fun K => ?_) ?_
 ·
  rcases br_some hx27 with ⟨h28, hx27⟩ | ⟨h28, hx27⟩
  ·
   refine WL.setB 11 h28 rfl ?_
   refine seg 10 [.v (sv Ab p1.Cells cb)] [11, 13, 14] [(11, (bv true)), (13, (sv Ab p1.Cells cb)), (14, (.func (.func 86) #[] #[(pt g2)]))] [.cell ⟨g5, 2, none⟩ (sv Ab p1.Cells cb)] (fun fb => by kernel_rfl) rfl ⟨hS24.cell 1 rfl 2 rfl, trivial⟩ ?_
   obtain ⟨t29, ht30, hx27⟩ := bind_some hx27
   refine WL.call (some 15) 63 #[(sv Ab p1.Cells cb), (.func (.func 86) #[] #[(pt g2)])] (fun fb => by kernel_rfl) (slices_ContainsFunc_int_int_with_tile_of_1_calls _ p1.Cells p0 Ab cb g2 Aa ca t29 _ (hS24.rd 1) (hS24.ow 0) (hS24.rd 0) ht30) (fun v w31 hR32 => ?_)
   obtain ⟨rfl, hk_⟩ := hR32
   have hS33 := hS24.keepN hk_
   refine ⟨trivial, ?_⟩
   refine sg 13 [] [17] [(17, (bv (!t29)))] (by kernel_rfl) ?_
   injection hx27 with hx27
   exact WL.to K (!t29) [17] rfl ⟨⟨(hS33.subR [0, 1]).sub [] (by decide), hx27.symm⟩, trivial⟩
  refine WL.setB 11 h28 rfl ?_
  refine sg 13 [] [17] [(17, (bv false))] (by kernel_rfl) ?_
  injection hx27 with hx27
  exact WL.to K false [17] rfl ⟨⟨(hS24.subR [0, 1]).sub [] (by decide), hx27.symm⟩, trivial⟩
 rintro y34 w36 ⟨⟨hS37, hq35⟩, hF38⟩
 subst hq35
 refine sg 14 [] [4] [(4, (bv x26))] (by kernel_rfl) ?_
 refine WL.done rfl (WX.next ?_)
 refine WC.ret ?_
 injection hf with hf
 subst hf
 exact WX.ret_ [] (bv x26) [] (fun fb => by kernel_rfl) trivial ⟨_, rfl, rfl, hS37.keep⟩
theorem tile_joins_calls (k : Nat) (p0 : List Tile) (p1 : Pattern) (p2 : Bool) (Aa : Option Addr) (ca : Nat) (Ab : Option Addr) (cb : Nat) (r : Bool) (w : World) (hR0 : RO NoS w (rowR enc_Tile Aa ca p0)) (hR1 : RO NoS w (rowR encInt Ab cb p1.Cells)) (hf : tile_joins k p0 p1 p2 = some r) :
  CallsR Try.prog 71 #[(sv Aa p0 ca), (.agg #[(iv p1.Width), (iv p1.Height), (sv Ab p1.Cells cb)]), (bv p2)] w (fun v w' => v = (bv r) ∧ Keeps NoS w w') := by
 have hS : St NoS w w [rowR enc_Tile Aa ca p0, rowR encInt Ab cb p1.Cells] [] := St.init (ro_cons hR0 (ro_cons hR1 (ro_nil _ _)))
 refine enter 92 Try.func71 rfl Try.ntmps71 rfl ?_
 unfold tile_joins at hf
 refine WC.seq (WC.region ?_)
 refine WL.new hS 4 [] (fun g => (pt g)) (.cells #[(iv p1.Width), (iv p1.Height), (sv Ab p1.Cells cb)] 39 (0, 0)) [] (fun fb g => by kernel_rfl) trivial (fun g3 w4 hS5 => ?_)
 refine ⟨trivial, ?_⟩
 refine sg 2 [] [0, 2, 4] [(0, (sv Aa p0 ca)), (2, (bv p2)), (4, (pt g3))] (by kernel_rfl) ?_
 refine WL.done rfl (WX.next (WC.seq (WC.seq (WC.region ?_))))
 refine seg 4 [.v (sv Ab p1.Cells cb)] [0, 2, 4, 12, 13, 14] [(0, (sv Aa p0 ca)), (2, (bv p2)), (4, (pt g3)), (12, (sv Ab p1.Cells cb)), (13, (iv (p1.Cells.length : Int))), (14, (iv 0))] [.cell ⟨g3, 2, none⟩ (sv Ab p1.Cells cb)] (fun fb => by kernel_rfl) rfl ⟨hS5.cell 0 rfl 2 rfl, trivial⟩ ?_
 refine WL.done rfl (WX.next ?_)
 obtain ⟨x7, hx8, hf⟩ := bind_some hf
 refine WC.cutN (T := Unit) (fun t => []) (fun t w1 => St NoS w w1 [rowR enc_Tile Aa ca p0, rowR encInt Ab cb p1.Cells] [] ∧ x7 = .inr t) (fun Kx7 => ?_) ?_
 ·
  refine WC.block ?_
  refine WC.loop (T := Int) (fun t => [(0, (sv Aa p0 ca)), (2, (bv p2)), (4, (pt g3)), (12, (sv Ab p1.Cells cb)), (13, (iv (p1.Cells.length : Int))), (14, (iv t))]) (fun n t w1 => St NoS w w1 [rowR enc_Tile Aa ca p0, rowR encInt Ab cb p1.Cells] [blk g3 (.cells #[(iv p1.Width), (iv p1.Height), (sv Ab p1.Cells cb)] 39 (0, 0))] ∧ tile_joins.l0 n t p0 p1 p2 = some x7) k 0 [0, 2, 4, 12, 13, 14] rfl ⟨(hS5.subR [0, 1]).sub [0] (by decide), hx8⟩ ?_
  rintro k9 x6 w10 ⟨hS11, hl12⟩
  cases k9 with
  | zero => rw [tile_joins.l0] at hl12; cases hl12
  | succ k9 =>
   rw [tile_joins.l0] at hl12
   refine WC.seq (WC.region ?_)
   refine sg 1 [] [0, 2, 4, 12, 13, 14, 15] [(0, (sv Aa p0 ca)), (2, (bv p2)), (4, (pt g3)), (12, (sv Ab p1.Cells cb)), (13, (iv (p1.Cells.length : Int))), (14, (iv x6)), (15, (bv (decide (x6 < (p1.Cells.length : Int)))))] (by kernel_rfl) ?_
   refine WL.done rfl (WX.next (WC.seq ?_))
   rcases br_some hl12 with ⟨h13, hl12⟩ | ⟨h13, hl12⟩
   ·refine WC.condT2 (fun fb => by kernel_rfl) h13 ?_
    refine WC.skip (WX.next (WC.seq (WC.block (WC.seq (WC.region ?_)))))
    refine sg 1 [] [0, 2, 4, 12, 13, 14, 16] [(0, (sv Aa p0 ca)), (2, (bv p2)), (4, (pt g3)), (12, (sv Ab p1.Cells cb)), (13, (iv (p1.Cells.length : Int))), (14, (iv x6)), (16, (iv x6))] (by kernel_rfl) ?_
    obtain ⟨h14, hl12⟩ := as_some hl12
    refine seg 5 [.v (iv (rdD p1.Cells x6 0))] [0, 2, 4, 7, 8, 12, 13, 14] [(0, (sv Aa p0 ca)), (2, (bv p2)), (4, (pt g3)), (7, (iv x6)), (8, (iv (rdD p1.Cells x6 0))), (12, (sv Ab p1.Cells cb)), (13, (iv (p1.Cells.length : Int))), (14, (iv x6))] [.idx Ab x6 p1.Cells.length, .cell ((adr Ab).add ((x6).toNat * 1)) (iv (rdD p1.Cells x6 0))] (fun fb => by kernel_rfl) rfl ⟨rowR.adr (hS11.rd 1).1 h14.1 h14.2, rowR.cell (hS11.rd 1).1 0 h14.1 h14.2 0 rfl, trivial⟩ ?_
    refine WL.done rfl (WX.next (WC.seq ?_))
    obtain ⟨h17, hl12⟩ := as_some hl12
    refine WC.regionD ([(2, ⟨g3, 0, none⟩, (iv p1.Width)), (6, ⟨g3, 0, none⟩, (iv p1.Width))], [0, 1, 2, 3, 4, 5, 6, 7, 8, 9], [[], [], [1], [0, 1, 2], [], [], [5], [4, 5, 6], [0, 1, 2, 3], [0, 1, 2, 3, 4, 5, 6, 7, 8]]) [[0, 1, 2, 3, 4, 5, 6, 7, 8, 9]] (by kernel_rfl) (by kernel_rfl) (NoPanic.seq (NoPanic.block (NoPanic.seq (NoPanic.seq (NoPanic.block (NoPanic.seq (NoPanic.body))))))) ?_
    have hS16 := hS11.drew
    revert hS16
    generalize World.drew w10 = w15
    intro hS16
    refine ⟨⟨hS16.cell 0 rfl 0 rfl, hS16.cell 0 rfl 0 rfl, trivial⟩, forallC ?_ (forallN)⟩
    refine segF 10 [.v (iv p1.Width), .v (iv p1.Width)] [0, 2, 4, 8, 9, 10, 12, 13, 14] [(0, (sv Aa p0 ca)), (2, (bv p2)), (4, (pt g3)), (8, (iv (rdD p1.Cells x6 0))), (9, (iv (Int.tmod x6 p1.Width))), (10, (iv (w64 (Int.tdiv x6 p1.Width)))), (12, (sv Ab p1.Cells cb)), (13, (iv (p1.Cells.length : Int))), (14, (iv x6))] [.ne p1.Width, .ne p1.Width] [0, 1] [(2, ⟨g3, 0, none⟩, (iv p1.Width)), (6, ⟨g3, 0, none⟩, (iv p1.Width))] (fun fb => by kernel_rfl) rfl ⟨h17, h17, trivial⟩ rfl ?_
    refine WL.done rfl (WX.next (WC.seq (WC.seq (WC.region ?_))))
    refine seg 6 [.v (iv p1.Width)] [0, 2, 4, 8, 9, 10, 12, 13, 14, 32] [(0, (sv Aa p0 ca)), (2, (bv p2)), (4, (pt g3)), (8, (iv (rdD p1.Cells x6 0))), (9, (iv (Int.tmod x6 p1.Width))), (10, (iv (w64 (Int.tdiv x6 p1.Width)))), (12, (sv Ab p1.Cells cb)), (13, (iv (p1.Cells.length : Int))), (14, (iv x6)), (32, (bv (decide (w64 ((Int.tmod x6 p1.Width) + 1) < p1.Width))))] [.cell ⟨g3, 0, none⟩ (iv p1.Width)] (fun fb => by kernel_rfl) rfl ⟨hS16.cell 0 rfl 0 rfl, trivial⟩ ?_
    refine WL.cutV (T := Bool) 8 (fun t => [(34, (bv t)), (0, (sv Aa p0 ca)), (2, (bv p2)), (4, (pt g3)), (8, (iv (rdD p1.Cells x6 0))), (9, (iv (Int.tmod x6 p1.Width))), (10, (iv (w64 (Int.tdiv x6 p1.Width)))), (12, (sv Ab p1.Cells cb)), (13, (iv (p1.Cells.length : Int))), (14, (iv x6))]) (fun t => ((decide (w64 ((Int.tmod x6 p1.Width) + 1) < p1.Width)) || p2) = t) (fun K => ?_) ?_
    ·
     rcases Bool.eq_false_or_eq_true (decide (w64 ((Int.tmod x6 p1.Width) + 1) < p1.Width)) with h18 | h18
     ·
      refine WL.setB 32 h18 rfl ?_
      refine sg 8 [] [0, 2, 4, 8, 9, 10, 12, 13, 14, 34] [(0, (sv Aa p0 ca)), (2, (bv p2)), (4, (pt g3)), (8, (iv (rdD p1.Cells x6 0))), (9, (iv (Int.tmod x6 p1.Width))), (10, (iv (w64 (Int.tdiv x6 p1.Width)))), (12, (sv Ab p1.Cells cb)), (13, (iv (p1.Cells.length : Int))), (14, (iv x6)), (34, (bv true))] (by kernel_rfl) ?_
      exact WL.toV K true [34, 0, 2, 4, 8, 9, 10, 12, 13, 14] rfl (by first | (rw [h18]; done) | (rw [h18]; rfl))
     refine WL.setB 32 h18 rfl ?_
     refine sg 8 [] [0, 2, 4, 8, 9, 10, 12, 13, 14, 34] [(0, (sv Aa p0 ca)), (2, (bv p2)), (4, (pt g3)), (8, (iv (rdD p1.Cells x6 0))), (9, (iv (Int.tmod x6 p1.Width))), (10, (iv (w64 (Int.tdiv x6 p1.Width)))), (12, (sv Ab p1.Cells cb)), (13, (iv (p1.Cells.length : Int))), (14, (iv x6)), (34, (bv p2))] (by kernel_rfl) ?_
     exact WL.toV K p2 [34, 0, 2, 4, 8, 9, 10, 12, 13, 14] rfl (by first | (rw [h18]; done) | (rw [h18]; rfl))
    rintro b19 rfl
    refine WL.done rfl (WX.next ?_)
    obtain ⟨x20, hx21, hl12⟩ := bind_some hl12
    refine WC.cutN (T := Unit) (fun t => [(0, (sv Aa p0 ca)), (2, (bv p2)), (4, (pt g3)), (8, (iv (rdD p1.Cells x6 0))), (9, (iv (Int.tmod x6 p1.Width))), (10, (iv (w64 (Int.tdiv x6 p1.Width)))), (12, (sv Ab p1.Cells cb)), (13, (iv (p1.Cells.length : Int))), (14, (iv x6))]) (fun t w1 => St NoS w w1 [rowR enc_Tile Aa ca p0, rowR encInt Ab cb p1.Cells] [blk g3 (.cells #[(iv p1.Width), (iv p1.Height), (sv Ab p1.Cells cb)] 39 (0, 0))] ∧ x20 = .inr t) (fun Kx20 => ?_) ?_
    ·
     rcases br_some hx21 with ⟨h22, hx21⟩ | ⟨h22, hx21⟩
     ·refine WC.condT2 (fun fb => by kernel_rfl) h22 ?_
      refine WC.seq ?_
      obtain ⟨h25, hx21⟩ := as_some hx21
      obtain ⟨h26, hx21⟩ := as_some hx21
      obtain ⟨h27, hx21⟩ := as_some hx21
      refine WC.regionD ([(4, (((adr Aa).add (((rdD p1.Cells x6 0)).toNat * 4)).add 1), (iv ((rdD p0 (rdD p1.Cells x6 0) z_Tile).E))), (7, ⟨g3, 2, none⟩, (sv Ab p1.Cells cb)), (10, ⟨g3, 0, none⟩, (iv p1.Width)), (15, ⟨g3, 0, none⟩, (iv p1.Width)), (19, ((adr Ab).add ((w64 ((w64 ((w64 (Int.tdiv x6 p1.Width)) * p1.Width)) + (Int.tmod (w64 ((Int.tmod x6 p1.Width) + 1)) p1.Width))).toNat * 1)), (iv (rdD p1.Cells (w64 ((w64 ((w64 (Int.tdiv x6 p1.Width)) * p1.Width)) + (Int.tmod (w64 ((Int.tmod x6 p1.Width) + 1)) p1.Width))) 0))), (22, (((adr Aa).add (((rdD p1.Cells (w64 ((w64 ((w64 (Int.tdiv x6 p1.Width)) * p1.Width)) + (Int.tmod (w64 ((Int.tmod x6 p1.Width) + 1)) p1.Width))) 0)).toNat * 4)).add 3), (iv ((rdD p0 (rdD p1.Cells (w64 ((w64 ((w64 (Int.tdiv x6 p1.Width)) * p1.Width)) + (Int.tmod (w64 ((Int.tmod x6 p1.Width) + 1)) p1.Width))) 0) z_Tile).W)))], [0, 1, 2, 3, 4, 5, 6, 7, 8, 9, 10, 11, 12, 13, 14, 15, 16, 17, 18, 19, 20, 21, 22, 23], [[], [], [0, 1], [0, 1, 2], [0, 1, 2, 3], [], [], [6], [], [], [9], [8, 9, 10], [], [12], [], [14], [12, 13, 14, 15], [8, 9, 10, 11, 12, 13, 14, 15, 16], [6, 7, 8, 9, 10, 11, 12, 13, 14, 15, 16, 17], [6, 7, 8, 9, 10, 11, 12, 13, 14, 15, 16, 17, 18], [5, 6, 7, 8, 9, 10, 11, 12, 13, 14, 15, 16, 17, 18, 19], [5, 6, 7, 8, 9, 10, 11, 12, 13, 14, 15, 16, 17, 18, 19, 20], [5, 6, 7, 8, 9, 10, 11, 12, 13, 14, 15, 16, 17, 18, 19, 20, 21], [0, 1, 2, 3, 4, 5, 6, 7, 8, 9, 10, 11, 12, 13, 14, 15, 16, 17, 18, 19, 20, 21, 22]]) [[0, 1, 2, 3, 4, 5, 6, 7, 8, 9, 10, 11, 12, 13, 14, 15, 16, 17, 18, 19, 20, 21, 22, 23]] (by kernel_rfl) (by kernel_rfl) (NoPanic.seq (NoPanic.seq (NoPanic.block (NoPanic.seq (NoPanic.seq (NoPanic.block (NoPanic.seq (NoPanic.body)))))))) ?_
      have hS24 := hS16.drew
      revert hS24
      generalize World.drew w15 = w23
      intro hS24
      refine ⟨⟨rowR.cell (hS24.rd 0).1 z_Tile h25.1 h25.2 1 rfl, hS24.cell 0 rfl 2 rfl, hS24.cell 0 rfl 0 rfl, hS24.cell 0 rfl 0 rfl, rowR.cell (hS24.rd 1).1 0 h26.1 h26.2 0 rfl, rowR.cell (hS24.rd 0).1 z_Tile h27.1 h27.2 3 rfl, trivial⟩, forallC ?_ (forallN)⟩
      refine segF 24 [.v (iv ((rdD p0 (rdD p1.Cells x6 0) z_Tile).E)), .v (sv Ab p1.Cells cb), .v (iv p1.Width), .v (iv p1.Width), .v (iv (rdD p1.Cells (w64 ((w64 ((w64 (Int.tdiv x6 p1.Width)) * p1.Width)) + (Int.tmod (w64 ((Int.tmod x6 p1.Width) + 1)) p1.Width))) 0)), .v (iv ((rdD p0 (rdD p1.Cells (w64 ((w64 ((w64 (Int.tdiv x6 p1.Width)) * p1.Width)) + (Int.tmod (w64 ((Int.tmod x6 p1.Width) + 1)) p1.Width))) 0) z_Tile).W))] [0, 2, 4, 8, 9, 10, 12, 13, 14, 58] [(0, (sv Aa p0 ca)), (2, (bv p2)), (4, (pt g3)), (8, (iv (rdD p1.Cells x6 0))), (9, (iv (Int.tmod x6 p1.Width))), (10, (iv (w64 (Int.tdiv x6 p1.Width)))), (12, (sv Ab p1.Cells cb)), (13, (iv (p1.Cells.length : Int))), (14, (iv x6)), (58, (bv (((rdD p0 (rdD p1.Cells x6 0) z_Tile).E) != ((rdD p0 (rdD p1.Cells (w64 ((w64 ((w64 (Int.tdiv x6 p1.Width)) * p1.Width)) + (Int.tmod (w64 ((Int.tmod x6 p1.Width) + 1)) p1.Width))) 0) z_Tile).W))))] [.idx Aa (rdD p1.Cells x6 0) p0.length, .ne p1.Width, .idx Ab (w64 ((w64 ((w64 (Int.tdiv x6 p1.Width)) * p1.Width)) + (Int.tmod (w64 ((Int.tmod x6 p1.Width) + 1)) p1.Width))) p1.Cells.length, .idx Aa (rdD p1.Cells (w64 ((w64 ((w64 (Int.tdiv x6 p1.Width)) * p1.Width)) + (Int.tmod (w64 ((Int.tmod x6 p1.Width) + 1)) p1.Width))) 0) p0.length] [0, 1, 2, 3, 4, 5] [(4, (((adr Aa).add (((rdD p1.Cells x6 0)).toNat * 4)).add 1), (iv ((rdD p0 (rdD p1.Cells x6 0) z_Tile).E))), (7, ⟨g3, 2, none⟩, (sv Ab p1.Cells cb)), (10, ⟨g3, 0, none⟩, (iv p1.Width)), (15, ⟨g3, 0, none⟩, (iv p1.Width)), (19, ((adr Ab).add ((w64 ((w64 ((w64 (Int.tdiv x6 p1.Width)) * p1.Width)) + (Int.tmod (w64 ((Int.tmod x6 p1.Width) + 1)) p1.Width))).toNat * 1)), (iv (rdD p1.Cells (w64 ((w64 ((w64 (Int.tdiv x6 p1.Width)) * p1.Width)) + (Int.tmod (w64 ((Int.tmod x6 p1.Width) + 1)) p1.Width))) 0))), (22, (((adr Aa).add (((rdD p1.Cells (w64 ((w64 ((w64 (Int.tdiv x6 p1.Width)) * p1.Width)) + (Int.tmod (w64 ((Int.tmod x6 p1.Width) + 1)) p1.Width))) 0)).toNat * 4)).add 3), (iv ((rdD p0 (rdD p1.Cells (w64 ((w64 ((w64 (Int.tdiv x6 p1.Width)) * p1.Width)) + (Int.tmod (w64 ((Int.tmod x6 p1.Width) + 1)) p1.Width))) 0) z_Tile).W)))] (fun fb => by kernel_rfl) rfl ⟨rowR.adr (hS24.rd 0).1 h25.1 h25.2, h17, rowR.adr (hS24.rd 1).1 h26.1 h26.2, rowR.adr (hS24.rd 0).1 h27.1 h27.2, trivial⟩ rfl ?_
      refine WL.done rfl (WX.next ?_)
      rcases br_some hx21 with ⟨h28, hx21⟩ | ⟨h28, hx21⟩
      ·refine WC.condT2 (fun fb => by kernel_rfl) h28 ?_
       refine WC.seq (WC.region ?_)
       refine sg 1 [] [6] [(6, (bv false))] (by kernel_rfl) ?_
       refine WL.done rfl (WX.next ?_)
       refine WC.ret ?_
       injection hx21 with hx21
       subst hx21
       injection hl12 with hl12
       subst hl12
       injection hf with hf
       subst hf
       exact WX.thenR (WX.blockR (WX.thenR (WX.thenR (WX.blockR (WX.thenR (WX.ret_ [] (bv false) [] (fun fb => by kernel_rfl) trivial ⟨_, rfl, rfl, hS24.keep⟩))))))
      refine WC.condF2 (fun fb => by kernel_rfl) h28 ?_
      refine WC.skip ?_
      injection hx21 with hx21
      exact WX.to Kx20 () [0, 2, 4, 8, 9, 10, 12, 13, 14] rfl ⟨(hS24.subR [0, 1]).sub [0] (by decide), hx21.symm⟩
     refine WC.condF2 (fun fb => by kernel_rfl) h22 ?_
     refine WC.skip ?_
     injection hx21 with hx21
     exact WX.to Kx20 () [0, 2, 4, 8, 9, 10, 12, 13, 14] rfl ⟨(hS16.subR [0, 1]).sub [0] (by decide), hx21.symm⟩
    rintro y32 w29 ⟨hS30, hq31⟩
    subst hq31
    have hl12 := sum_inr hl12
    refine WX.next (WC.seq (WC.region ?_))
    refine seg 6 [.v (iv p1.Height)] [0, 2, 4, 8, 9, 10, 12, 13, 14, 64] [(0, (sv Aa p0 ca)), (2, (bv p2)), (4, (pt g3)), (8, (iv (rdD p1.Cells x6 0))), (9, (iv (Int.tmod x6 p1.Width))), (10, (iv (w64 (Int.tdiv x6 p1.Width)))), (12, (sv Ab p1.Cells cb)), (13, (iv (p1.Cells.length : Int))), (14, (iv x6)), (64, (bv (decide (w64 ((w64 (Int.tdiv x6 p1.Width)) + 1) < p1.Height))))] [.cell ⟨g3, 1, none⟩ (iv p1.Height)] (fun fb => by kernel_rfl) rfl ⟨hS30.cell 0 rfl 1 rfl, trivial⟩ ?_
    refine WL.cutV (T := Bool) 8 (fun t => [(66, (bv t)), (0, (sv Aa p0 ca)), (2, (bv p2)), (4, (pt g3)), (8, (iv (rdD p1.Cells x6 0))), (9, (iv (Int.tmod x6 p1.Width))), (10, (iv (w64 (Int.tdiv x6 p1.Width)))), (12, (sv Ab p1.Cells cb)), (13, (iv (p1.Cells.length : Int))), (14, (iv x6))]) (fun t => ((decide (w64 ((w64 (Int.tdiv x6 p1.Width)) + 1) < p1.Height)) || p2) = t) (fun K => ?_) ?_
    ·
     rcases Bool.eq_false_or_eq_true (decide (w64 ((w64 (Int.tdiv x6 p1.Width)) + 1) < p1.Height)) with h33 | h33
     ·
      refine WL.setB 64 h33 rfl ?_
      refine sg 8 [] [0, 2, 4, 8, 9, 10, 12, 13, 14, 66] [(0, (sv Aa p0 ca)), (2, (bv p2)), (4, (pt g3)), (8, (iv (rdD p1.Cells x6 0))), (9, (iv (Int.tmod x6 p1.Width))), (10, (iv (w64 (Int.tdiv x6 p1.Width)))), (12, (sv Ab p1.Cells cb)), (13, (iv (p1.Cells.length : Int))), (14, (iv x6)), (66, (bv true))] (by kernel_rfl) ?_
      exact WL.toV K true [66, 0, 2, 4, 8, 9, 10, 12, 13, 14] rfl (by first | (rw [h33]; done) | (rw [h33]; rfl))
     refine WL.setB 64 h33 rfl ?_
     refine sg 8 [] [0, 2, 4, 8, 9, 10, 12, 13, 14, 66] [(0, (sv Aa p0 ca)), (2, (bv p2)), (4, (pt g3)), (8, (iv (rdD p1.Cells x6 0))), (9, (iv (Int.tmod x6 p1.Width))), (10, (iv (w64 (Int.tdiv x6 p1.Width)))), (12, (sv Ab p1.Cells cb)), (13, (iv (p1.Cells.length : Int))), (14, (iv x6)), (66, (bv p2))] (by kernel_rfl) ?_
     exact WL.toV K p2 [66, 0, 2, 4, 8, 9, 10, 12, 13, 14] rfl (by first | (rw [h33]; done) | (rw [h33]; rfl))
    rintro b34 rfl
    refine WL.done rfl (WX.next ?_)
    obtain ⟨x35, hx36, hl12⟩ := bind_some hl12
    refine WC.cutN (T := Unit) (fun t => [(0, (sv Aa p0 ca)), (2, (bv p2)), (4, (pt g3)), (12, (sv Ab p1.Cells cb)), (13, (iv (p1.Cells.length : Int))), (14, (iv x6))]) (fun t w1 => St NoS w w1 [rowR enc_Tile Aa ca p0, rowR encInt Ab cb p1.Cells] [blk g3 (.cells #[(iv p1.Width), (iv p1.Height), (sv Ab p1.Cells cb)] 39 (0, 0))] ∧ x35 = .inr t) (fun Kx35 => ?_) ?_
    ·
     rcases br_some hx36 with ⟨h37, hx36⟩ | ⟨h37, hx36⟩
     ·refine WC.condT2 (fun fb => by kernel_rfl) h37 ?_
      refine WC.seq ?_
      obtain ⟨h40, hx36⟩ := as_some hx36
      obtain ⟨h41, hx36⟩ := as_some hx36
      obtain ⟨h42, hx36⟩ := as_some hx36
      obtain ⟨h43, hx36⟩ := as_some hx36
      refine WC.regionD ([(4, ((adr Aa).add (((rdD p1.Cells x6 0)).toNat * 4)), (iv ((rdD p0 (rdD p1.Cells x6 0) z_Tile).N))), (7, ⟨g3, 2, none⟩, (sv Ab p1.Cells cb)), (11, ⟨g3, 1, none⟩, (iv p1.Height)), (14, ⟨g3, 0, none⟩, (iv p1.Width)), (19, ((adr Ab).add ((w64 ((w64 ((Int.tmod (w64 ((w64 (Int.tdiv x6 p1.Width)) + 1)) p1.Height) * p1.Width)) + (Int.tmod x6 p1.Width))).toNat * 1)), (iv (rdD p1.Cells (w64 ((w64 ((Int.tmod (w64 ((w64 (Int.tdiv x6 p1.Width)) + 1)) p1.Height) * p1.Width)) + (Int.tmod x6 p1.Width))) 0))), (22, (((adr Aa).add (((rdD p1.Cells (w64 ((w64 ((Int.tmod (w64 ((w64 (Int.tdiv x6 p1.Width)) + 1)) p1.Height) * p1.Width)) + (Int.tmod x6 p1.Width))) 0)).toNat * 4)).add 2), (iv ((rdD p0 (rdD p1.Cells (w64 ((w64 ((Int.tmod (w64 ((w64 (Int.tdiv x6 p1.Width)) + 1)) p1.Height) * p1.Width)) + (Int.tmod x6 p1.Width))) 0) z_Tile).S)))], [0, 1, 2, 3, 4, 5, 6, 7, 8, 9, 10, 11, 12, 13, 14, 15, 16, 17, 18, 19, 20, 21, 22, 23], [[], [], [0, 1], [0, 1, 2], [0, 1, 2, 3], [], [], [6], [], [8], [], [10], [8, 9, 10, 11], [], [13], [8, 9, 10, 11, 12, 13, 14], [], [8, 9, 10, 11, 12, 13, 14, 15, 16], [6, 7, 8, 9, 10, 11, 12, 13, 14, 15, 16, 17], [6, 7, 8, 9, 10, 11, 12, 13, 14, 15, 16, 17, 18], [5, 6, 7, 8, 9, 10, 11, 12, 13, 14, 15, 16, 17, 18, 19], [5, 6, 7, 8, 9, 10, 11, 12, 13, 14, 15, 16, 17, 18, 19, 20], [5, 6, 7, 8, 9, 10, 11, 12, 13, 14, 15, 16, 17, 18, 19, 20, 21], [0, 1, 2, 3, 4, 5, 6, 7, 8, 9, 10, 11, 12, 13, 14, 15, 16, 17, 18, 19, 20, 21, 22]]) [[0, 1, 2, 3, 4, 5, 6, 7, 8, 9, 10, 11, 12, 13, 14, 15, 16, 17, 18, 19, 20, 21, 22, 23]] (by kernel_rfl) (by kernel_rfl) (NoPanic.seq (NoPanic.block (NoPanic.seq (NoPanic.seq (NoPanic.block (NoPanic.seq (NoPanic.body))))))) ?_
      have hS39 := hS30.drew
      revert hS39
      generalize World.drew w29 = w38
      intro hS39
      refine ⟨⟨rowR.cell (hS39.rd 0).1 z_Tile h40.1 h40.2 0 rfl, hS39.cell 0 rfl 2 rfl, hS39.cell 0 rfl 1 rfl, hS39.cell 0 rfl 0 rfl, rowR.cell (hS39.rd 1).1 0 h42.1 h42.2 0 rfl, rowR.cell (hS39.rd 0).1 z_Tile h43.1 h43.2 2 rfl, trivial⟩, forallC ?_ (forallN)⟩
      refine segF 24 [.v (iv ((rdD p0 (rdD p1.Cells x6 0) z_Tile).N)), .v (sv Ab p1.Cells cb), .v (iv p1.Height), .v (iv p1.Width), .v (iv (rdD p1.Cells (w64 ((w64 ((Int.tmod (w64 ((w64 (Int.tdiv x6 p1.Width)) + 1)) p1.Height) * p1.Width)) + (Int.tmod x6 p1.Width))) 0)), .v (iv ((rdD p0 (rdD p1.Cells (w64 ((w64 ((Int.tmod (w64 ((w64 (Int.tdiv x6 p1.Width)) + 1)) p1.Height) * p1.Width)) + (Int.tmod x6 p1.Width))) 0) z_Tile).S))] [0, 2, 4, 12, 13, 14, 90] [(0, (sv Aa p0 ca)), (2, (bv p2)), (4, (pt g3)), (12, (sv Ab p1.Cells cb)), (13, (iv (p1.Cells.length : Int))), (14, (iv x6)), (90, (bv (((rdD p0 (rdD p1.Cells x6 0) z_Tile).N) != ((rdD p0 (rdD p1.Cells (w64 ((w64 ((Int.tmod (w64 ((w64 (Int.tdiv x6 p1.Width)) + 1)) p1.Height) * p1.Width)) + (Int.tmod x6 p1.Width))) 0) z_Tile).S))))] [.idx Aa (rdD p1.Cells x6 0) p0.length, .ne p1.Height, .idx Ab (w64 ((w64 ((Int.tmod (w64 ((w64 (Int.tdiv x6 p1.Width)) + 1)) p1.Height) * p1.Width)) + (Int.tmod x6 p1.Width))) p1.Cells.length, .idx Aa (rdD p1.Cells (w64 ((w64 ((Int.tmod (w64 ((w64 (Int.tdiv x6 p1.Width)) + 1)) p1.Height) * p1.Width)) + (Int.tmod x6 p1.Width))) 0) p0.length] [0, 1, 2, 3, 4, 5] [(4, ((adr Aa).add (((rdD p1.Cells x6 0)).toNat * 4)), (iv ((rdD p0 (rdD p1.Cells x6 0) z_Tile).N))), (7, ⟨g3, 2, none⟩, (sv Ab p1.Cells cb)), (11, ⟨g3, 1, none⟩, (iv p1.Height)), (14, ⟨g3, 0, none⟩, (iv p1.Width)), (19, ((adr Ab).add ((w64 ((w64 ((Int.tmod (w64 ((w64 (Int.tdiv x6 p1.Width)) + 1)) p1.Height) * p1.Width)) + (Int.tmod x6 p1.Width))).toNat * 1)), (iv (rdD p1.Cells (w64 ((w64 ((Int.tmod (w64 ((w64 (Int.tdiv x6 p1.Width)) + 1)) p1.Height) * p1.Width)) + (Int.tmod x6 p1.Width))) 0))), (22, (((adr Aa).add (((rdD p1.Cells (w64 ((w64 ((Int.tmod (w64 ((w64 (Int.tdiv x6 p1.Width)) + 1)) p1.Height) * p1.Width)) + (Int.tmod x6 p1.Width))) 0)).toNat * 4)).add 2), (iv ((rdD p0 (rdD p1.Cells (w64 ((w64 ((Int.tmod (w64 ((w64 (Int.tdiv x6 p1.Width)) + 1)) p1.Height) * p1.Width)) + (Int.tmod x6 p1.Width))) 0) z_Tile).S)))] (fun fb => by kernel_rfl) rfl ⟨rowR.adr (hS39.rd 0).1 h40.1 h40.2, h41, rowR.adr (hS39.rd 1).1 h42.1 h42.2, rowR.adr (hS39.rd 0).1 h43.1 h43.2, trivial⟩ rfl ?_
      refine WL.done rfl (WX.next ?_)
      rcases br_some hx36 with ⟨h44, hx36⟩ | ⟨h44, hx36⟩
      ·refine WC.condT2 (fun fb => by kernel_rfl) h44 ?_
       refine WC.seq (WC.region ?_)
       refine sg 1 [] [6] [(6, (bv false))] (by kernel_rfl) ?_
       refine WL.done rfl (WX.next ?_)
       refine WC.ret ?_
       injection hx36 with hx36
       subst hx36
       injection hl12 with hl12
       subst hl12
       injection hf with hf
       subst hf
       exact WX.blockR (WX.thenR (WX.thenR (WX.blockR (WX.thenR (WX.ret_ [] (bv false) [] (fun fb => by kernel_rfl) trivial ⟨_, rfl, rfl, hS39.keep⟩)))))
      refine WC.condF2 (fun fb => by kernel_rfl) h44 ?_
      refine WC.skip ?_
      injection hx36 with hx36
      exact WX.to Kx35 () [0, 2, 4, 12, 13, 14] rfl ⟨(hS39.subR [0, 1]).sub [0] (by decide), hx36.symm⟩
     refine WC.condF2 (fun fb => by kernel_rfl) h37 ?_
     refine WC.skip ?_
     injection hx36 with hx36
     exact WX.to Kx35 () [0, 2, 4, 12, 13, 14] rfl ⟨(hS30.subR [0, 1]).sub [0] (by decide), hx36.symm⟩
    rintro y48 w45 ⟨hS46, hq47⟩
    subst hq47
    have hl12 := sum_inr hl12
    refine WX.blockN (WX.next ?_)
    refine WC.region ?_
    refine sg 2 [] [0, 2, 4, 12, 13, 14] [(0, (sv Aa p0 ca)), (2, (bv p2)), (4, (pt g3)), (12, (sv Ab p1.Cells cb)), (13, (iv (p1.Cells.length : Int))), (14, (iv (w64 (x6 + 1))))] (by kernel_rfl) ?_
    refine WL.done rfl ?_
    exact WX.again k9 (Nat.lt_succ_self _) (w64 (x6 + 1)) [0, 2, 4, 12, 13, 14] rfl ⟨(hS46.subR [0, 1]).sub [0] (by decide), hl12⟩
   refine WC.condF2 (fun fb => by kernel_rfl) h13 ?_
   refine WC.exit ?_
   injection hl12 with hl12
   exact WX.thenX (WX.thenX (WX.blockHere (WX.to Kx7 () [] rfl ⟨(hS11.subR [0, 1]).sub [] (by decide), hl12.symm⟩)))
 rintro y52 w49 ⟨hS50, hq51⟩
 subst hq51
 have hf := sum_inr hf
 refine WX.next (WC.seq (WC.region ?_))
 refine sg 1 [] [6] [(6, (bv true))] (by kernel_rfl) ?_
 refine WL.done rfl (WX.next ?_)
 refine WC.ret ?_
 injection hf with hf
 subst hf
 exact WX.ret_ [] (bv true) [] (fun fb => by kernel_rfl) trivial ⟨_, rfl, rfl, hS50.keep⟩
theorem tile_Repeats_calls (k : Nat) (p0 : List Tile) (p1 : Pattern) (Aa : Option Addr) (ca : Nat) (Ab : Option Addr) (cb : Nat) (r : Bool) (w : World) (hR0 : RO NoS w (rowR enc_Tile Aa ca p0)) (hR1 : RO NoS w (rowR encInt Ab cb p1.Cells)) (hf : tile_Repeats k p0 p1 = some r) :
  CallsR Try.prog 50 #[(sv Aa p0 ca), (.agg #[(iv p1.Width), (iv p1.Height), (sv Ab p1.Cells cb)])] w (fun v w' => v = (bv r) ∧ Keeps NoS w w') := by
 have hS : St NoS w w [rowR enc_Tile Aa ca p0, rowR encInt Ab cb p1.Cells] [] := St.init (ro_cons hR0 (ro_cons hR1 (ro_nil _ _)))
 refine enter 13 Try.func50 rfl Try.ntmps50 rfl ?_
 unfold tile_Repeats at hf
 refine WC.seq (WC.region ?_)
 refine WL.new hS 3 [] (fun g => (pt g)) (.cells #[(iv p1.Width), (iv p1.Height), (sv Ab p1.Cells cb)] 39 (0, 0)) [] (fun fb g => by kernel_rfl) trivial (fun g2 w3 hS4 => ?_)
 refine ⟨trivial, ?_⟩
 refine sg 2 [] [0, 3] [(0, (sv Aa p0 ca)), (3, (pt g2))] (by kernel_rfl) ?_
 refine WL.done rfl (WX.next (WC.seq (WC.region ?_)))
 refine seg 2 [.v (iv p1.Width), .v (iv p1.Height), .v (sv Ab p1.Cells cb)] [0, 3, 5, 6] [(0, (sv Aa p0 ca)), (3, (pt g2)), (5, (sv Aa p0 ca)), (6, (.agg #[(iv p1.Width), (iv p1.Height), (sv Ab p1.Cells cb)]))] [.cell ⟨g2, 0, none⟩ (iv p1.Width), .cell ⟨g2, 1, none⟩ (iv p1.Height), .cell ⟨g2, 2, none⟩ (sv Ab p1.Cells cb)] (fun fb => by kernel_rfl) rfl ⟨hS4.cell 0 rfl 0 rfl, hS4.cell 0 rfl 1 rfl, hS4.cell 0 rfl 2 rfl, trivial⟩ ?_
 obtain ⟨t5, ht6, hf⟩ := bind_some hf
 refine WL.call (some 7) 70 #[(sv Aa p0 ca), (.agg #[(iv p1.Width), (iv p1.Height), (sv Ab p1.Cells cb)])] (fun fb => by kernel_rfl) (tile_of_calls _ p0 p1 Aa ca Ab cb t5 _ (hS4.rd 0) (hS4.rd 1) ht6) (fun v w7 hR8 => ?_)
 obtain ⟨rfl, hk_⟩ := hR8
 have hS9 := hS4.keepN hk_
 refine ⟨trivial, ?_⟩
 refine sg 4 [] [0, 3, 8] [(0, (sv Aa p0 ca)), (3, (pt g2)), (8, (bv t5))] (by kernel_rfl) ?_
 obtain ⟨x10, hx11, hf⟩ := bind_some hf
 refine WL.cutW (T := Bool) 8 (fun t => [(12, (bv t))]) (fun t w1 => (St NoS w w1 [rowR enc_Tile Aa ca p0, rowR encInt Ab cb p1.Cells] [] ∧ x10 = t) ∧ CellsOK [] w1) (fun K => ?_) ?_
 ·
  rcases br_some hx11 with ⟨h12, hx11⟩ | ⟨h12, hx11⟩
  ·
   refine WL.setB 8 h12 rfl ?_
   refine seg 6 [.v (iv p1.Width), .v (iv p1.Height), .v (sv Ab p1.Cells cb)] [8, 9, 10] [(8, (bv true)), (9, (sv Aa p0 ca)), (10, (.agg #[(iv p1.Width), (iv p1.Height), (sv Ab p1.Cells cb)]))] [.cell ⟨g2, 0, none⟩ (iv p1.Width), .cell ⟨g2, 1, none⟩ (iv p1.Height), .cell ⟨g2, 2, none⟩ (sv Ab p1.Cells cb)] (fun fb => by kernel_rfl) rfl ⟨hS9.cell 0 rfl 0 rfl, hS9.cell 0 rfl 1 rfl, hS9.cell 0 rfl 2 rfl, trivial⟩ ?_
   obtain ⟨t13, ht14, hx11⟩ := bind_some hx11
   refine WL.call (some 11) 71 #[(sv Aa p0 ca), (.agg #[(iv p1.Width), (iv p1.Height), (sv Ab p1.Cells cb)]), (bv true)] (fun fb => by kernel_rfl) (tile_joins_calls _ p0 p1 true Aa ca Ab cb t13 _ (hS9.rd 0) (hS9.rd 1) ht14) (fun v w15 hR16 => ?_)
   obtain ⟨rfl, hk_⟩ := hR16
   have hS17 := hS9.keepN hk_
   refine ⟨trivial, ?_⟩
   refine sg 8 [] [12] [(12, (bv t13))] (by kernel_rfl) ?_
   injection hx11 with hx11
   exact WL.to K t13 [12] rfl ⟨⟨(hS17.subR [0, 1]).sub [] (by decide), hx11.symm⟩, trivial⟩
  refine WL.setB 8 h12 rfl ?_
  refine sg 8 [] [12] [(12, (bv false))] (by kernel_rfl) ?_
  injection hx11 with hx11
  exact WL.to K false [12] rfl ⟨⟨(hS9.subR [0, 1]).sub [] (by decide), hx11.symm⟩, trivial⟩
 rintro y18 w20 ⟨⟨hS21, hq19⟩, hF22⟩
 subst hq19
 refine sg 9 [] [4] [(4, (bv x10))] (by kernel_rfl) ?_
 refine WL.done rfl (WX.next ?_)
 refine WC.ret ?_
 injection hf with hf
 subst hf
 exact WX.ret_ [] (bv x10) [] (fun fb => by kernel_rfl) trivial ⟨_, rfl, rfl, hS21.keep⟩
theorem top_sameInts_calls (k : Nat) (p0 : List Int) (p1 : List Int) (Aa : Option Addr) (ca : Nat) (Ab : Option Addr) (cb : Nat) (r : Bool) (w : World) (hR0 : RO NoS w (rowR encInt Aa ca p0)) (hR1 : RO NoS w (rowR encInt Ab cb p1)) (hf : top_sameInts k p0 p1 = some r) :
  CallsR Try.prog 51 #[(sv Aa p0 ca), (sv Ab p1 cb)] w (fun v w' => v = (bv r) ∧ Keeps NoS w w') := by
 have hS : St NoS w w [rowR encInt Aa ca p0, rowR encInt Ab cb p1] [] := St.init (ro_cons hR0 (ro_cons hR1 (ro_nil _ _)))
 refine enter 26 Try.func51 rfl Try.ntmps51 rfl ?_
 unfold top_sameInts at hf
 refine WC.seq (WC.region ?_)
 refine sg 1 [] [0, 1] [(0, (sv Aa p0 ca)), (1, (sv Ab p1 cb))] (by kernel_rfl) ?_
 refine WL.done rfl (WX.next (WC.seq (WC.seq (WC.region ?_))))
 refine sg 5 [] [0, 1, 10] [(0, (sv Aa p0 ca)), (1, (sv Ab p1 cb)), (10, (bv ((p0.length : Int) != (p1.length : Int))))] (by kernel_rfl) ?_
 refine WL.done rfl (WX.next ?_)
 rcases br_some hf with ⟨h3, hf⟩ | ⟨h3, hf⟩
 ·refine WC.condT2 (fun fb => by kernel_rfl) h3 ?_
  refine WC.seq (WC.region ?_)
  refine sg 1 [] [4] [(4, (bv false))] (by kernel_rfl) ?_
  refine WL.done rfl (WX.next ?_)
  refine WC.ret ?_
  injection hf with hf
  subst hf
  exact WX.thenR (WX.ret_ [] (bv false) [] (fun fb => by kernel_rfl) trivial ⟨_, rfl, rfl, hS.keep⟩)
 refine WC.condF2 (fun fb => by kernel_rfl) h3 ?_
 refine WC.skip (WX.next (WC.seq (WC.seq (WC.region ?_))))
 refine sg 1 [] [0, 1, 5] [(0, (sv Aa p0 ca)), (1, (sv Ab p1 cb)), (5, (iv 0))] (by kernel_rfl) ?_
 refine WL.done rfl (WX.next ?_)
 obtain ⟨x5, hx6, hf⟩ := bind_some hf
 refine WC.cutN (T := Unit) (fun t => []) (fun t w1 => St NoS w w1 [rowR encInt Aa ca p0, rowR encInt Ab cb p1] [] ∧ x5 = .inr t) (fun Kx5 => ?_) ?_
 ·
  refine WC.block ?_
  refine WC.loop (T := Int) (fun t => [(0, (sv Aa p0 ca)), (1, (sv Ab p1 cb)), (5, (iv t))]) (fun n t w1 => St NoS w w1 [rowR encInt Aa ca p0, rowR encInt Ab cb p1] [] ∧ top_sameInts.l0 n t p0 p1 = some x5) k 0 [0, 1, 5] rfl ⟨(hS.subR [0, 1]).sub [] (by decide), hx6⟩ ?_
  rintro k7 x4 w8 ⟨hS9, hl10⟩
  cases k7 with
  | zero => rw [top_sameInts.l0] at hl10; cases hl10
  | succ k7 =>
   rw [top_sameInts.l0] at hl10
   refine WC.seq (WC.seq (WC.region ?_))
   refine sg 4 [] [0, 1, 5, 14] [(0, (sv Aa p0 ca)), (1, (sv Ab p1 cb)), (5, (iv x4)), (14, (bv (decide (x4 < (p0.length : Int)))))] (by kernel_rfl) ?_
   refine WL.done rfl (WX.next ?_)
   rcases br_some hl10 with ⟨h11, hl10⟩ | ⟨h11, hl10⟩
   ·refine WC.condT2 (fun fb => by kernel_rfl) h11 ?_
    refine WC.skip (WX.next (WC.seq (WC.block (WC.seq ?_))))
    obtain ⟨h14, hl10⟩ := as_some hl10
    obtain ⟨h15, hl10⟩ := as_some hl10
    refine WC.regionD ([(3, ((adr Aa).add ((x4).toNat * 1)), (iv (rdD p0 x4 0))), (7, ((adr Ab).add ((x4).toNat * 1)), (iv (rdD p1 x4 0)))], [0, 1, 2, 3, 4, 5, 6, 7, 8], [[], [], [0, 1], [0, 1, 2], [], [], [4, 5], [4, 5, 6], [0, 1, 2, 3, 4, 5, 6, 7]]) [[0, 1, 2, 3, 4, 5, 6, 7, 8]] (by kernel_rfl) (by kernel_rfl) (NoPanic.seq (NoPanic.block (NoPanic.seq (NoPanic.seq (NoPanic.block (NoPanic.seq (NoPanic.body))))))) ?_
    have hS13 := hS9.drew
    revert hS13
    generalize World.drew w8 = w12
    intro hS13
    refine ⟨⟨rowR.cell (hS13.rd 0).1 0 h14.1 h14.2 0 rfl, rowR.cell (hS13.rd 1).1 0 h15.1 h15.2 0 rfl, trivial⟩, forallC ?_ (forallN)⟩
    refine segF 9 [.v (iv (rdD p0 x4 0)), .v (iv (rdD p1 x4 0))] [0, 1, 5, 25] [(0, (sv Aa p0 ca)), (1, (sv Ab p1 cb)), (5, (iv x4)), (25, (bv ((rdD p0 x4 0) != (rdD p1 x4 0))))] [.idx Aa x4 p0.length, .idx Ab x4 p1.length] [0, 1] [(3, ((adr Aa).add ((x4).toNat * 1)), (iv (rdD p0 x4 0))), (7, ((adr Ab).add ((x4).toNat * 1)), (iv (rdD p1 x4 0)))] (fun fb => by kernel_rfl) rfl ⟨rowR.adr (hS13.rd 0).1 h14.1 h14.2, rowR.adr (hS13.rd 1).1 h15.1 h15.2, trivial⟩ rfl ?_
    refine WL.done rfl (WX.next ?_)
    rcases br_some hl10 with ⟨h16, hl10⟩ | ⟨h16, hl10⟩
    ·refine WC.condT2 (fun fb => by kernel_rfl) h16 ?_
     refine WC.seq (WC.region ?_)
     refine sg 1 [] [4] [(4, (bv false))] (by kernel_rfl) ?_
     refine WL.done rfl (WX.next ?_)
     refine WC.ret ?_
     injection hl10 with hl10
     subst hl10
     injection hf with hf
     subst hf
     exact WX.blockR (WX.thenR (WX.thenR (WX.blockR (WX.thenR (WX.ret_ [] (bv false) [] (fun fb => by kernel_rfl) trivial ⟨_, rfl, rfl, hS13.keep⟩)))))
    refine WC.condF2 (fun fb => by kernel_rfl) h16 ?_
    refine WC.skip ?_
    refine WX.blockN (WX.next ?_)
    refine WC.region ?_
    refine sg 3 [] [0, 1, 5] [(0, (sv Aa p0 ca)), (1, (sv Ab p1 cb)), (5, (iv (w64 (x4 + 1))))] (by kernel_rfl) ?_
    refine WL.done rfl ?_
    exact WX.again k7 (Nat.lt_succ_self _) (w64 (x4 + 1)) [0, 1, 5] rfl ⟨(hS13.subR [0, 1]).sub [] (by decide), hl10⟩
   refine WC.condF2 (fun fb => by kernel_rfl) h11 ?_
   refine WC.exit ?_
   injection hl10 with hl10
   exact WX.thenX (WX.thenX (WX.blockHere (WX.to Kx5 () [] rfl ⟨(hS9.subR [0, 1]).sub [] (by decide), hl10.symm⟩)))
 rintro y20 w17 ⟨hS18, hq19⟩
 subst hq19
 have hf := sum_inr hf
 refine WX.next (WC.seq (WC.region ?_))
 refine sg 1 [] [4] [(4, (bv true))] (by kernel_rfl) ?_
 refine WL.done rfl (WX.next ?_)
 refine WC.ret ?_
 injection hf with hf
 subst hf
 exact WX.ret_ [] (bv true) [] (fun fb => by kernel_rfl) trivial ⟨_, rfl, rfl, hS18.keep⟩
theorem tile_Fits_calls (k : Nat) (p0 : List Tile) (p1 : Pattern) (Aa : Option Addr) (ca : Nat) (Ab : Option Addr) (cb : Nat) (r : Bool) (w : World) (hR0 : RO NoS w (rowR enc_Tile Aa ca p0)) (hR1 : RO NoS w (rowR encInt Ab cb p1.Cells)) (hf : tile_Fits k p0 p1 = some r) :
  CallsR Try.prog 52 #[(sv Aa p0 ca), (.agg #[(iv p1.Width), (iv p1.Height), (sv Ab p1.Cells cb)])] w (fun v w' => v = (bv r) ∧ Keeps NoS w w') := by
 have hS : St NoS w w [rowR enc_Tile Aa ca p0, rowR encInt Ab cb p1.Cells] [] := St.init (ro_cons hR0 (ro_cons hR1 (ro_nil _ _)))
 refine enter 13 Try.func52 rfl Try.ntmps52 rfl ?_
 unfold tile_Fits at hf
 refine WC.seq (WC.region ?_)
 refine WL.new hS 3 [] (fun g => (pt g)) (.cells #[(iv p1.Width), (iv p1.Height), (sv Ab p1.Cells cb)] 39 (0, 0)) [] (fun fb g => by kernel_rfl) trivial (fun g2 w3 hS4 => ?_)
 refine ⟨trivial, ?_⟩
 refine sg 2 [] [0, 3] [(0, (sv Aa p0 ca)), (3, (pt g2))] (by kernel_rfl) ?_
 refine WL.done rfl (WX.next (WC.seq (WC.region ?_)))
 refine seg 2 [.v (iv p1.Width), .v (iv p1.Height), .v (sv Ab p1.Cells cb)] [0, 3, 5, 6] [(0, (sv Aa p0 ca)), (3, (pt g2)), (5, (sv Aa p0 ca)), (6, (.agg #[(iv p1.Width), (iv p1.Height), (sv Ab p1.Cells cb)]))] [.cell ⟨g2, 0, none⟩ (iv p1.Width), .cell ⟨g2, 1, none⟩ (iv p1.Height), .cell ⟨g2, 2, none⟩ (sv Ab p1.Cells cb)] (fun fb => by kernel_rfl) rfl ⟨hS4.cell 0 rfl 0 rfl, hS4.cell 0 rfl 1 rfl, hS4.cell 0 rfl 2 rfl, trivial⟩ ?_
 obtain ⟨t5, ht6, hf⟩ := bind_some hf
 refine WL.call (some 7) 70 #[(sv Aa p0 ca), (.agg #[(iv p1.Width), (iv p1.Height), (sv Ab p1.Cells cb)])] (fun fb => by kernel_rfl) (tile_of_calls _ p0 p1 Aa ca Ab cb t5 _ (hS4.rd 0) (hS4.rd 1) ht6) (fun v w7 hR8 => ?_)
 obtain ⟨rfl, hk_⟩ := hR8
 have hS9 := hS4.keepN hk_
 refine ⟨trivial, ?_⟩
 refine sg 4 [] [0, 3, 8] [(0, (sv Aa p0 ca)), (3, (pt g2)), (8, (bv t5))] (by kernel_rfl) ?_
 obtain ⟨x10, hx11, hf⟩ := bind_some hf
 refine WL.cutW (T := Bool) 8 (fun t => [(12, (bv t))]) (fun t w1 => (St NoS w w1 [rowR enc_Tile Aa ca p0, rowR encInt Ab cb p1.Cells] [] ∧ x10 = t) ∧ CellsOK [] w1) (fun K => ?_) ?_
 ·
  rcases br_some hx11 with ⟨h12, hx11⟩ | ⟨h12, hx11⟩
  ·
   refine WL.setB 8 h12 rfl ?_
   refine seg 6 [.v (iv p1.Width), .v (iv p1.Height), .v (sv Ab p1.Cells cb)] [8, 9, 10] [(8, (bv true)), (9, (sv Aa p0 ca)), (10, (.agg #[(iv p1.Width), (iv p1.Height), (sv Ab p1.Cells cb)]))] [.cell ⟨g2, 0, none⟩ (iv p1.Width), .cell ⟨g2, 1, none⟩ (iv p1.Height), .cell ⟨g2, 2, none⟩ (sv Ab p1.Cells cb)] (fun fb => by kernel_rfl) rfl ⟨hS9.cell 0 rfl 0 rfl, hS9.cell 0 rfl 1 rfl, hS9.cell 0 rfl 2 rfl, trivial⟩ ?_
   obtain ⟨t13, ht14, hx11⟩ := bind_some hx11
   refine WL.call (some 11) 71 #[(sv Aa p0 ca), (.agg #[(iv p1.Width), (iv p1.Height), (sv Ab p1.Cells cb)]), (bv false)] (fun fb => by kernel_rfl) (tile_joins_calls _ p0 p1 false Aa ca Ab cb t13 _ (hS9.rd 0) (hS9.rd 1) ht14) (fun v w15 hR16 => ?_)
   obtain ⟨rfl, hk_⟩ := hR16
   have hS17 := hS9.keepN hk_
   refine ⟨trivial, ?_⟩
   refine sg 8 [] [12] [(12, (bv t13))] (by kernel_rfl) ?_
   injection hx11 with hx11
   exact WL.to K t13 [12] rfl ⟨⟨(hS17.subR [0, 1]).sub [] (by decide), hx11.symm⟩, trivial⟩
  refine WL.setB 8 h12 rfl ?_
  refine sg 8 [] [12] [(12, (bv false))] (by kernel_rfl) ?_
  injection hx11 with hx11
  exact WL.to K false [12] rfl ⟨⟨(hS9.subR [0, 1]).sub [] (by decide), hx11.symm⟩, trivial⟩
 rintro y18 w20 ⟨⟨hS21, hq19⟩, hF22⟩
 subst hq19
 refine sg 9 [] [4] [(4, (bv x10))] (by kernel_rfl) ?_
 refine WL.done rfl (WX.next ?_)
 refine WC.ret ?_
 injection hf with hf
 subst hf
 exact WX.ret_ [] (bv x10) [] (fun fb => by kernel_rfl) trivial ⟨_, rfl, rfl, hS21.keep⟩
theorem top_lives_calls (k : Nat)   (r : Bool) (w : World)  (hf : top_lives k = some r) :
  CallsR Try.prog 36 #[] w (fun v w' => v = (bv r) ∧ Keeps NoS w w') := by
 have hS : St NoS w w [] [] := St.init (ro_nil _ _)
 refine enter 36 Try.func36 rfl Try.ntmps36 rfl ?_
 unfold top_lives at hf
 refine WC.seq (WC.region ?_)
 refine sg 1 [] [] [] (by kernel_rfl) ?_
 refine WL.done rfl (WX.next (WC.seq (WC.region ?_)))
 refine WL.new hS 4 [] (fun g => (.slice (some ⟨g, 0, none⟩) 4 4)) (.cells #[(iv 0), (iv 1), (iv 1), (iv 0)] 3 (0, 0)) [] (fun fb g => by kernel_rfl) trivial (fun g3 w4 hS5 => ?_)
 refine ⟨trivial, ?_⟩
 have hS6 := hS.go w4 [rowO 3 encInt (some ⟨g3, 0, none⟩) 4 [0, 1, 1, 0]] (hS5.map1 0 _ (fun h => rowO.ofBlk h rfl (Nat.le_of_ble_eq_true (by kernel_rfl))) (fun _ h => by obtain ⟨_, h1, h2⟩ := h; injection h1 with h1; subst h1; exact h2) [] (by decide) (by decide))
 refine sg 2 [] [5] [(5, (.agg #[(iv 2), (iv 2), (sv (some ⟨g3, 0, none⟩) [0, 1, 1, 0] 4)]))] (by kernel_rfl) ?_
 refine WL.new hS6 1 [] (fun g => (pt g)) (.cells #[(iv 0), (iv 0), (.slice none 0 0)] 39 (0, 0)) [] (fun fb g => by kernel_rfl) trivial (fun g7 w8 hS9 => ?_)
 refine ⟨trivial, ?_⟩
 refine WL.store hS9 0 rfl [(0, (iv 2)), (1, (iv 2)), (2, (sv (some ⟨g3, 0, none⟩) [0, 1, 1, 0] 4))] #[(iv 2), (iv 2), (sv (some ⟨g3, 0, none⟩) [0, 1, 1, 0] 4)] (fun fb => by kernel_rfl) (by kernel_rfl) rfl [1] (by decide) (by decide) (fun w10 hS11 => ?_)
 refine ⟨trivial, ?_⟩
 refine WL.done rfl (WX.next (WC.seq (WC.region ?_)))
 refine seg 1 [.v (iv 2), .v (iv 2), .v (sv (some ⟨g3, 0, none⟩) [0, 1, 1, 0] 4)] [1, 7] [(1, (pt g7)), (7, (.agg #[(iv 2), (iv 2), (sv (some ⟨g3, 0, none⟩) [0, 1, 1, 0] 4)]))] [.cell ⟨g7, 0, none⟩ (iv 2), .cell ⟨g7, 1, none⟩ (iv 2), .cell ⟨g7, 2, none⟩ (sv (some ⟨g3, 0, none⟩) [0, 1, 1, 0] 4)] (fun fb => by kernel_rfl) rfl ⟨hS11.cell 0 rfl 0 rfl, hS11.cell 0 rfl 1 rfl, hS11.cell 0 rfl 2 rfl, trivial⟩ ?_
 obtain ⟨t12, ht13, hf⟩ := bind_some hf
 refine WL.call (some 8) 49 #[(.agg #[(iv 2), (iv 2), (sv (some ⟨g3, 0, none⟩) [0, 1, 1, 0] 4)]), (iv 3), (iv 1)] (fun fb => by kernel_rfl) (tile_Repeat_calls _ (Pattern.mk 2 2 [0, 1, 1, 0]) 3 1 (some ⟨g3, 0, none⟩) 4 t12 _ (hS11.ow 1).ofO ht13) (fun v w14 hR15 => ?_)
 obtain ⟨A17, c18, rfl, hk_⟩ := hR15
 have hS16 := hS6.go w14 [rowO 3 encInt A17 c18 t12.1.Cells, blk g7 (.cells #[(iv 2), (iv 2), (.slice (some ⟨g3, 0, none⟩) [0, 1, 1, 0].length 4)] 39 (0, 0)), rowO 3 encInt (some ⟨g3, 0, none⟩) 4 [0, 1, 1, 0]] (hS11.call hk_ [] [0, 1] (fun g hg => hg.elim) (by simp) (by decide))
 refine ⟨trivial, ?_⟩
 refine sg 5 [] [1, 9, 10] [(1, (pt g7)), (9, (.agg #[(iv t12.1.Width), (iv t12.1.Height), (sv A17 t12.1.Cells c18)])), (10, (iv t12.2))] (by kernel_rfl) ?_
 refine WL.new hS16 2 [] (fun g => (pt g)) (.cells #[(iv 0), (iv 0), (.slice none 0 0)] 39 (0, 0)) [] (fun fb g => by kernel_rfl) trivial (fun g19 w20 hS21 => ?_)
 refine ⟨trivial, ?_⟩
 refine WL.store hS21 0 rfl [(0, (iv t12.1.Width)), (1, (iv t12.1.Height)), (2, (sv A17 t12.1.Cells c18))] #[(iv t12.1.Width), (iv t12.1.Height), (sv A17 t12.1.Cells c18)] (fun fb => by kernel_rfl) (by kernel_rfl) rfl [1, 2, 3] (by decide) (by decide) (fun w22 hS23 => ?_)
 refine ⟨trivial, ?_⟩
 refine sg 8 [] [1, 2, 3] [(1, (pt g7)), (2, (pt g19)), (3, (iv t12.2))] (by kernel_rfl) ?_
 refine WL.done rfl (WX.next (WC.seq ?_))
 obtain ⟨x24, hx25, hf⟩ := bind_some hf
 refine WC.cutN (T := Bool) (fun t => [(0, (bv t))]) (fun t w1 => St NoS w w1 [] [] ∧ x24 = t) (fun Kx24 => ?_) ?_
 ·
  refine WC.regionD ([(1, ⟨g7, 0, none⟩, (iv 2)), (1, ⟨g7, 1, none⟩, (iv 2)), (1, ⟨g7, 2, none⟩, (sv (some ⟨g3, 0, none⟩) [0, 1, 1, 0] 4)), (16, ⟨g19, 2, none⟩, (sv A17 t12.1.Cells c18)), (22, ⟨g19, 0, none⟩, (iv t12.1.Width)), (22, ⟨g19, 1, none⟩, (iv t12.1.Height)), (22, ⟨g19, 2, none⟩, (sv A17 t12.1.Cells c18))], [1, 3, 6, 8, 9, 10, 11, 12, 13, 14, 15, 16, 19, 20, 22, 24, 25], [[], [], [0, 1], [0, 1, 2], [0, 1, 2, 3], [0, 1, 2, 3], [0, 1, 2, 3, 5], [0, 1, 2, 3, 4, 5, 6], [0, 1, 2, 3, 4, 5, 6, 7], [0, 1, 2, 3, 4, 5, 6, 7, 8], [0, 1, 2, 3, 4, 5, 6, 7, 8, 9], [0, 1, 2, 3, 4, 5, 6, 7, 8, 9, 10], [0, 1, 2, 3, 4, 5, 6, 7, 8, 9, 10, 11], [0, 1, 2, 3, 4, 5, 6, 7, 8, 9, 10, 11, 12], [0, 1, 2, 3, 4, 5, 6, 7, 8, 9, 10, 11, 12, 13], [0, 1, 2, 3, 4, 5, 6, 7, 8, 9, 10, 11, 12, 13, 14], [0, 1, 2, 3, 4, 5, 6, 7, 8, 9, 10, 11, 12, 13, 14, 15], [0, 1, 2, 3, 4, 5, 6, 7, 8, 9, 10, 11, 12, 13, 14], [0, 1, 2, 3, 4, 5, 6, 7, 8, 9, 10, 11, 12, 13, 14, 15, 16, 17], [0, 1, 2, 3, 4, 5, 6, 7, 8, 9, 10, 11, 12, 13, 14, 15, 16, 17, 18], [0, 1, 2, 3, 4, 5, 6, 7, 8, 9, 10, 11, 12, 13, 14, 15, 16, 17, 18, 19], [0, 1, 2, 3, 4, 5, 6, 7, 8, 9, 10, 11, 12, 13, 14, 15, 16, 17, 18, 19, 20], [0, 1, 2, 3, 4, 5, 6, 7, 8, 9, 10, 11, 12, 13, 14, 15, 16, 17, 18, 19, 20], [0, 1, 2, 3, 4, 5, 6, 7, 8, 9, 10, 11, 12, 13, 14, 15, 16, 17, 18, 19, 20, 21, 22], [0, 1, 2, 3, 4, 5, 6, 7, 8, 9, 10, 11, 12, 13, 14, 15, 16, 17, 18, 19, 20, 21, 22, 23], [0, 1, 2, 3, 4, 5, 6, 7, 8, 9, 10, 11, 12, 13, 14, 15, 16, 17, 18, 19, 20, 21, 22, 23, 24]]) [[1, 0, 2, 3, 4, 5, 6, 7, 8, 9, 10, 11, 12, 13, 14, 15, 16, 17, 18, 19, 20, 22, 21, 23, 24, 25], [1, 0, 2, 3, 5, 6, 4, 7, 8, 9, 10, 11, 12, 13, 14, 15, 16, 17, 18, 19, 20, 22, 21, 23, 24, 25]] (by kernel_rfl) (by kernel_rfl) (NoPanic.seq (NoPanic.body)) ?_
  have hS27 := hS23.drew
  revert hS27
  generalize World.drew w22 = w26
  intro hS27
  refine ⟨⟨hS27.cell 2 rfl 0 rfl, hS27.cell 2 rfl 1 rfl, hS27.cell 2 rfl 2 rfl, hS27.cell 0 rfl 2 rfl, hS27.cell 0 rfl 0 rfl, hS27.cell 0 rfl 1 rfl, hS27.cell 0 rfl 2 rfl, trivial⟩, forallC ?_ (forallC ?_ (forallN))⟩
  ·
   refine segF 1 [.v (iv 2), .v (iv 2), .v (sv (some ⟨g3, 0, none⟩) [0, 1, 1, 0] 4)] [2, 3, 12] [(2, (pt g19)), (3, (iv t12.2)), (12, (.agg #[(iv 2), (iv 2), (sv (some ⟨g3, 0, none⟩) [0, 1, 1, 0] 4)]))] [] [0, 1, 2] [(1, ⟨g7, 0, none⟩, (iv 2)), (1, ⟨g7, 1, none⟩, (iv 2)), (1, ⟨g7, 2, none⟩, (sv (some ⟨g3, 0, none⟩) [0, 1, 1, 0] 4))] (fun fb => by kernel_rfl) rfl trivial rfl ?_
   obtain ⟨t28, ht29, hx25⟩ := bind_some hx25
   refine WL.call (some 11) 35 #[] (fun fb => by kernel_rfl) (top_chess_calls t28 _ ht29) (fun v w30 hR31 => ?_)
   obtain ⟨A33, c34, rfl, hk_⟩ := hR31
   have hS32 := hS16.go w30 [rowO 48 enc_Tile A33 c34 t28, blk g19 (.cells #[(iv t12.1.Width), (iv t12.1.Height), (.slice A17 t12.1.Cells.length c18)] 39 (0, 0)), rowO 3 encInt A17 c18 t12.1.Cells, blk g7 (.cells #[(iv 2), (iv 2), (.slice (some ⟨g3, 0, none⟩) [0, 1, 1, 0].length 4)] 39 (0, 0)), rowO 3 encInt (some ⟨g3, 0, none⟩) 4 [0, 1, 1, 0]] (hS27.call hk_ [] [0, 1, 2, 3] (fun g hg => hg.elim) (by simp) (by decide))
   refine ⟨⟨hS32.cell 3 rfl 0 rfl, hS32.cell 3 rfl 1 rfl, hS32.cell 3 rfl 2 rfl, hS32.cell 1 rfl 2 rfl, hS32.cell 1 rfl 0 rfl, hS32.cell 1 rfl 1 rfl, hS32.cell 1 rfl 2 rfl, trivial⟩, ?_⟩
   obtain ⟨t35, ht37, hx25⟩ := bind_some hx25
   refine WL.call (some 13) 50 #[(sv A33 t28 c34), (.agg #[(iv 2), (iv 2), (sv (some ⟨g3, 0, none⟩) [0, 1, 1, 0] 4)])] (fun fb => by kernel_rfl) (tile_Repeats_calls _ t28 (Pattern.mk 2 2 [0, 1, 1, 0]) A33 c34 (some ⟨g3, 0, none⟩) 4 t35 _ (hS32.ow 0).ofO (hS32.ow 4).ofO ht37) (fun v w38 hR39 => ?_)
   obtain ⟨rfl, hk_⟩ := hR39
   have hS40 := hS32.keepN hk_
   refine ⟨⟨hS40.cell 1 rfl 2 rfl, hS40.cell 1 rfl 0 rfl, hS40.cell 1 rfl 1 rfl, hS40.cell 1 rfl 2 rfl, trivial⟩, ?_⟩
   refine sg 4 [] [2, 3, 14] [(2, (pt g19)), (3, (iv t12.2)), (14, (bv t35))] (by kernel_rfl) ?_
   obtain ⟨x41, hx42, hx25⟩ := bind_some hx25
   refine WL.cutW (T := Bool) 10 (fun t => [(2, (pt g19)), (3, (iv t12.2)), (20, (bv t))]) (fun t w1 => (St NoS w w1 [] [blk g19 (.cells #[(iv t12.1.Width), (iv t12.1.Height), (sv A17 t12.1.Cells c18)] 39 (0, 0)), rowO 3 encInt A17 c18 t12.1.Cells] ∧ x41 = t) ∧ CellsOK [] w1) (fun K => ?_) ?_
   ·
    rcases br_some hx42 with ⟨h43, hx42⟩ | ⟨h43, hx42⟩
    ·
     refine WL.setB 14 h43 rfl ?_
     obtain ⟨t44, ht45, hx42⟩ := bind_some hx42
     refine WL.call (some 15) 35 #[] (fun fb => by kernel_rfl) (top_chess_calls t44 _ ht45) (fun v w46 hR47 => ?_)
     obtain ⟨A49, c50, rfl, hk_⟩ := hR47
     have hS48 := hS32.go w46 [rowO 48 enc_Tile A49 c50 t44, rowO 48 enc_Tile A33 c34 t28, blk g19 (.cells #[(iv t12.1.Width), (iv t12.1.Height), (.slice A17 t12.1.Cells.length c18)] 39 (0, 0)), rowO 3 encInt A17 c18 t12.1.Cells, blk g7 (.cells #[(iv 2), (iv 2), (.slice (some ⟨g3, 0, none⟩) [0, 1, 1, 0].length 4)] 39 (0, 0)), rowO 3 encInt (some ⟨g3, 0, none⟩) 4 [0, 1, 1, 0]] (hS40.call hk_ [] [0, 1, 2, 3, 4] (fun g hg => hg.elim) (by simp) (by decide))
     refine ⟨⟨hS48.cell 2 rfl 2 rfl, hS48.cell 2 rfl 0 rfl, hS48.cell 2 rfl 1 rfl, hS48.cell 2 rfl 2 rfl, trivial⟩, ?_⟩
     refine WL.new hS48 16 [] (fun g => (.slice (some ⟨g, 0, none⟩) 1 1)) (.cells #[(iv 0)] 3 (0, 0)) [] (fun fb g => by kernel_rfl) trivial (fun g51 w52 hS53 => ?_)
     refine ⟨⟨hS53.cell 3 rfl 2 rfl, hS53.cell 3 rfl 0 rfl, hS53.cell 3 rfl 1 rfl, hS53.cell 3 rfl 2 rfl, trivial⟩, ?_⟩
     have hS54 := hS48.go w52 [rowO 3 encInt (some ⟨g51, 0, none⟩) 1 [0], rowO 48 enc_Tile A49 c50 t44, rowO 48 enc_Tile A33 c34 t28, blk g19 (.cells #[(iv t12.1.Width), (iv t12.1.Height), (sv A17 t12.1.Cells c18)] 39 (0, 0)), rowO 3 encInt A17 c18 t12.1.Cells, blk g7 (.cells #[(iv 2), (iv 2), (sv (some ⟨g3, 0, none⟩) [0, 1, 1, 0] 4)] 39 (0, 0)), rowO 3 encInt (some ⟨g3, 0, none⟩) 4 [0, 1, 1, 0]] (hS53.map1 0 _ (fun h => rowO.ofBlk h rfl (Nat.le_of_ble_eq_true (by kernel_rfl))) (fun _ h => by obtain ⟨_, h1, h2⟩ := h; injection h1 with h1; subst h1; exact h2) [1, 2, 3, 4, 5, 6] (by decide) (by decide))
     refine sg 7 [] [2, 3, 14, 15, 17] [(2, (pt g19)), (3, (iv t12.2)), (14, (bv true)), (15, (sv A49 t44 c50)), (17, (.agg #[(iv 1), (iv 1), (sv (some ⟨g51, 0, none⟩) [0] 1)]))] (by kernel_rfl) ?_
     obtain ⟨t55, ht56, hx42⟩ := bind_some hx42
     refine WL.call (some 18) 50 #[(sv A49 t44 c50), (.agg #[(iv 1), (iv 1), (sv (some ⟨g51, 0, none⟩) [0] 1)])] (fun fb => by kernel_rfl) (tile_Repeats_calls _ t44 (Pattern.mk 1 1 [0]) A49 c50 (some ⟨g51, 0, none⟩) 1 t55 _ (hS54.ow 1).ofO (hS54.ow 0).ofO ht56) (fun v w57 hR58 => ?_)
     obtain ⟨rfl, hk_⟩ := hR58
     have hS59 := hS54.keepN hk_
     refine ⟨⟨hS59.cell 3 rfl 2 rfl, hS59.cell 3 rfl 0 rfl, hS59.cell 3 rfl 1 rfl, hS59.cell 3 rfl 2 rfl, trivial⟩, ?_⟩
     refine sg 10 [] [2, 3, 20] [(2, (pt g19)), (3, (iv t12.2)), (20, (bv (!t55)))] (by kernel_rfl) ?_
     injection hx42 with hx42
     exact WL.to K (!t55) [2, 3, 20] rfl ⟨⟨(hS59.subR []).sub [3, 4] (by decide), hx42.symm⟩, trivial⟩
    refine WL.setB 14 h43 rfl ?_
    refine sg 10 [] [2, 3, 20] [(2, (pt g19)), (3, (iv t12.2)), (20, (bv false))] (by kernel_rfl) ?_
    injection hx42 with hx42
    exact WL.to K false [2, 3, 20] rfl ⟨⟨(hS40.subR []).sub [1, 2] (by decide), hx42.symm⟩, trivial⟩
   rintro y60 w62 ⟨⟨hS63, hq61⟩, hF65⟩
   subst hq61
   refine sg 11 [] [2, 3, 21] [(2, (pt g19)), (3, (iv t12.2)), (21, (bv x41))] (by kernel_rfl) ?_
   refine WL.cutV (T := Bool) 14 (fun t => [(24, (bv t)), (2, (pt g19))]) (fun t => (x41 && (t12.2 == 0)) = t) (fun K => ?_) ?_
   ·
    rcases Bool.eq_false_or_eq_true x41 with h66 | h66
    ·
     refine WL.setB 21 h66 rfl ?_
     refine sg 14 [] [2, 24] [(2, (pt g19)), (24, (bv (t12.2 == 0)))] (by kernel_rfl) ?_
     exact WL.toV K (t12.2 == 0) [24, 2] rfl (by first | (rw [h66]; done) | (rw [h66]; rfl))
    refine WL.setB 21 h66 rfl ?_
    refine sg 14 [] [2, 24] [(2, (pt g19)), (24, (bv false))] (by kernel_rfl) ?_
    exact WL.toV K false [24, 2] rfl (by first | (rw [h66]; done) | (rw [h66]; rfl))
   rintro b67 rfl
   refine sg 15 [] [2, 25] [(2, (pt g19)), (25, (bv (x41 && (t12.2 == 0))))] (by kernel_rfl) ?_
   obtain ⟨x68, hx69, hx25⟩ := bind_some hx25
   refine WL.cutW (T := Bool) 20 (fun t => [(2, (pt g19)), (30, (bv t))]) (fun t w1 => (St NoS w w1 [] [blk g19 (.cells #[(iv t12.1.Width), (iv t12.1.Height), (sv A17 t12.1.Cells c18)] 39 (0, 0)), rowO 3 encInt A17 c18 t12.1.Cells] ∧ x68 = t) ∧ CellsOK [] w1) (fun K => ?_) ?_
   ·
    rcases br_some hx69 with ⟨h70, hx69⟩ | ⟨h70, hx69⟩
    ·
     refine WL.setB 25 h70 rfl ?_
     refine segF 17 [.v (sv A17 t12.1.Cells c18)] [2, 25, 27] [(2, (pt g19)), (25, (bv true)), (27, (sv A17 t12.1.Cells c18))] [] [3] [(16, ⟨g19, 2, none⟩, (sv A17 t12.1.Cells c18))] (fun fb => by kernel_rfl) rfl trivial rfl ?_
     refine WL.new hS63 28 [] (fun g => (.slice (some ⟨g, 0, none⟩) 3 3)) (.cells #[(iv 0), (iv 1), (iv 0)] 3 (0, 0)) [] (fun fb g => by kernel_rfl) trivial (fun g71 w72 hS73 => ?_)
     refine ⟨⟨hS73.cell 1 rfl 2 rfl, hS73.cell 1 rfl 0 rfl, hS73.cell 1 rfl 1 rfl, hS73.cell 1 rfl 2 rfl, trivial⟩, ?_⟩
     have hS74 := hS32.go w72 [rowO 3 encInt (some ⟨g71, 0, none⟩) 3 [0, 1, 0], blk g19 (.cells #[(iv t12.1.Width), (iv t12.1.Height), (sv A17 t12.1.Cells c18)] 39 (0, 0)), rowO 3 encInt A17 c18 t12.1.Cells] (hS73.map1 0 _ (fun h => rowO.ofBlk h rfl (Nat.le_of_ble_eq_true (by kernel_rfl))) (fun _ h => by obtain ⟨_, h1, h2⟩ := h; injection h1 with h1; subst h1; exact h2) [1, 2] (by decide) (by decide))
     obtain ⟨t75, ht76, hx69⟩ := bind_some hx69
     refine WL.call (some 29) 51 #[(sv A17 t12.1.Cells c18), (sv (some ⟨g71, 0, none⟩) [0, 1, 0] 3)] (fun fb => by kernel_rfl) (top_sameInts_calls _ t12.1.Cells [0, 1, 0] A17 c18 (some ⟨g71, 0, none⟩) 3 t75 _ (hS74.ow 2).ofO (hS74.ow 0).ofO ht76) (fun v w77 hR78 => ?_)
     obtain ⟨rfl, hk_⟩ := hR78
     have hS79 := hS74.keepN hk_
     refine ⟨⟨hS79.cell 1 rfl 0 rfl, hS79.cell 1 rfl 1 rfl, hS79.cell 1 rfl 2 rfl, trivial⟩, ?_⟩
     refine sg 20 [] [2, 30] [(2, (pt g19)), (30, (bv t75))] (by kernel_rfl) ?_
     injection hx69 with hx69
     exact WL.to K t75 [2, 30] rfl ⟨⟨(hS79.subR []).sub [1, 2] (by decide), hx69.symm⟩, trivial⟩
    refine WL.setB 25 h70 rfl ?_
    refine sg 20 [] [2, 30] [(2, (pt g19)), (30, (bv false))] (by kernel_rfl) ?_
    injection hx69 with hx69
    exact WL.to K false [2, 30] rfl ⟨⟨(hS63.subR []).sub [0, 1] (by decide), hx69.symm⟩, trivial⟩
   rintro y80 w82 ⟨⟨hS83, hq81⟩, hF84⟩
   subst hq81
   refine sg 21 [] [2, 31] [(2, (pt g19)), (31, (bv x68))] (by kernel_rfl) ?_
   obtain ⟨x85, hx86, hx25⟩ := bind_some hx25
   refine WL.cutW (T := Bool) 25 (fun t => [(35, (bv t))]) (fun t w1 => (St NoS w w1 [] [] ∧ x85 = t) ∧ CellsOK [] w1) (fun K => ?_) ?_
   ·
    rcases br_some hx86 with ⟨h87, hx86⟩ | ⟨h87, hx86⟩
    ·
     refine WL.setB 31 h87 rfl ?_
     refine segF 22 [.v (iv t12.1.Width), .v (iv t12.1.Height), .v (sv A17 t12.1.Cells c18)] [31, 33] [(31, (bv true)), (33, (.agg #[(iv t12.1.Width), (iv t12.1.Height), (sv A17 t12.1.Cells c18)]))] [] [4, 5, 6] [(22, ⟨g19, 0, none⟩, (iv t12.1.Width)), (22, ⟨g19, 1, none⟩, (iv t12.1.Height)), (22, ⟨g19, 2, none⟩, (sv A17 t12.1.Cells c18))] (fun fb => by kernel_rfl) rfl trivial rfl ?_
     obtain ⟨t88, ht89, hx86⟩ := bind_some hx86
     refine WL.call (some 32) 35 #[] (fun fb => by kernel_rfl) (top_chess_calls t88 _ ht89) (fun v w90 hR91 => ?_)
     obtain ⟨A93, c94, rfl, hk_⟩ := hR91
     have hS92 := hS32.go w90 [rowO 48 enc_Tile A93 c94 t88, blk g19 (.cells #[(iv t12.1.Width), (iv t12.1.Height), (.slice A17 t12.1.Cells.length c18)] 39 (0, 0)), rowO 3 encInt A17 c18 t12.1.Cells] (hS83.call hk_ [] [0, 1] (fun g hg => hg.elim) (by simp) (by decide))
     refine ⟨⟨hS92.cell 1 rfl 0 rfl, hS92.cell 1 rfl 1 rfl, hS92.cell 1 rfl 2 rfl, trivial⟩, ?_⟩
     obtain ⟨t95, ht96, hx86⟩ := bind_some hx86
     refine WL.call (some 34) 52 #[(sv A93 t88 c94), (.agg #[(iv t12.1.Width), (iv t12.1.Height), (sv A17 t12.1.Cells c18)])] (fun fb => by kernel_rfl) (tile_Fits_calls _ t88 t12.1 A93 c94 A17 c18 t95 _ (hS92.ow 0).ofO (hS92.ow 2).ofO ht96) (fun v w97 hR98 => ?_)
     obtain ⟨rfl, hk_⟩ := hR98
     have hS99 := hS92.keepN hk_
     refine ⟨trivial, ?_⟩
     refine sg 25 [] [35] [(35, (bv t95))] (by kernel_rfl) ?_
     injection hx86 with hx86
     exact WL.to K t95 [35] rfl ⟨⟨(hS99.subR []).sub [] (by decide), hx86.symm⟩, trivial⟩
    refine WL.setB 31 h87 rfl ?_
    refine sg 25 [] [35] [(35, (bv false))] (by kernel_rfl) ?_
    injection hx86 with hx86
    exact WL.to K false [35] rfl ⟨⟨(hS83.subR []).sub [] (by decide), hx86.symm⟩, trivial⟩
   rintro y100 w102 ⟨⟨hS103, hq101⟩, hF104⟩
   subst hq101
   refine sg 26 [] [0] [(0, (bv x85))] (by kernel_rfl) ?_
   refine WL.done rfl ?_
   injection hx25 with hx25
   exact WX.to Kx24 x85 [0] rfl ⟨(hS103.subR []).sub [] (by decide), hx25.symm⟩
  refine segF 1 [.v (iv 2), .v (iv 2), .v (sv (some ⟨g3, 0, none⟩) [0, 1, 1, 0] 4)] [2, 3, 12] [(2, (pt g19)), (3, (iv t12.2)), (12, (.agg #[(iv 2), (iv 2), (sv (some ⟨g3, 0, none⟩) [0, 1, 1, 0] 4)]))] [] [0, 1, 2] [(1, ⟨g7, 0, none⟩, (iv 2)), (1, ⟨g7, 1, none⟩, (iv 2)), (1, ⟨g7, 2, none⟩, (sv (some ⟨g3, 0, none⟩) [0, 1, 1, 0] 4))] (fun fb => by kernel_rfl) rfl trivial rfl ?_
  obtain ⟨t105, ht106, hx25⟩ := bind_some hx25
  refine WL.call (some 11) 35 #[] (fun fb => by kernel_rfl) (top_chess_calls t105 _ ht106) (fun v w107 hR108 => ?_)
  obtain ⟨A110, c111, rfl, hk_⟩ := hR108
  have hS109 := hS16.go w107 [rowO 48 enc_Tile A110 c111 t105, blk g19 (.cells #[(iv t12.1.Width), (iv t12.1.Height), (.slice A17 t12.1.Cells.length c18)] 39 (0, 0)), rowO 3 encInt A17 c18 t12.1.Cells, blk g7 (.cells #[(iv 2), (iv 2), (.slice (some ⟨g3, 0, none⟩) [0, 1, 1, 0].length 4)] 39 (0, 0)), rowO 3 encInt (some ⟨g3, 0, none⟩) 4 [0, 1, 1, 0]] (hS27.call hk_ [] [0, 1, 2, 3] (fun g hg => hg.elim) (by simp) (by decide))
  refine ⟨⟨hS109.cell 3 rfl 0 rfl, hS109.cell 3 rfl 1 rfl, hS109.cell 3 rfl 2 rfl, hS109.cell 1 rfl 2 rfl, hS109.cell 1 rfl 0 rfl, hS109.cell 1 rfl 1 rfl, hS109.cell 1 rfl 2 rfl, trivial⟩, ?_⟩
  obtain ⟨t112, ht113, hx25⟩ := bind_some hx25
  refine WL.call (some 13) 50 #[(sv A110 t105 c111), (.agg #[(iv 2), (iv 2), (sv (some ⟨g3, 0, none⟩) [0, 1, 1, 0] 4)])] (fun fb => by kernel_rfl) (tile_Repeats_calls _ t105 (Pattern.mk 2 2 [0, 1, 1, 0]) A110 c111 (some ⟨g3, 0, none⟩) 4 t112 _ (hS109.ow 0).ofO (hS109.ow 4).ofO ht113) (fun v w114 hR115 => ?_)
  obtain ⟨rfl, hk_⟩ := hR115
  have hS116 := hS109.keepN hk_
  refine ⟨⟨hS116.cell 1 rfl 2 rfl, hS116.cell 1 rfl 0 rfl, hS116.cell 1 rfl 1 rfl, hS116.cell 1 rfl 2 rfl, trivial⟩, ?_⟩
  refine sg 4 [] [2, 3, 14] [(2, (pt g19)), (3, (iv t12.2)), (14, (bv t112))] (by kernel_rfl) ?_
  obtain ⟨x117, hx118, hx25⟩ := bind_some hx25
  refine WL.cutW (T := Bool) 10 (fun t => [(2, (pt g19)), (3, (iv t12.2)), (20, (bv t))]) (fun t w1 => (St NoS w w1 [] [blk g19 (.cells #[(iv t12.1.Width), (iv t12.1.Height), (sv A17 t12.1.Cells c18)] 39 (0, 0)), rowO 3 encInt A17 c18 t12.1.Cells] ∧ x117 = t) ∧ CellsOK [] w1) (fun K => ?_) ?_
  ·
   rcases br_some hx118 with ⟨h119, hx118⟩ | ⟨h119, hx118⟩
   ·
    refine WL.setB 14 h119 rfl ?_
    refine WL.new hS116 16 [] (fun g => (.slice (some ⟨g, 0, none⟩) 1 1)) (.cells #[(iv 0)] 3 (0, 0)) [] (fun fb g => by kernel_rfl) trivial (fun g120 w121 hS122 => ?_)
    refine ⟨⟨hS122.cell 2 rfl 2 rfl, hS122.cell 2 rfl 0 rfl, hS122.cell 2 rfl 1 rfl, hS122.cell 2 rfl 2 rfl, trivial⟩, ?_⟩
    have hS123 := hS109.go w121 [rowO 3 encInt (some ⟨g120, 0, none⟩) 1 [0], rowO 48 enc_Tile A110 c111 t105, blk g19 (.cells #[(iv t12.1.Width), (iv t12.1.Height), (sv A17 t12.1.Cells c18)] 39 (0, 0)), rowO 3 encInt A17 c18 t12.1.Cells, blk g7 (.cells #[(iv 2), (iv 2), (sv (some ⟨g3, 0, none⟩) [0, 1, 1, 0] 4)] 39 (0, 0)), rowO 3 encInt (some ⟨g3, 0, none⟩) 4 [0, 1, 1, 0]] (hS122.map1 0 _ (fun h => rowO.ofBlk h rfl (Nat.le_of_ble_eq_true (by kernel_rfl))) (fun _ h => by obtain ⟨_, h1, h2⟩ := h; injection h1 with h1; subst h1; exact h2) [1, 2, 3, 4, 5] (by decide) (by decide))
    refine sg 6 [] [2, 3, 14, 17] [(2, (pt g19)), (3, (iv t12.2)), (14, (bv true)), (17, (.agg #[(iv 1), (iv 1), (sv (some ⟨g120, 0, none⟩) [0] 1)]))] (by kernel_rfl) ?_
    obtain ⟨t124, ht125, hx118⟩ := bind_some hx118
    refine WL.call (some 15) 35 #[] (fun fb => by kernel_rfl) (top_chess_calls t124 _ ht125) (fun v w126 hR127 => ?_)
    obtain ⟨A129, c130, rfl, hk_⟩ := hR127
    have hS128 := hS123.go w126 [rowO 48 enc_Tile A129 c130 t124, rowO 3 encInt (some ⟨g120, 0, none⟩) 1 [0], rowO 48 enc_Tile A110 c111 t105, blk g19 (.cells #[(iv t12.1.Width), (iv t12.1.Height), (.slice A17 t12.1.Cells.length c18)] 39 (0, 0)), rowO 3 encInt A17 c18 t12.1.Cells, blk g7 (.cells #[(iv 2), (iv 2), (.slice (some ⟨g3, 0, none⟩) [0, 1, 1, 0].length 4)] 39 (0, 0)), rowO 3 encInt (some ⟨g3, 0, none⟩) 4 [0, 1, 1, 0]] (hS123.call hk_ [] [0, 1, 2, 3, 4, 5] (fun g hg => hg.elim) (by simp) (by decide))
    refine ⟨⟨hS128.cell 3 rfl 2 rfl, hS128.cell 3 rfl 0 rfl, hS128.cell 3 rfl 1 rfl, hS128.cell 3 rfl 2 rfl, trivial⟩, ?_⟩
    obtain ⟨t131, ht132, hx118⟩ := bind_some hx118
    refine WL.call (some 18) 50 #[(sv A129 t124 c130), (.agg #[(iv 1), (iv 1), (sv (some ⟨g120, 0, none⟩) [0] 1)])] (fun fb => by kernel_rfl) (tile_Repeats_calls _ t124 (Pattern.mk 1 1 [0]) A129 c130 (some ⟨g120, 0, none⟩) 1 t131 _ (hS128.ow 0).ofO (hS128.ow 1).ofO ht132) (fun v w133 hR134 => ?_)
    obtain ⟨rfl, hk_⟩ := hR134
    have hS135 := hS128.keepN hk_
    refine ⟨⟨hS135.cell 3 rfl 2 rfl, hS135.cell 3 rfl 0 rfl, hS135.cell 3 rfl 1 rfl, hS135.cell 3 rfl 2 rfl, trivial⟩, ?_⟩
    refine sg 10 [] [2, 3, 20] [(2, (pt g19)), (3, (iv t12.2)), (20, (bv (!t131)))] (by kernel_rfl) ?_
    injection hx118 with hx118
    exact WL.to K (!t131) [2, 3, 20] rfl ⟨⟨(hS135.subR []).sub [3, 4] (by decide), hx118.symm⟩, trivial⟩
   refine WL.setB 14 h119 rfl ?_
   refine sg 10 [] [2, 3, 20] [(2, (pt g19)), (3, (iv t12.2)), (20, (bv false))] (by kernel_rfl) ?_
   injection hx118 with hx118
   exact WL.to K false [2, 3, 20] rfl ⟨⟨(hS116.subR []).sub [1, 2] (by decide), hx118.symm⟩, trivial⟩
  rintro y136 w138 ⟨⟨hS139, hq137⟩, hF140⟩
  subst hq137
  refine sg 11 [] [2, 3, 21] [(2, (pt g19)), (3, (iv t12.2)), (21, (bv x117))] (by kernel_rfl) ?_
  refine WL.cutV (T := Bool) 14 (fun t => [(24, (bv t)), (2, (pt g19))]) (fun t => (x117 && (t12.2 == 0)) = t) (fun K => ?_) ?_
  ·
   rcases Bool.eq_false_or_eq_true x117 with h141 | h141
   ·
    refine WL.setB 21 h141 rfl ?_
    refine sg 14 [] [2, 24] [(2, (pt g19)), (24, (bv (t12.2 == 0)))] (by kernel_rfl) ?_
    exact WL.toV K (t12.2 == 0) [24, 2] rfl (by first | (rw [h141]; done) | (rw [h141]; rfl))
   refine WL.setB 21 h141 rfl ?_
   refine sg 14 [] [2, 24] [(2, (pt g19)), (24, (bv false))] (by kernel_rfl) ?_
   exact WL.toV K false [24, 2] rfl (by first | (rw [h141]; done) | (rw [h141]; rfl))
  rintro b142 rfl
  refine sg 15 [] [2, 25] [(2, (pt g19)), (25, (bv (x117 && (t12.2 == 0))))] (by kernel_rfl) ?_
  obtain ⟨x143, hx144, hx25⟩ := bind_some hx25
  refine WL.cutW (T := Bool) 20 (fun t => [(2, (pt g19)), (30, (bv t))]) (fun t w1 => (St NoS w w1 [] [blk g19 (.cells #[(iv t12.1.Width), (iv t12.1.Height), (sv A17 t12.1.Cells c18)] 39 (0, 0)), rowO 3 encInt A17 c18 t12.1.Cells] ∧ x143 = t) ∧ CellsOK [] w1) (fun K => ?_) ?_
  ·
   rcases br_some hx144 with ⟨h145, hx144⟩ | ⟨h145, hx144⟩
   ·
    refine WL.setB 25 h145 rfl ?_
    refine segF 17 [.v (sv A17 t12.1.Cells c18)] [2, 25, 27] [(2, (pt g19)), (25, (bv true)), (27, (sv A17 t12.1.Cells c18))] [] [3] [(16, ⟨g19, 2, none⟩, (sv A17 t12.1.Cells c18))] (fun fb => by kernel_rfl) rfl trivial rfl ?_
    refine WL.new hS139 28 [] (fun g => (.slice (some ⟨g, 0, none⟩) 3 3)) (.cells #[(iv 0), (iv 1), (iv 0)] 3 (0, 0)) [] (fun fb g => by kernel_rfl) trivial (fun g146 w147 hS148 => ?_)
    refine ⟨⟨hS148.cell 1 rfl 2 rfl, hS148.cell 1 rfl 0 rfl, hS148.cell 1 rfl 1 rfl, hS148.cell 1 rfl 2 rfl, trivial⟩, ?_⟩
    have hS149 := hS109.go w147 [rowO 3 encInt (some ⟨g146, 0, none⟩) 3 [0, 1, 0], blk g19 (.cells #[(iv t12.1.Width), (iv t12.1.Height), (sv A17 t12.1.Cells c18)] 39 (0, 0)), rowO 3 encInt A17 c18 t12.1.Cells] (hS148.map1 0 _ (fun h => rowO.ofBlk h rfl (Nat.le_of_ble_eq_true (by kernel_rfl))) (fun _ h => by obtain ⟨_, h1, h2⟩ := h; injection h1 with h1; subst h1; exact h2) [1, 2] (by decide) (by decide))
    obtain ⟨t150, ht151, hx144⟩ := bind_some hx144
    refine WL.call (some 29) 51 #[(sv A17 t12.1.Cells c18), (sv (some ⟨g146, 0, none⟩) [0, 1, 0] 3)] (fun fb => by kernel_rfl) (top_sameInts_calls _ t12.1.Cells [0, 1, 0] A17 c18 (some ⟨g146, 0, none⟩) 3 t150 _ (hS149.ow 2).ofO (hS149.ow 0).ofO ht151) (fun v w152 hR153 => ?_)
    obtain ⟨rfl, hk_⟩ := hR153
    have hS154 := hS149.keepN hk_
    refine ⟨⟨hS154.cell 1 rfl 0 rfl, hS154.cell 1 rfl 1 rfl, hS154.cell 1 rfl 2 rfl, trivial⟩, ?_⟩
    refine sg 20 [] [2, 30] [(2, (pt g19)), (30, (bv t150))] (by kernel_rfl) ?_
    injection hx144 with hx144
    exact WL.to K t150 [2, 30] rfl ⟨⟨(hS154.subR []).sub [1, 2] (by decide), hx144.symm⟩, trivial⟩
   refine WL.setB 25 h145 rfl ?_
   refine sg 20 [] [2, 30] [(2, (pt g19)), (30, (bv false))] (by kernel_rfl) ?_
   injection hx144 with hx144
   exact WL.to K false [2, 30] rfl ⟨⟨(hS139.subR []).sub [0, 1] (by decide), hx144.symm⟩, trivial⟩
  rintro y155 w157 ⟨⟨hS158, hq156⟩, hF159⟩
  subst hq156
  refine sg 21 [] [2, 31] [(2, (pt g19)), (31, (bv x143))] (by kernel_rfl) ?_
  obtain ⟨x160, hx161, hx25⟩ := bind_some hx25
  refine WL.cutW (T := Bool) 25 (fun t => [(35, (bv t))]) (fun t w1 => (St NoS w w1 [] [] ∧ x160 = t) ∧ CellsOK [] w1) (fun K => ?_) ?_
  ·
   rcases br_some hx161 with ⟨h162, hx161⟩ | ⟨h162, hx161⟩
   ·
    refine WL.setB 31 h162 rfl ?_
    refine segF 22 [.v (iv t12.1.Width), .v (iv t12.1.Height), .v (sv A17 t12.1.Cells c18)] [31, 33] [(31, (bv true)), (33, (.agg #[(iv t12.1.Width), (iv t12.1.Height), (sv A17 t12.1.Cells c18)]))] [] [4, 5, 6] [(22, ⟨g19, 0, none⟩, (iv t12.1.Width)), (22, ⟨g19, 1, none⟩, (iv t12.1.Height)), (22, ⟨g19, 2, none⟩, (sv A17 t12.1.Cells c18))] (fun fb => by kernel_rfl) rfl trivial rfl ?_
    obtain ⟨t163, ht164, hx161⟩ := bind_some hx161
    refine WL.call (some 32) 35 #[] (fun fb => by kernel_rfl) (top_chess_calls t163 _ ht164) (fun v w165 hR166 => ?_)
    obtain ⟨A168, c169, rfl, hk_⟩ := hR166
    have hS167 := hS109.go w165 [rowO 48 enc_Tile A168 c169 t163, blk g19 (.cells #[(iv t12.1.Width), (iv t12.1.Height), (.slice A17 t12.1.Cells.length c18)] 39 (0, 0)), rowO 3 encInt A17 c18 t12.1.Cells] (hS158.call hk_ [] [0, 1] (fun g hg => hg.elim) (by simp) (by decide))
    refine ⟨⟨hS167.cell 1 rfl 0 rfl, hS167.cell 1 rfl 1 rfl, hS167.cell 1 rfl 2 rfl, trivial⟩, ?_⟩
    obtain ⟨t170, ht171, hx161⟩ := bind_some hx161
    refine WL.call (some 34) 52 #[(sv A168 t163 c169), (.agg #[(iv t12.1.Width), (iv t12.1.Height), (sv A17 t12.1.Cells c18)])] (fun fb => by kernel_rfl) (tile_Fits_calls _ t163 t12.1 A168 c169 A17 c18 t170 _ (hS167.ow 0).ofO (hS167.ow 2).ofO ht171) (fun v w172 hR173 => ?_)
    obtain ⟨rfl, hk_⟩ := hR173
    have hS174 := hS167.keepN hk_
    refine ⟨trivial, ?_⟩
    refine sg 25 [] [35] [(35, (bv t170))] (by kernel_rfl) ?_
    injection hx161 with hx161
    exact WL.to K t170 [35] rfl ⟨⟨(hS174.subR []).sub [] (by decide), hx161.symm⟩, trivial⟩
   refine WL.setB 31 h162 rfl ?_
   refine sg 25 [] [35] [(35, (bv false))] (by kernel_rfl) ?_
   injection hx161 with hx161
   exact WL.to K false [35] rfl ⟨⟨(hS158.subR []).sub [] (by decide), hx161.symm⟩, trivial⟩
  rintro y175 w177 ⟨⟨hS178, hq176⟩, hF179⟩
  subst hq176
  refine sg 26 [] [0] [(0, (bv x160))] (by kernel_rfl) ?_
  refine WL.done rfl ?_
  injection hx25 with hx25
  exact WX.to Kx24 x160 [0] rfl ⟨(hS178.subR []).sub [] (by decide), hx25.symm⟩
 rintro y183 w180 ⟨hS181, hq182⟩
 subst hq182
 refine WX.next ?_
 refine WC.ret ?_
 injection hf with hf
 subst hf
 exact WX.ret_ [] (bv x24) [] (fun fb => by kernel_rfl) trivial ⟨_, rfl, rfl, hS181.keep⟩
theorem top_decides_calls (k : Nat)   (r : Bool) (w : World)  (hf : top_decides k = some r) :
  CallsR Try.prog 20 #[] w (fun v w' => v = (bv r) ∧ Keeps NoS w w') := by
 have hS : St NoS w w [] [] := St.init (ro_nil _ _)
 refine enter 45 Try.func20 rfl Try.ntmps20 rfl ?_
 unfold top_decides at hf
 refine WC.seq (WC.region ?_)
 refine sg 1 [] [] [] (by kernel_rfl) ?_
 refine WL.done rfl (WX.next (WC.seq (WC.region ?_)))
 obtain ⟨t3, ht4, hf⟩ := bind_some hf
 refine WL.call (some 6) 35 #[] (fun fb => by kernel_rfl) (top_chess_calls t3 _ ht4) (fun v w5 hR6 => ?_)
 obtain ⟨A8, c9, rfl, hk_⟩ := hR6
 have hS7 := hS.go w5 [rowO 48 enc_Tile A8 c9 t3] (hS.call hk_ [] [] (fun g hg => hg.elim) (by simp) (by decide))
 refine ⟨trivial, ?_⟩
 obtain ⟨t10, ht11, hf⟩ := bind_some hf
 refine WL.call (some 7) 17 #[(sv A8 t3 c9)] (fun fb => by kernel_rfl) (decide_Decide_calls _ t3 A8 c9 t10 _ (hS7.ow 0).ofO ht11) (fun v w12 hR13 => ?_)
 obtain ⟨A15, c16, rfl, hk_⟩ := hR13
 have hS14 := hS7.go w12 [rowO 3 encInt A15 c16 t10.1.Torus.Cells, rowO 48 enc_Tile A8 c9 t3] (hS7.call hk_ [] [0] (fun g hg => hg.elim) (by simp) (by decide))
 refine ⟨trivial, ?_⟩
 refine sg 5 [] [8, 9] [(8, (.agg #[(bv t10.1.Fills), (iv t10.1.Torus.Width), (iv t10.1.Torus.Height), (sv A15 t10.1.Torus.Cells c16), (iv t10.1.Side)])), (9, (iv t10.2))] (by kernel_rfl) ?_
 refine WL.new hS14 1 [] (fun g => (pt g)) (.cells #[(bv false), (iv 0), (iv 0), (.slice none 0 0), (iv 0)] 41 (0, 0)) [] (fun fb g => by kernel_rfl) trivial (fun g17 w18 hS19 => ?_)
 refine ⟨trivial, ?_⟩
 refine WL.store hS19 0 rfl [(0, (bv t10.1.Fills)), (1, (iv t10.1.Torus.Width)), (2, (iv t10.1.Torus.Height)), (3, (sv A15 t10.1.Torus.Cells c16)), (4, (iv t10.1.Side))] #[(bv t10.1.Fills), (iv t10.1.Torus.Width), (iv t10.1.Torus.Height), (sv A15 t10.1.Torus.Cells c16), (iv t10.1.Side)] (fun fb => by kernel_rfl) (by kernel_rfl) rfl [1, 2] (by decide) (by decide) (fun w21 hS22 => ?_)
 refine ⟨trivial, ?_⟩
 refine sg 8 [] [1, 2] [(1, (pt g17)), (2, (iv t10.2))] (by kernel_rfl) ?_
 refine WL.done rfl (WX.next (WC.seq (WC.region ?_)))
 refine sg 1 [] [1, 2, 11] [(1, (pt g17)), (2, (iv t10.2)), (11, (.agg #[(iv 0), (iv 0), (iv 1), (iv 0)]))] (by kernel_rfl) ?_
 refine WL.new hS22 12 [] (fun g => (.slice (some ⟨g, 0, none⟩) 1 1)) (.cells #[(iv 0), (iv 0), (iv 1), (iv 0)] 48 (0, 0)) [] (fun fb g => by kernel_rfl) trivial (fun g23 w24 hS25 => ?_)
 refine ⟨trivial, ?_⟩
 have hS26 := hS14.go w24 [rowO 48 enc_Tile (some ⟨g23, 0, none⟩) 1 [(Tile.mk 0 0 1 0)], blk g17 (.cells #[(bv t10.1.Fills), (iv t10.1.Torus.Width), (iv t10.1.Torus.Height), (sv A15 t10.1.Torus.Cells c16), (iv t10.1.Side)] 41 (0, 0)), rowO 3 encInt A15 c16 t10.1.Torus.Cells, rowO 48 enc_Tile A8 c9 t3] (hS25.map1 0 _ (fun h => rowO.ofBlk h rfl (Nat.le_of_ble_eq_true (by kernel_rfl))) (fun _ h => by obtain ⟨_, h1, h2⟩ := h; injection h1 with h1; subst h1; exact h2) [1, 2, 3] (by decide) (by decide))
 obtain ⟨t27, ht28, hf⟩ := bind_some hf
 refine WL.call (some 13) 17 #[(sv (some ⟨g23, 0, none⟩) [(Tile.mk 0 0 1 0)] 1)] (fun fb => by kernel_rfl) (decide_Decide_calls _ [(Tile.mk 0 0 1 0)] (some ⟨g23, 0, none⟩) 1 t27 _ (hS26.ow 0).ofO ht28) (fun v w29 hR30 => ?_)
 obtain ⟨A32, c33, rfl, hk_⟩ := hR30
 have hS31 := hS26.go w29 [rowO 3 encInt A32 c33 t27.1.Torus.Cells, rowO 48 enc_Tile (some ⟨g23, 0, none⟩) 1 [(Tile.mk 0 0 1 0)], blk g17 (.cells #[(.bool t10.1.Fills), (iv t10.1.Torus.Width), (iv t10.1.Torus.Height), (.slice A15 t10.1.Torus.Cells.length c16), (iv t10.1.Side)] 41 (0, 0)), rowO 3 encInt A15 c16 t10.1.Torus.Cells, rowO 48 enc_Tile A8 c9 t3] (hS26.call hk_ [] [0, 1, 2, 3] (fun g hg => hg.elim) (by simp) (by decide))
 refine ⟨trivial, ?_⟩
 refine sg 6 [] [1, 2, 14, 15] [(1, (pt g17)), (2, (iv t10.2)), (14, (.agg #[(bv t27.1.Fills), (iv t27.1.Torus.Width), (iv t27.1.Torus.Height), (sv A32 t27.1.Torus.Cells c33), (iv t27.1.Side)])), (15, (iv t27.2))] (by kernel_rfl) ?_
 refine WL.new hS31 3 [] (fun g => (pt g)) (.cells #[(bv false), (iv 0), (iv 0), (.slice none 0 0), (iv 0)] 41 (0, 0)) [] (fun fb g => by kernel_rfl) trivial (fun g34 w35 hS36 => ?_)
 refine ⟨trivial, ?_⟩
 refine WL.store hS36 0 rfl [(0, (bv t27.1.Fills)), (1, (iv t27.1.Torus.Width)), (2, (iv t27.1.Torus.Height)), (3, (sv A32 t27.1.Torus.Cells c33)), (4, (iv t27.1.Side))] #[(bv t27.1.Fills), (iv t27.1.Torus.Width), (iv t27.1.Torus.Height), (sv A32 t27.1.Torus.Cells c33), (iv t27.1.Side)] (fun fb => by kernel_rfl) (by kernel_rfl) rfl [1, 2, 3, 4, 5] (by decide) (by decide) (fun w37 hS38 => ?_)
 refine ⟨trivial, ?_⟩
 refine sg 9 [] [1, 2, 3, 4] [(1, (pt g17)), (2, (iv t10.2)), (3, (pt g34)), (4, (iv t27.2))] (by kernel_rfl) ?_
 refine WL.done rfl (WX.next (WC.seq (WC.region ?_)))
 refine sg 3 [] [1, 3, 4, 18] [(1, (pt g17)), (3, (pt g34)), (4, (iv t27.2)), (18, (bv (t10.2 == 0)))] (by kernel_rfl) ?_
 refine WL.cutV (T := Bool) 6 (fun t => [(21, (bv t)), (1, (pt g17)), (3, (pt g34))]) (fun t => ((t10.2 == 0) && (t27.2 == 0)) = t) (fun K => ?_) ?_
 ·
  rcases Bool.eq_false_or_eq_true (t10.2 == 0) with h39 | h39
  ·
   refine WL.setB 18 h39 rfl ?_
   refine sg 6 [] [1, 3, 21] [(1, (pt g17)), (3, (pt g34)), (21, (bv (t27.2 == 0)))] (by kernel_rfl) ?_
   exact WL.toV K (t27.2 == 0) [21, 1, 3] rfl (by first | (rw [h39]; done) | (rw [h39]; rfl))
  refine WL.setB 18 h39 rfl ?_
  refine sg 6 [] [1, 3, 21] [(1, (pt g17)), (3, (pt g34)), (21, (bv false))] (by kernel_rfl) ?_
  exact WL.toV K false [21, 1, 3] rfl (by first | (rw [h39]; done) | (rw [h39]; rfl))
 rintro b40 rfl
 refine sg 7 [] [1, 3, 22] [(1, (pt g17)), (3, (pt g34)), (22, (bv ((t10.2 == 0) && (t27.2 == 0))))] (by kernel_rfl) ?_
 refine WL.cutV (T := Bool) 10 (fun t => [(25, (bv t)), (1, (pt g17)), (3, (pt g34))]) (fun t => (((t10.2 == 0) && (t27.2 == 0)) && t10.1.Fills) = t) (fun K => ?_) ?_
 ·
  rcases Bool.eq_false_or_eq_true ((t10.2 == 0) && (t27.2 == 0)) with h41 | h41
  ·
   refine WL.setB 22 h41 rfl ?_
   refine seg 10 [.v (bv t10.1.Fills)] [1, 3, 25] [(1, (pt g17)), (3, (pt g34)), (25, (bv t10.1.Fills))] [.cell ⟨g17, 0, none⟩ (bv t10.1.Fills)] (fun fb => by kernel_rfl) rfl ⟨hS38.cell 3 rfl 0 rfl, trivial⟩ ?_
   exact WL.toV K t10.1.Fills [25, 1, 3] rfl (by first | (rw [h41]; done) | (rw [h41]; rfl))
  refine WL.setB 22 h41 rfl ?_
  refine sg 10 [] [1, 3, 25] [(1, (pt g17)), (3, (pt g34)), (25, (bv false))] (by kernel_rfl) ?_
  exact WL.toV K false [25, 1, 3] rfl (by first | (rw [h41]; done) | (rw [h41]; rfl))
 rintro b42 rfl
 refine sg 11 [] [1, 3, 26] [(1, (pt g17)), (3, (pt g34)), (26, (bv (((t10.2 == 0) && (t27.2 == 0)) && t10.1.Fills)))] (by kernel_rfl) ?_
 refine WL.cutV (T := Bool) 16 (fun t => [(31, (bv t)), (3, (pt g34))]) (fun t => ((((t10.2 == 0) && (t27.2 == 0)) && t10.1.Fills) && (t10.1.Torus.Width == 2)) = t) (fun K => ?_) ?_
 ·
  rcases Bool.eq_false_or_eq_true (((t10.2 == 0) && (t27.2 == 0)) && t10.1.Fills) with h43 | h43
  ·
   refine WL.setB 26 h43 rfl ?_
   refine seg 16 [.v (iv t10.1.Torus.Width)] [3, 31] [(3, (pt g34)), (31, (bv (t10.1.Torus.Width == 2)))] [.cell ⟨g17, 1, none⟩ (iv t10.1.Torus.Width)] (fun fb => by kernel_rfl) rfl ⟨hS38.cell 3 rfl 1 rfl, trivial⟩ ?_
   exact WL.toV K (t10.1.Torus.Width == 2) [31, 3] rfl (by first | (rw [h43]; done) | (rw [h43]; rfl))
  refine WL.setB 26 h43 rfl ?_
  refine sg 16 [] [3, 31] [(3, (pt g34)), (31, (bv false))] (by kernel_rfl) ?_
  exact WL.toV K false [31, 3] rfl (by first | (rw [h43]; done) | (rw [h43]; rfl))
 rintro b44 rfl
 refine sg 17 [] [3, 32] [(3, (pt g34)), (32, (bv ((((t10.2 == 0) && (t27.2 == 0)) && t10.1.Fills) && (t10.1.Torus.Width == 2))))] (by kernel_rfl) ?_
 refine WL.cutV (T := Bool) 21 (fun t => [(36, (bv t)), (3, (pt g34))]) (fun t => (((((t10.2 == 0) && (t27.2 == 0)) && t10.1.Fills) && (t10.1.Torus.Width == 2)) && (!t27.1.Fills)) = t) (fun K => ?_) ?_
 ·
  rcases Bool.eq_false_or_eq_true ((((t10.2 == 0) && (t27.2 == 0)) && t10.1.Fills) && (t10.1.Torus.Width == 2)) with h45 | h45
  ·
   refine WL.setB 32 h45 rfl ?_
   refine seg 21 [.v (bv t27.1.Fills)] [3, 36] [(3, (pt g34)), (36, (bv (!t27.1.Fills)))] [.cell ⟨g34, 0, none⟩ (bv t27.1.Fills)] (fun fb => by kernel_rfl) rfl ⟨hS38.cell 0 rfl 0 rfl, trivial⟩ ?_
   exact WL.toV K (!t27.1.Fills) [36, 3] rfl (by first | (rw [h45]; done) | (rw [h45]; rfl))
  refine WL.setB 32 h45 rfl ?_
  refine sg 21 [] [3, 36] [(3, (pt g34)), (36, (bv false))] (by kernel_rfl) ?_
  exact WL.toV K false [36, 3] rfl (by first | (rw [h45]; done) | (rw [h45]; rfl))
 rintro b46 rfl
 refine sg 22 [] [3, 37] [(3, (pt g34)), (37, (bv (((((t10.2 == 0) && (t27.2 == 0)) && t10.1.Fills) && (t10.1.Torus.Width == 2)) && (!t27.1.Fills))))] (by kernel_rfl) ?_
 refine WL.cutV (T := Bool) 26 (fun t => [(41, (bv t))]) (fun t => ((((((t10.2 == 0) && (t27.2 == 0)) && t10.1.Fills) && (t10.1.Torus.Width == 2)) && (!t27.1.Fills)) && (t27.1.Side == 2)) = t) (fun K => ?_) ?_
 ·
  rcases Bool.eq_false_or_eq_true (((((t10.2 == 0) && (t27.2 == 0)) && t10.1.Fills) && (t10.1.Torus.Width == 2)) && (!t27.1.Fills)) with h47 | h47
  ·
   refine WL.setB 37 h47 rfl ?_
   refine seg 26 [.v (iv t27.1.Side)] [41] [(41, (bv (t27.1.Side == 2)))] [.cell ⟨g34, 4, none⟩ (iv t27.1.Side)] (fun fb => by kernel_rfl) rfl ⟨hS38.cell 0 rfl 4 rfl, trivial⟩ ?_
   exact WL.toV K (t27.1.Side == 2) [41] rfl (by first | (rw [h47]; done) | (rw [h47]; rfl))
  refine WL.setB 37 h47 rfl ?_
  refine sg 26 [] [41] [(41, (bv false))] (by kernel_rfl) ?_
  exact WL.toV K false [41] rfl (by first | (rw [h47]; done) | (rw [h47]; rfl))
 rintro b48 rfl
 refine sg 27 [] [42] [(42, (bv ((((((t10.2 == 0) && (t27.2 == 0)) && t10.1.Fills) && (t10.1.Torus.Width == 2)) && (!t27.1.Fills)) && (t27.1.Side == 2))))] (by kernel_rfl) ?_
 obtain ⟨x49, hx50, hf⟩ := bind_some hf
 refine WL.cutW (T := Bool) 29 (fun t => [(44, (bv t))]) (fun t w1 => (St NoS w w1 [] [] ∧ x49 = t) ∧ CellsOK [] w1) (fun K => ?_) ?_
 ·
  rcases br_some hx50 with ⟨h51, hx50⟩ | ⟨h51, hx50⟩
  ·
   refine WL.setB 42 h51 rfl ?_
   obtain ⟨t52, ht53, hx50⟩ := bind_some hx50
   refine WL.call (some 43) 36 #[] (fun fb => by kernel_rfl) (top_lives_calls _ t52 _ ht53) (fun v w54 hR55 => ?_)
   obtain ⟨rfl, hk_⟩ := hR55
   have hS56 := hS38.keepN hk_
   refine ⟨trivial, ?_⟩
   refine sg 29 [] [44] [(44, (bv t52))] (by kernel_rfl) ?_
   injection hx50 with hx50
   exact WL.to K t52 [44] rfl ⟨⟨(hS56.subR []).sub [] (by decide), hx50.symm⟩, trivial⟩
  refine WL.setB 42 h51 rfl ?_
  refine sg 29 [] [44] [(44, (bv false))] (by kernel_rfl) ?_
  injection hx50 with hx50
  exact WL.to K false [44] rfl ⟨⟨(hS38.subR []).sub [] (by decide), hx50.symm⟩, trivial⟩
 rintro y57 w59 ⟨⟨hS60, hq58⟩, hF61⟩
 subst hq58
 refine sg 30 [] [0] [(0, (bv x49))] (by kernel_rfl) ?_
 refine WL.done rfl (WX.next ?_)
 refine WC.ret ?_
 injection hf with hf
 subst hf
 exact WX.ret_ [] (bv x49) [] (fun fb => by kernel_rfl) trivial ⟨_, rfl, rfl, hS60.keep⟩
theorem top_TopCensus_calls (k : Nat)   (r : Bool) (w : World)  (hf : top_TopCensus k = some r) :
  CallsR Try.prog 7 #[] w (fun v w' => v = (bv r) ∧ Keeps NoS w w') := by
 have hS : St NoS w w [] [] := St.init (ro_nil _ _)
 refine enter 46 Try.func7 rfl Try.ntmps7 rfl ?_
 unfold top_TopCensus at hf
 refine WC.seq (WC.region ?_)
 refine sg 1 [] [] [] (by kernel_rfl) ?_
 refine WL.done rfl (WX.next (WC.seq (WC.region ?_)))
 refine sg 2 [] [6, 7] [(6, (.agg #[(iv 1), (iv 4), (iv 133), (iv 7145)])), (7, (.agg #[(iv 0), (iv 1), (iv 29), (iv 1497)]))] (by kernel_rfl) ?_
 refine WL.new hS 1 [] (fun g => (pt g)) (.cells #[(iv 0), (iv 0), (iv 0), (iv 0)] 52 (0, 0)) [] (fun fb g => by kernel_rfl) trivial (fun g1 w2 hS3 => ?_)
 refine ⟨trivial, ?_⟩
 refine WL.new hS3 2 [] (fun g => (pt g)) (.cells #[(iv 0), (iv 0), (iv 0), (iv 0)] 52 (0, 0)) [] (fun fb g => by kernel_rfl) trivial (fun g5 w6 hS7 => ?_)
 refine ⟨trivial, ?_⟩
 refine WL.store hS7 1 rfl [(0, (iv 1)), (1, (iv 4)), (2, (iv 133)), (3, (iv 7145))] #[(iv 1), (iv 4), (iv 133), (iv 7145)] (fun fb => by kernel_rfl) (by kernel_rfl) rfl [0] (by decide) (by decide) (fun w9 hS10 => ?_)
 refine ⟨trivial, ?_⟩
 refine WL.store hS10 1 rfl [(0, (iv 0)), (1, (iv 1)), (2, (iv 29)), (3, (iv 1497))] #[(iv 0), (iv 1), (iv 29), (iv 1497)] (fun fb => by kernel_rfl) (by kernel_rfl) rfl [0] (by decide) (by decide) (fun w11 hS12 => ?_)
 refine ⟨trivial, ?_⟩
 refine WL.done rfl (WX.next (WC.seq (WC.seq (WC.region ?_))))
 refine sg 1 [] [1, 2, 3] [(1, (pt g1)), (2, (pt g5)), (3, (iv 0))] (by kernel_rfl) ?_
 refine WL.done rfl (WX.next ?_)
 obtain ⟨x13, hx14, hf⟩ := bind_some hf
 refine WC.cutN (T := Unit) (fun t => []) (fun t w1 => St NoS w w1 [] [] ∧ x13 = .inr t) (fun Kx13 => ?_) ?_
 ·
  refine WC.block ?_
  refine WC.loop (T := Int) (fun t => [(1, (pt g1)), (2, (pt g5)), (3, (iv t))]) (fun n t w1 => St NoS w w1 [] [blk g1 (.cells #[(iv 1), (iv 4), (iv 133), (iv 7145)] 52 (0, 0)), blk g5 (.cells #[(iv 0), (iv 1), (iv 29), (iv 1497)] 52 (0, 0))] ∧ top_TopCensus.l0 n t = some x13) k 0 [1, 2, 3] rfl ⟨(hS12.subR []).sub [1, 0] (by decide), hx14⟩ ?_
  rintro k15 x8 w16 ⟨hS17, hl18⟩
  cases k15 with
  | zero => rw [top_TopCensus.l0] at hl18; cases hl18
  | succ k15 =>
   rw [top_TopCensus.l0] at hl18
   refine WC.seq (WC.seq (WC.region ?_))
   refine sg 2 [] [1, 2, 3, 9] [(1, (pt g1)), (2, (pt g5)), (3, (iv x8)), (9, (bv (decide (x8 ≤ 3))))] (by kernel_rfl) ?_
   refine WL.done rfl (WX.next ?_)
   rcases br_some hl18 with ⟨h19, hl18⟩ | ⟨h19, hl18⟩
   ·refine WC.condT2 (fun fb => by kernel_rfl) h19 ?_
    refine WC.skip (WX.next (WC.seq (WC.block (WC.seq (WC.region ?_)))))
    refine sg 1 [] [1, 2, 3, 13] [(1, (pt g1)), (2, (pt g5)), (3, (iv x8)), (13, (iv x8))] (by kernel_rfl) ?_
    obtain ⟨t20, ht21, hl18⟩ := bind_some hl18
    refine WL.call (some 14) 16 #[(iv x8)] (fun fb => by kernel_rfl) (census_Count_calls _ x8 t20 _ ht21) (fun v w22 hR23 => ?_)
    obtain ⟨rfl, hk_⟩ := hR23
    have hS24 := hS17.keepN hk_
    refine ⟨trivial, ?_⟩
    refine sg 5 [] [1, 2, 3, 15, 16] [(1, (pt g1)), (2, (pt g5)), (3, (iv x8)), (15, (.agg #[(iv t20.1.Sets), (iv t20.1.Fill), (iv t20.1.Cells), (iv t20.1.Side)])), (16, (iv t20.2))] (by kernel_rfl) ?_
    refine WL.new hS24 4 [] (fun g => (pt g)) (.cells #[(iv 0), (iv 0), (iv 0), (iv 0)] 34 (0, 0)) [] (fun fb g => by kernel_rfl) trivial (fun g25 w26 hS27 => ?_)
    refine ⟨trivial, ?_⟩
    refine WL.store hS27 0 rfl [(0, (iv t20.1.Sets)), (1, (iv t20.1.Fill)), (2, (iv t20.1.Cells)), (3, (iv t20.1.Side))] #[(iv t20.1.Sets), (iv t20.1.Fill), (iv t20.1.Cells), (iv t20.1.Side)] (fun fb => by kernel_rfl) (by kernel_rfl) rfl [1, 2] (by decide) (by decide) (fun w28 hS29 => ?_)
    refine ⟨trivial, ?_⟩
    refine sg 8 [] [1, 2, 3, 4, 5] [(1, (pt g1)), (2, (pt g5)), (3, (iv x8)), (4, (pt g25)), (5, (iv t20.2))] (by kernel_rfl) ?_
    refine WL.done rfl (WX.next (WC.seq ?_))
    obtain ⟨x30, hx31, hl18⟩ := bind_some hl18
    refine WC.cutN (T := Bool) (fun t => [(1, (pt g1)), (2, (pt g5)), (3, (iv x8)), (44, (bv t))]) (fun t w1 => St NoS w w1 [] [blk g1 (.cells #[(iv 1), (iv 4), (iv 133), (iv 7145)] 52 (0, 0)), blk g5 (.cells #[(iv 0), (iv 1), (iv 29), (iv 1497)] 52 (0, 0))] ∧ x30 = t) (fun Kx30 => ?_) ?_
    ·
     rcases br_some hx31 with ⟨h32, hx31⟩ | ⟨h32, hx31⟩
     ·
      refine WC.regionD ([], [0, 1, 2, 3, 4, 5, 6, 7, 8, 9, 10, 11, 12, 13, 14, 15, 16, 17, 18, 19, 20, 21, 22, 23, 24, 25, 26, 27], [[], [0], [0, 1], [0, 1, 2], [0, 1, 2, 3], [0, 1, 2], [0, 1, 2, 5], [0, 1, 2, 5, 6], [0, 1, 2, 3, 4, 5, 6, 7], [0, 1, 2, 3, 4, 5, 6, 7, 8], [0, 1, 2, 3, 4, 5, 6, 7, 8, 9], [0, 1, 2, 3, 4, 5, 6, 7, 8, 9, 10], [0, 1, 2, 3, 4, 5, 6, 7, 8, 9, 10, 11], [0, 1, 2, 3, 4, 5, 6, 7, 8, 9, 10], [0, 1, 2, 3, 4, 5, 6, 7, 8, 9, 10, 13], [0, 1, 2, 3, 4, 5, 6, 7, 8, 9, 10, 13, 14], [0, 1, 2, 3, 4, 5, 6, 7, 8, 9, 10, 11, 12, 13, 14, 15], [0, 1, 2, 3, 4, 5, 6, 7, 8, 9, 10, 11, 12, 13, 14, 15, 16], [0, 1, 2, 3, 4, 5, 6, 7, 8, 9, 10, 11, 12, 13, 14, 15, 16, 17], [0, 1, 2, 3, 4, 5, 6, 7, 8, 9, 10, 11, 12, 13, 14, 15, 16, 17, 18], [0, 1, 2, 3, 4, 5, 6, 7, 8, 9, 10, 11, 12, 13, 14, 15, 16, 17, 18, 19], [0, 1, 2, 3, 4, 5, 6, 7, 8, 9, 10, 11, 12, 13, 14, 15, 16, 17, 18, 19, 20], [0, 1, 2, 3, 4, 5, 6, 7, 8, 9, 10, 11, 12, 13, 14, 15, 16, 17, 18, 19, 20, 21], [0, 1, 2, 3, 4, 5, 6, 7, 8, 9, 10, 11, 12, 13, 14, 15, 16, 17, 18, 19, 20, 21, 22], [0, 1, 2, 3, 4, 5, 6, 7, 8, 9, 10, 11, 12, 13, 14, 15, 16, 17, 18, 19, 20, 21, 22, 23], [0, 1, 2, 3, 4, 5, 6, 7, 8, 9, 10, 11, 12, 13, 14, 15, 16, 17, 18, 19, 20, 21, 22, 23, 24], [0, 1, 2, 3, 4, 5, 6, 7, 8, 9, 10, 11, 12, 13, 14, 15, 16, 17, 18, 19, 20, 21, 22, 23, 24, 25], [0, 1, 2, 3, 4, 5, 6, 7, 8, 9, 10, 11, 12, 13, 14, 15, 16, 17, 18, 19, 20, 21, 22, 23, 24, 25, 26]]) [[0, 1, 2, 3, 4, 5, 6, 7, 8, 9, 10, 11, 12, 13, 14, 15, 16, 17, 18, 19, 20, 21, 22, 23, 24, 25, 26, 27]] (by kernel_rfl) (by kernel_rfl) (NoPanic.seq (NoPanic.block (NoPanic.seq (NoPanic.seq (NoPanic.block (NoPanic.seq (NoPanic.body))))))) ?_
      have hS34 := hS29.drew
      revert hS34
      generalize World.drew w28 = w33
      intro hS34
      refine ⟨trivial, forallC ?_ (forallN)⟩
      refine sg 3 [] [1, 2, 3, 4, 19] [(1, (pt g1)), (2, (pt g5)), (3, (iv x8)), (4, (pt g25)), (19, (bv (t20.2 != 0)))] (by kernel_rfl) ?_
      refine WL.setB 19 h32 rfl ?_
      refine sg 28 [] [1, 2, 3, 44] [(1, (pt g1)), (2, (pt g5)), (3, (iv x8)), (44, (bv true))] (by kernel_rfl) ?_
      refine WL.done rfl ?_
      injection hx31 with hx31
      exact WX.to Kx30 true [1, 2, 3, 44] rfl ⟨(hS34.subR []).sub [1, 2] (by decide), hx31.symm⟩
     rcases br_some hx31 with ⟨h35, hx31⟩ | ⟨h35, hx31⟩
     ·
      obtain ⟨h38, hx31⟩ := as_some hx31
      refine WC.regionD ([(4, ⟨g25, 0, none⟩, (iv t20.1.Sets)), (7, (flatA ⟨g1, 0, none⟩ (x8.toNat * 1)), (iv (A4_Int.get (A4_Int.mk 1 4 133 7145) x8)))], [0, 1, 2, 3, 4, 5, 6, 7, 8, 9, 10, 11, 12, 13, 14, 15, 16, 17, 18, 19, 20, 21, 22, 23, 24, 25, 26, 27], [[], [0], [0, 1], [0, 1, 2], [0, 1, 2, 3], [0, 1, 2], [0, 1, 2, 5], [0, 1, 2, 5, 6], [0, 1, 2, 3, 4, 5, 6, 7], [0, 1, 2, 3, 4, 5, 6, 7, 8], [0, 1, 2, 3, 4, 5, 6, 7, 8, 9], [0, 1, 2, 3, 4, 5, 6, 7, 8, 9, 10], [0, 1, 2, 3, 4, 5, 6, 7, 8, 9, 10, 11], [0, 1, 2, 3, 4, 5, 6, 7, 8, 9, 10], [0, 1, 2, 3, 4, 5, 6, 7, 8, 9, 10, 13], [0, 1, 2, 3, 4, 5, 6, 7, 8, 9, 10, 13, 14], [0, 1, 2, 3, 4, 5, 6, 7, 8, 9, 10, 11, 12, 13, 14, 15], [0, 1, 2, 3, 4, 5, 6, 7, 8, 9, 10, 11, 12, 13, 14, 15, 16], [0, 1, 2, 3, 4, 5, 6, 7, 8, 9, 10, 11, 12, 13, 14, 15, 16, 17], [0, 1, 2, 3, 4, 5, 6, 7, 8, 9, 10, 11, 12, 13, 14, 15, 16, 17, 18], [0, 1, 2, 3, 4, 5, 6, 7, 8, 9, 10, 11, 12, 13, 14, 15, 16, 17, 18, 19], [0, 1, 2, 3, 4, 5, 6, 7, 8, 9, 10, 11, 12, 13, 14, 15, 16, 17, 18, 19, 20], [0, 1, 2, 3, 4, 5, 6, 7, 8, 9, 10, 11, 12, 13, 14, 15, 16, 17, 18, 19, 20, 21], [0, 1, 2, 3, 4, 5, 6, 7, 8, 9, 10, 11, 12, 13, 14, 15, 16, 17, 18, 19, 20, 21, 22], [0, 1, 2, 3, 4, 5, 6, 7, 8, 9, 10, 11, 12, 13, 14, 15, 16, 17, 18, 19, 20, 21, 22, 23], [0, 1, 2, 3, 4, 5, 6, 7, 8, 9, 10, 11, 12, 13, 14, 15, 16, 17, 18, 19, 20, 21, 22, 23, 24], [0, 1, 2, 3, 4, 5, 6, 7, 8, 9, 10, 11, 12, 13, 14, 15, 16, 17, 18, 19, 20, 21, 22, 23, 24, 25], [0, 1, 2, 3, 4, 5, 6, 7, 8, 9, 10, 11, 12, 13, 14, 15, 16, 17, 18, 19, 20, 21, 22, 23, 24, 25, 26]]) [[0, 1, 2, 3, 4, 5, 6, 7, 8, 9, 10, 11, 12, 13, 14, 15, 16, 17, 18, 19, 20, 21, 22, 23, 24, 25, 26, 27]] (by kernel_rfl) (by kernel_rfl) (NoPanic.seq (NoPanic.block (NoPanic.seq (NoPanic.seq (NoPanic.block (NoPanic.seq (NoPanic.body))))))) ?_
      have hS37 := hS29.drew
      revert hS37
      generalize World.drew w28 = w36
      intro hS37
      refine ⟨⟨hS37.cell 0 rfl 0 rfl, hS37.cell 1 rfl _ (cases4 (Q := fun z_ => (#[(iv 1), (iv 4), (iv 133), (iv 7145)] : Array Value)[0 + z_.toNat * 1]? = some (iv (A4_Int.get (A4_Int.mk 1 4 133 7145) z_))) h38 (by kernel_rfl) (by kernel_rfl) (by kernel_rfl) (by kernel_rfl)), trivial⟩, forallC ?_ (forallN)⟩
      refine sg 3 [] [1, 2, 3, 4, 19] [(1, (pt g1)), (2, (pt g5)), (3, (iv x8)), (4, (pt g25)), (19, (bv (t20.2 != 0)))] (by kernel_rfl) ?_
      refine WL.setB 19 h32 rfl ?_
      refine segF 11 [.v (iv t20.1.Sets), .v (iv (A4_Int.get (A4_Int.mk 1 4 133 7145) x8))] [1, 2, 3, 4, 27] [(1, (pt g1)), (2, (pt g5)), (3, (iv x8)), (4, (pt g25)), (27, (bv (t20.1.Sets != (A4_Int.get (A4_Int.mk 1 4 133 7145) x8))))] [.idx (some ⟨0, 0, none⟩) x8 4] [0, 1] [(4, ⟨g25, 0, none⟩, (iv t20.1.Sets)), (7, (flatA ⟨g1, 0, none⟩ (x8.toNat * 1)), (iv (A4_Int.get (A4_Int.mk 1 4 133 7145) x8)))] (fun fb => by kernel_rfl) rfl ⟨⟨h38.1, h38.2, rfl⟩, trivial⟩ rfl ?_
      refine WL.setB 27 h35 rfl ?_
      refine sg 28 [] [1, 2, 3, 44] [(1, (pt g1)), (2, (pt g5)), (3, (iv x8)), (44, (bv true))] (by kernel_rfl) ?_
      refine WL.done rfl ?_
      injection hx31 with hx31
      exact WX.to Kx30 true [1, 2, 3, 44] rfl ⟨(hS37.subR []).sub [1, 2] (by decide), hx31.symm⟩
     rcases br_some hx31 with ⟨h39, hx31⟩ | ⟨h39, hx31⟩
     ·
      obtain ⟨h42, hx31⟩ := as_some hx31
      refine WC.regionD ([(4, ⟨g25, 0, none⟩, (iv t20.1.Sets)), (7, (flatA ⟨g1, 0, none⟩ (x8.toNat * 1)), (iv (A4_Int.get (A4_Int.mk 1 4 133 7145) x8))), (12, ⟨g25, 1, none⟩, (iv t20.1.Fill)), (15, (flatA ⟨g5, 0, none⟩ (x8.toNat * 1)), (iv (A4_Int.get (A4_Int.mk 0 1 29 1497) x8)))], [0, 1, 2, 3, 4, 5, 6, 7, 8, 9, 10, 11, 12, 13, 14, 15, 16, 17, 18, 19, 20, 21, 22, 23, 24, 25, 26, 27], [[], [0], [0, 1], [0, 1, 2], [0, 1, 2, 3], [0, 1, 2], [0, 1, 2, 5], [0, 1, 2, 5, 6], [0, 1, 2, 3, 4, 5, 6, 7], [0, 1, 2, 3, 4, 5, 6, 7, 8], [0, 1, 2, 3, 4, 5, 6, 7, 8, 9], [0, 1, 2, 3, 4, 5, 6, 7, 8, 9, 10], [0, 1, 2, 3, 4, 5, 6, 7, 8, 9, 10, 11], [0, 1, 2, 3, 4, 5, 6, 7, 8, 9, 10], [0, 1, 2, 3, 4, 5, 6, 7, 8, 9, 10, 13], [0, 1, 2, 3, 4, 5, 6, 7, 8, 9, 10, 13, 14], [0, 1, 2, 3, 4, 5, 6, 7, 8, 9, 10, 11, 12, 13, 14, 15], [0, 1, 2, 3, 4, 5, 6, 7, 8, 9, 10, 11, 12, 13, 14, 15, 16], [0, 1, 2, 3, 4, 5, 6, 7, 8, 9, 10, 11, 12, 13, 14, 15, 16, 17], [0, 1, 2, 3, 4, 5, 6, 7, 8, 9, 10, 11, 12, 13, 14, 15, 16, 17, 18], [0, 1, 2, 3, 4, 5, 6, 7, 8, 9, 10, 11, 12, 13, 14, 15, 16, 17, 18, 19], [0, 1, 2, 3, 4, 5, 6, 7, 8, 9, 10, 11, 12, 13, 14, 15, 16, 17, 18, 19, 20], [0, 1, 2, 3, 4, 5, 6, 7, 8, 9, 10, 11, 12, 13, 14, 15, 16, 17, 18, 19, 20, 21], [0, 1, 2, 3, 4, 5, 6, 7, 8, 9, 10, 11, 12, 13, 14, 15, 16, 17, 18, 19, 20, 21, 22], [0, 1, 2, 3, 4, 5, 6, 7, 8, 9, 10, 11, 12, 13, 14, 15, 16, 17, 18, 19, 20, 21, 22, 23], [0, 1, 2, 3, 4, 5, 6, 7, 8, 9, 10, 11, 12, 13, 14, 15, 16, 17, 18, 19, 20, 21, 22, 23, 24], [0, 1, 2, 3, 4, 5, 6, 7, 8, 9, 10, 11, 12, 13, 14, 15, 16, 17, 18, 19, 20, 21, 22, 23, 24, 25], [0, 1, 2, 3, 4, 5, 6, 7, 8, 9, 10, 11, 12, 13, 14, 15, 16, 17, 18, 19, 20, 21, 22, 23, 24, 25, 26]]) [[0, 1, 2, 3, 4, 5, 6, 7, 8, 9, 10, 11, 12, 13, 14, 15, 16, 17, 18, 19, 20, 21, 22, 23, 24, 25, 26, 27]] (by kernel_rfl) (by kernel_rfl) (NoPanic.seq (NoPanic.block (NoPanic.seq (NoPanic.seq (NoPanic.block (NoPanic.seq (NoPanic.body))))))) ?_
      have hS41 := hS29.drew
      revert hS41
      generalize World.drew w28 = w40
      intro hS41
      refine ⟨⟨hS41.cell 0 rfl 0 rfl, hS41.cell 1 rfl _ (cases4 (Q := fun z_ => (#[(iv 1), (iv 4), (iv 133), (iv 7145)] : Array Value)[0 + z_.toNat * 1]? = some (iv (A4_Int.get (A4_Int.mk 1 4 133 7145) z_))) h42 (by kernel_rfl) (by kernel_rfl) (by kernel_rfl) (by kernel_rfl)), hS41.cell 0 rfl 1 rfl, hS41.cell 2 rfl _ (cases4 (Q := fun z_ => (#[(iv 0), (iv 1), (iv 29), (iv 1497)] : Array Value)[0 + z_.toNat * 1]? = some (iv (A4_Int.get (A4_Int.mk 0 1 29 1497) z_))) h42 (by kernel_rfl) (by kernel_rfl) (by kernel_rfl) (by kernel_rfl)), trivial⟩, forallC ?_ (forallN)⟩
      refine sg 3 [] [1, 2, 3, 4, 19] [(1, (pt g1)), (2, (pt g5)), (3, (iv x8)), (4, (pt g25)), (19, (bv (t20.2 != 0)))] (by kernel_rfl) ?_
      refine WL.setB 19 h32 rfl ?_
      refine segF 11 [.v (iv t20.1.Sets), .v (iv (A4_Int.get (A4_Int.mk 1 4 133 7145) x8))] [1, 2, 3, 4, 27] [(1, (pt g1)), (2, (pt g5)), (3, (iv x8)), (4, (pt g25)), (27, (bv (t20.1.Sets != (A4_Int.get (A4_Int.mk 1 4 133 7145) x8))))] [.idx (some ⟨0, 0, none⟩) x8 4] [0, 1] [(4, ⟨g25, 0, none⟩, (iv t20.1.Sets)), (7, (flatA ⟨g1, 0, none⟩ (x8.toNat * 1)), (iv (A4_Int.get (A4_Int.mk 1 4 133 7145) x8)))] (fun fb => by kernel_rfl) rfl ⟨⟨h42.1, h42.2, rfl⟩, trivial⟩ rfl ?_
      refine WL.setB 27 h35 rfl ?_
      refine segF 19 [.v (iv t20.1.Fill), .v (iv (A4_Int.get (A4_Int.mk 0 1 29 1497) x8))] [1, 2, 3, 4, 35] [(1, (pt g1)), (2, (pt g5)), (3, (iv x8)), (4, (pt g25)), (35, (bv (t20.1.Fill != (A4_Int.get (A4_Int.mk 0 1 29 1497) x8))))] [.idx (some ⟨0, 0, none⟩) x8 4] [2, 3] [(12, ⟨g25, 1, none⟩, (iv t20.1.Fill)), (15, (flatA ⟨g5, 0, none⟩ (x8.toNat * 1)), (iv (A4_Int.get (A4_Int.mk 0 1 29 1497) x8)))] (fun fb => by kernel_rfl) rfl ⟨⟨h42.1, h42.2, rfl⟩, trivial⟩ rfl ?_
      refine WL.setB 35 h39 rfl ?_
      refine sg 28 [] [1, 2, 3, 44] [(1, (pt g1)), (2, (pt g5)), (3, (iv x8)), (44, (bv true))] (by kernel_rfl) ?_
      refine WL.done rfl ?_
      injection hx31 with hx31
      exact WX.to Kx30 true [1, 2, 3, 44] rfl ⟨(hS41.subR []).sub [1, 2] (by decide), hx31.symm⟩
     rcases br_some hx31 with ⟨h43, hx31⟩ | ⟨h43, hx31⟩
     ·
      obtain ⟨h46, hx31⟩ := as_some hx31
      refine WC.regionD ([(4, ⟨g25, 0, none⟩, (iv t20.1.Sets)), (7, (flatA ⟨g1, 0, none⟩ (x8.toNat * 1)), (iv (A4_Int.get (A4_Int.mk 1 4 133 7145) x8))), (12, ⟨g25, 1, none⟩, (iv t20.1.Fill)), (15, (flatA ⟨g5, 0, none⟩ (x8.toNat * 1)), (iv (A4_Int.get (A4_Int.mk 0 1 29 1497) x8))), (20, ⟨g25, 2, none⟩, (iv t20.1.Cells))], [0, 1, 2, 3, 4, 5, 6, 7, 8, 9, 10, 11, 12, 13, 14, 15, 16, 17, 18, 19, 20, 21, 22, 23, 24, 25, 26, 27], [[], [0], [0, 1], [0, 1, 2], [0, 1, 2, 3], [0, 1, 2], [0, 1, 2, 5], [0, 1, 2, 5, 6], [0, 1, 2, 3, 4, 5, 6, 7], [0, 1, 2, 3, 4, 5, 6, 7, 8], [0, 1, 2, 3, 4, 5, 6, 7, 8, 9], [0, 1, 2, 3, 4, 5, 6, 7, 8, 9, 10], [0, 1, 2, 3, 4, 5, 6, 7, 8, 9, 10, 11], [0, 1, 2, 3, 4, 5, 6, 7, 8, 9, 10], [0, 1, 2, 3, 4, 5, 6, 7, 8, 9, 10, 13], [0, 1, 2, 3, 4, 5, 6, 7, 8, 9, 10, 13, 14], [0, 1, 2, 3, 4, 5, 6, 7, 8, 9, 10, 11, 12, 13, 14, 15], [0, 1, 2, 3, 4, 5, 6, 7, 8, 9, 10, 11, 12, 13, 14, 15, 16], [0, 1, 2, 3, 4, 5, 6, 7, 8, 9, 10, 11, 12, 13, 14, 15, 16, 17], [0, 1, 2, 3, 4, 5, 6, 7, 8, 9, 10, 11, 12, 13, 14, 15, 16, 17, 18], [0, 1, 2, 3, 4, 5, 6, 7, 8, 9, 10, 11, 12, 13, 14, 15, 16, 17, 18, 19], [0, 1, 2, 3, 4, 5, 6, 7, 8, 9, 10, 11, 12, 13, 14, 15, 16, 17, 18, 19, 20], [0, 1, 2, 3, 4, 5, 6, 7, 8, 9, 10, 11, 12, 13, 14, 15, 16, 17, 18, 19, 20, 21], [0, 1, 2, 3, 4, 5, 6, 7, 8, 9, 10, 11, 12, 13, 14, 15, 16, 17, 18, 19, 20, 21, 22], [0, 1, 2, 3, 4, 5, 6, 7, 8, 9, 10, 11, 12, 13, 14, 15, 16, 17, 18, 19, 20, 21, 22, 23], [0, 1, 2, 3, 4, 5, 6, 7, 8, 9, 10, 11, 12, 13, 14, 15, 16, 17, 18, 19, 20, 21, 22, 23, 24], [0, 1, 2, 3, 4, 5, 6, 7, 8, 9, 10, 11, 12, 13, 14, 15, 16, 17, 18, 19, 20, 21, 22, 23, 24, 25], [0, 1, 2, 3, 4, 5, 6, 7, 8, 9, 10, 11, 12, 13, 14, 15, 16, 17, 18, 19, 20, 21, 22, 23, 24, 25, 26]]) [[0, 1, 2, 3, 4, 5, 6, 7, 8, 9, 10, 11, 12, 13, 14, 15, 16, 17, 18, 19, 20, 21, 22, 23, 24, 25, 26, 27]] (by kernel_rfl) (by kernel_rfl) (NoPanic.seq (NoPanic.block (NoPanic.seq (NoPanic.seq (NoPanic.block (NoPanic.seq (NoPanic.body))))))) ?_
      have hS45 := hS29.drew
      revert hS45
      generalize World.drew w28 = w44
      intro hS45
      refine ⟨⟨hS45.cell 0 rfl 0 rfl, hS45.cell 1 rfl _ (cases4 (Q := fun z_ => (#[(iv 1), (iv 4), (iv 133), (iv 7145)] : Array Value)[0 + z_.toNat * 1]? = some (iv (A4_Int.get (A4_Int.mk 1 4 133 7145) z_))) h46 (by kernel_rfl) (by kernel_rfl) (by kernel_rfl) (by kernel_rfl)), hS45.cell 0 rfl 1 rfl, hS45.cell 2 rfl _ (cases4 (Q := fun z_ => (#[(iv 0), (iv 1), (iv 29), (iv 1497)] : Array Value)[0 + z_.toNat * 1]? = some (iv (A4_Int.get (A4_Int.mk 0 1 29 1497) z_))) h46 (by kernel_rfl) (by kernel_rfl) (by kernel_rfl) (by kernel_rfl)), hS45.cell 0 rfl 2 rfl, trivial⟩, forallC ?_ (forallN)⟩
      refine sg 3 [] [1, 2, 3, 4, 19] [(1, (pt g1)), (2, (pt g5)), (3, (iv x8)), (4, (pt g25)), (19, (bv (t20.2 != 0)))] (by kernel_rfl) ?_
      refine WL.setB 19 h32 rfl ?_
      refine segF 11 [.v (iv t20.1.Sets), .v (iv (A4_Int.get (A4_Int.mk 1 4 133 7145) x8))] [1, 2, 3, 4, 27] [(1, (pt g1)), (2, (pt g5)), (3, (iv x8)), (4, (pt g25)), (27, (bv (t20.1.Sets != (A4_Int.get (A4_Int.mk 1 4 133 7145) x8))))] [.idx (some ⟨0, 0, none⟩) x8 4] [0, 1] [(4, ⟨g25, 0, none⟩, (iv t20.1.Sets)), (7, (flatA ⟨g1, 0, none⟩ (x8.toNat * 1)), (iv (A4_Int.get (A4_Int.mk 1 4 133 7145) x8)))] (fun fb => by kernel_rfl) rfl ⟨⟨h46.1, h46.2, rfl⟩, trivial⟩ rfl ?_
      refine WL.setB 27 h35 rfl ?_
      refine segF 19 [.v (iv t20.1.Fill), .v (iv (A4_Int.get (A4_Int.mk 0 1 29 1497) x8))] [1, 2, 3, 4, 35] [(1, (pt g1)), (2, (pt g5)), (3, (iv x8)), (4, (pt g25)), (35, (bv (t20.1.Fill != (A4_Int.get (A4_Int.mk 0 1 29 1497) x8))))] [.idx (some ⟨0, 0, none⟩) x8 4] [2, 3] [(12, ⟨g25, 1, none⟩, (iv t20.1.Fill)), (15, (flatA ⟨g5, 0, none⟩ (x8.toNat * 1)), (iv (A4_Int.get (A4_Int.mk 0 1 29 1497) x8)))] (fun fb => by kernel_rfl) rfl ⟨⟨h46.1, h46.2, rfl⟩, trivial⟩ rfl ?_
      refine WL.setB 35 h39 rfl ?_
      refine segF 24 [.v (iv t20.1.Cells)] [1, 2, 3, 4, 40] [(1, (pt g1)), (2, (pt g5)), (3, (iv x8)), (4, (pt g25)), (40, (bv (decide (t20.1.Cells > 9))))] [] [4] [(20, ⟨g25, 2, none⟩, (iv t20.1.Cells))] (fun fb => by kernel_rfl) rfl trivial rfl ?_
      refine WL.setB 40 h43 rfl ?_
      refine sg 28 [] [1, 2, 3, 44] [(1, (pt g1)), (2, (pt g5)), (3, (iv x8)), (44, (bv true))] (by kernel_rfl) ?_
      refine WL.done rfl ?_
      injection hx31 with hx31
      exact WX.to Kx30 true [1, 2, 3, 44] rfl ⟨(hS45.subR []).sub [1, 2] (by decide), hx31.symm⟩
     obtain ⟨h49, hx31⟩ := as_some hx31
     refine WC.regionD ([(4, ⟨g25, 0, none⟩, (iv t20.1.Sets)), (7, (flatA ⟨g1, 0, none⟩ (x8.toNat * 1)), (iv (A4_Int.get (A4_Int.mk 1 4 133 7145) x8))), (12, ⟨g25, 1, none⟩, (iv t20.1.Fill)), (15, (flatA ⟨g5, 0, none⟩ (x8.toNat * 1)), (iv (A4_Int.get (A4_Int.mk 0 1 29 1497) x8))), (20, ⟨g25, 2, none⟩, (iv t20.1.Cells)), (25, ⟨g25, 3, none⟩, (iv t20.1.Side))], [0, 1, 2, 3, 4, 5, 6, 7, 8, 9, 10, 11, 12, 13, 14, 15, 16, 17, 18, 19, 20, 21, 22, 23, 24, 25, 26, 27], [[], [0], [0, 1], [0, 1, 2], [0, 1, 2, 3], [0, 1, 2], [0, 1, 2, 5], [0, 1, 2, 5, 6], [0, 1, 2, 3, 4, 5, 6, 7], [0, 1, 2, 3, 4, 5, 6, 7, 8], [0, 1, 2, 3, 4, 5, 6, 7, 8, 9], [0, 1, 2, 3, 4, 5, 6, 7, 8, 9, 10], [0, 1, 2, 3, 4, 5, 6, 7, 8, 9, 10, 11], [0, 1, 2, 3, 4, 5, 6, 7, 8, 9, 10], [0, 1, 2, 3, 4, 5, 6, 7, 8, 9, 10, 13], [0, 1, 2, 3, 4, 5, 6, 7, 8, 9, 10, 13, 14], [0, 1, 2, 3, 4, 5, 6, 7, 8, 9, 10, 11, 12, 13, 14, 15], [0, 1, 2, 3, 4, 5, 6, 7, 8, 9, 10, 11, 12, 13, 14, 15, 16], [0, 1, 2, 3, 4, 5, 6, 7, 8, 9, 10, 11, 12, 13, 14, 15, 16, 17], [0, 1, 2, 3, 4, 5, 6, 7, 8, 9, 10, 11, 12, 13, 14, 15, 16, 17, 18], [0, 1, 2, 3, 4, 5, 6, 7, 8, 9, 10, 11, 12, 13, 14, 15, 16, 17, 18, 19], [0, 1, 2, 3, 4, 5, 6, 7, 8, 9, 10, 11, 12, 13, 14, 15, 16, 17, 18, 19, 20], [0, 1, 2, 3, 4, 5, 6, 7, 8, 9, 10, 11, 12, 13, 14, 15, 16, 17, 18, 19, 20, 21], [0, 1, 2, 3, 4, 5, 6, 7, 8, 9, 10, 11, 12, 13, 14, 15, 16, 17, 18, 19, 20, 21, 22], [0, 1, 2, 3, 4, 5, 6, 7, 8, 9, 10, 11, 12, 13, 14, 15, 16, 17, 18, 19, 20, 21, 22, 23], [0, 1, 2, 3, 4, 5, 6, 7, 8, 9, 10, 11, 12, 13, 14, 15, 16, 17, 18, 19, 20, 21, 22, 23, 24], [0, 1, 2, 3, 4, 5, 6, 7, 8, 9, 10, 11, 12, 13, 14, 15, 16, 17, 18, 19, 20, 21, 22, 23, 24, 25], [0, 1, 2, 3, 4, 5, 6, 7, 8, 9, 10, 11, 12, 13, 14, 15, 16, 17, 18, 19, 20, 21, 22, 23, 24, 25, 26]]) [[0, 1, 2, 3, 4, 5, 6, 7, 8, 9, 10, 11, 12, 13, 14, 15, 16, 17, 18, 19, 20, 21, 22, 23, 24, 25, 26, 27]] (by kernel_rfl) (by kernel_rfl) (NoPanic.seq (NoPanic.block (NoPanic.seq (NoPanic.seq (NoPanic.block (NoPanic.seq (NoPanic.body))))))) ?_
     have hS48 := hS29.drew
     revert hS48
     generalize World.drew w28 = w47
     intro hS48
     refine ⟨⟨hS48.cell 0 rfl 0 rfl, hS48.cell 1 rfl _ (cases4 (Q := fun z_ => (#[(iv 1), (iv 4), (iv 133), (iv 7145)] : Array Value)[0 + z_.toNat * 1]? = some (iv (A4_Int.get (A4_Int.mk 1 4 133 7145) z_))) h49 (by kernel_rfl) (by kernel_rfl) (by kernel_rfl) (by kernel_rfl)), hS48.cell 0 rfl 1 rfl, hS48.cell 2 rfl _ (cases4 (Q := fun z_ => (#[(iv 0), (iv 1), (iv 29), (iv 1497)] : Array Value)[0 + z_.toNat * 1]? = some (iv (A4_Int.get (A4_Int.mk 0 1 29 1497) z_))) h49 (by kernel_rfl) (by kernel_rfl) (by kernel_rfl) (by kernel_rfl)), hS48.cell 0 rfl 2 rfl, hS48.cell 0 rfl 3 rfl, trivial⟩, forallC ?_ (forallN)⟩
     refine sg 3 [] [1, 2, 3, 4, 19] [(1, (pt g1)), (2, (pt g5)), (3, (iv x8)), (4, (pt g25)), (19, (bv (t20.2 != 0)))] (by kernel_rfl) ?_
     refine WL.setB 19 h32 rfl ?_
     refine segF 11 [.v (iv t20.1.Sets), .v (iv (A4_Int.get (A4_Int.mk 1 4 133 7145) x8))] [1, 2, 3, 4, 27] [(1, (pt g1)), (2, (pt g5)), (3, (iv x8)), (4, (pt g25)), (27, (bv (t20.1.Sets != (A4_Int.get (A4_Int.mk 1 4 133 7145) x8))))] [.idx (some ⟨0, 0, none⟩) x8 4] [0, 1] [(4, ⟨g25, 0, none⟩, (iv t20.1.Sets)), (7, (flatA ⟨g1, 0, none⟩ (x8.toNat * 1)), (iv (A4_Int.get (A4_Int.mk 1 4 133 7145) x8)))] (fun fb => by kernel_rfl) rfl ⟨⟨h49.1, h49.2, rfl⟩, trivial⟩ rfl ?_
     refine WL.setB 27 h35 rfl ?_
     refine segF 19 [.v (iv t20.1.Fill), .v (iv (A4_Int.get (A4_Int.mk 0 1 29 1497) x8))] [1, 2, 3, 4, 35] [(1, (pt g1)), (2, (pt g5)), (3, (iv x8)), (4, (pt g25)), (35, (bv (t20.1.Fill != (A4_Int.get (A4_Int.mk 0 1 29 1497) x8))))] [.idx (some ⟨0, 0, none⟩) x8 4] [2, 3] [(12, ⟨g25, 1, none⟩, (iv t20.1.Fill)), (15, (flatA ⟨g5, 0, none⟩ (x8.toNat * 1)), (iv (A4_Int.get (A4_Int.mk 0 1 29 1497) x8)))] (fun fb => by kernel_rfl) rfl ⟨⟨h49.1, h49.2, rfl⟩, trivial⟩ rfl ?_
     refine WL.setB 35 h39 rfl ?_
     refine segF 24 [.v (iv t20.1.Cells)] [1, 2, 3, 4, 40] [(1, (pt g1)), (2, (pt g5)), (3, (iv x8)), (4, (pt g25)), (40, (bv (decide (t20.1.Cells > 9))))] [] [4] [(20, ⟨g25, 2, none⟩, (iv t20.1.Cells))] (fun fb => by kernel_rfl) rfl trivial rfl ?_
     refine WL.setB 40 h43 rfl ?_
     refine segF 28 [.v (iv t20.1.Side)] [1, 2, 3, 44] [(1, (pt g1)), (2, (pt g5)), (3, (iv x8)), (44, (bv (decide (t20.1.Side > 4))))] [] [5] [(25, ⟨g25, 3, none⟩, (iv t20.1.Side))] (fun fb => by kernel_rfl) rfl trivial rfl ?_
     refine WL.done rfl ?_
     injection hx31 with hx31
     exact WX.to Kx30 (decide (t20.1.Side > 4)) [1, 2, 3, 44] rfl ⟨(hS48.subR []).sub [1, 2] (by decide), hx31.symm⟩
    rintro y53 w50 ⟨hS51, hq52⟩
    subst hq52
    refine WX.next ?_
    rcases br_some hl18 with ⟨h54, hl18⟩ | ⟨h54, hl18⟩
    ·refine WC.condT2 (fun fb => by kernel_rfl) h54 ?_
     refine WC.seq (WC.region ?_)
     refine sg 1 [] [0] [(0, (bv false))] (by kernel_rfl) ?_
     refine WL.done rfl (WX.next ?_)
     refine WC.ret ?_
     injection hl18 with hl18
     subst hl18
     injection hf with hf
     subst hf
     exact WX.blockR (WX.thenR (WX.thenR (WX.blockR (WX.thenR (WX.ret_ [] (bv false) [] (fun fb => by kernel_rfl) trivial ⟨_, rfl, rfl, hS51.keep⟩)))))
    refine WC.condF2 (fun fb => by kernel_rfl) h54 ?_
    refine WC.skip ?_
    refine WX.blockN (WX.next ?_)
    refine WC.region ?_
    refine sg 3 [] [1, 2, 3] [(1, (pt g1)), (2, (pt g5)), (3, (iv (w64 (x8 + 1))))] (by kernel_rfl) ?_
    refine WL.done rfl ?_
    exact WX.again k15 (Nat.lt_succ_self _) (w64 (x8 + 1)) [1, 2, 3] rfl ⟨(hS51.subR []).sub [0, 1] (by decide), hl18⟩
   refine WC.condF2 (fun fb => by kernel_rfl) h19 ?_
   refine WC.exit ?_
   injection hl18 with hl18
   exact WX.thenX (WX.thenX (WX.blockHere (WX.to Kx13 () [] rfl ⟨(hS17.subR []).sub [] (by decide), hl18.symm⟩)))
 rintro y58 w55 ⟨hS56, hq57⟩
 subst hq57
 have hf := sum_inr hf
 refine WX.next (WC.seq (WC.region ?_))
 obtain ⟨t59, ht60, hf⟩ := bind_some hf
 refine WL.call (some 45) 20 #[] (fun fb => by kernel_rfl) (top_decides_calls _ t59 _ ht60) (fun v w61 hR62 => ?_)
 obtain ⟨rfl, hk_⟩ := hR62
 have hS63 := hS56.keepN hk_
 refine ⟨trivial, ?_⟩
 refine sg 2 [] [0] [(0, (bv t59))] (by kernel_rfl) ?_
 refine WL.done rfl (WX.next ?_)
 refine WC.ret ?_
 injection hf with hf
 subst hf
 exact WX.ret_ [] (bv t59) [] (fun fb => by kernel_rfl) trivial ⟨_, rfl, rfl, hS63.keep⟩
end Gp
