/- Walks: each function of the program computes its plain function. -/
import Derived.Test.YtdikkfepiiomiaaDoorGx0
set_option linter.unusedVariables false
set_option linter.unusedSimpArgs false
set_option maxHeartbeats 4000000
namespace Gp
open Go Gw Go.Proofs
theorem rows_All_calls (k : Nat) (p0 : List Tile) (p1 : Int) (Aa : Option Addr) (ca : Nat) (r : (List Row)) (w : World) (hR0 : RO NoS w (rowR enc_Tile Aa ca p0)) (hf : rows_All k p0 p1 = some r) :
  CallsR Tryd.prog 48 #[(sv Aa p0 ca), (iv p1)] w (fun v w' => ∃ (A1_ : Option Addr), ∃ (c1_ : Nat), ∃ (h1_ : Nat → HF), v = (sv A1_ r c1_) ∧ St NoS w w' [] [rowO 74 encN_Row A1_ c1_ (tag h1_ r), poolO [nestO subN_Row h1_ r]]) := by
 have hS : St NoS w w [rowR enc_Tile Aa ca p0] [] := St.init (ro_cons hR0 (ro_nil _ _))
 refine enter 14 Tryd.func48 rfl Tryd.ntmps48 rfl ?_
 unfold rows_All at hf
 refine WC.seq (WC.region ?_)
 refine WL.new hS 2 [] (fun g => (pt g)) (.cells #[(sv Aa p0 ca)] 22 (0, 0)) [] (fun fb g => by kernel_rfl) trivial (fun g2 w3 hS4 => ?_)
 refine ⟨trivial, ?_⟩
 refine WL.new hS4 3 [] (fun g => (pt g)) (.cells #[(iv p1)] 3 (0, 0)) [] (fun fb g => by kernel_rfl) trivial (fun g5 w6 hS7 => ?_)
 refine ⟨trivial, ?_⟩
 refine seg 3 [] [2, 3] [(2, (pt g2)), (3, (pt g5))] [] (fun fb => by kernel_rfl) rfl trivial ?_
 refine WL.done rfl (WX.next (WC.seq (WC.region ?_)))
 refine WL.new hS7 5 [] (fun g => (pt g)) (.cells #[(.slice none 0 0)] 68 (0, 0)) [] (fun fb g => by kernel_rfl) trivial (fun g8 w9 hS10 => ?_)
 refine ⟨trivial, ?_⟩
 refine WL.done rfl (WX.next (WC.seq (WC.region ?_)))
 refine seg 1 [.v (iv p1)] [2, 3, 5, 8] [(2, (pt g2)), (3, (pt g5)), (5, (pt g8)), (8, (iv p1))] [.cell ⟨g5, 0, none⟩ (iv p1)] (fun fb => by kernel_rfl) rfl ⟨hS10.cell 1 rfl 0 rfl, trivial⟩ ?_
 obtain ⟨h11, hf⟩ := as_some hf
 refine WL.make hS10 (e := encInt) (T := 3) (tS := 23) (z := (iv 0)) (bytes := 8) (d := 9) (0 : Int) p1 (fun fb => by kernel_rfl) (by kernel_rfl) (by kernel_rfl) rfl (by decide) h11 (by decide) (fun g12 w13 hS14 => ?_)
 refine ⟨trivial, ?_⟩
 refine WL.new hS14 6 [] (fun g => (pt g)) (.cells #[(.slice none 0 0)] 23 (0, 0)) [] (fun fb g => by kernel_rfl) trivial (fun g15 w16 hS17 => ?_)
 refine ⟨trivial, ?_⟩
 refine WL.store hS17 0 rfl [(0, (sv (some ⟨g12, 0, none⟩) (List.replicate p1.toNat (0 : Int)) p1.toNat))] #[(sv (some ⟨g12, 0, none⟩) (List.replicate p1.toNat (0 : Int)) p1.toNat)] (fun fb => by kernel_rfl) (by kernel_rfl) rfl [1, 2, 3, 4] (by decide) (by decide) (fun w18 hS19 => ?_)
 refine ⟨trivial, ?_⟩
 refine WL.done rfl (WX.next (WC.seq (WC.region ?_)))
 refine WL.new hS19 7 [] (fun g => (pt g)) (.cells #[.nilFunc] 105 (0, 0)) [] (fun fb g => by kernel_rfl) trivial (fun g20 w21 hS22 => ?_)
 refine ⟨trivial, ?_⟩
 refine WL.done rfl (WX.next (WC.seq (WC.region ?_)))
 refine seg 1 [] [5, 7, 10] [(5, (pt g8)), (7, (pt g20)), (10, (.func (.func 63) #[] #[(pt g5), (pt g8), (pt g2), (pt g15), (pt g20)]))] [] (fun fb => by kernel_rfl) rfl trivial ?_
 refine WL.store hS22 0 rfl [(0, (.func (.func 63) #[] #[(pt g5), (pt g8), (pt g2), (pt g15), (pt g20)]))] #[(.func (.func 63) #[] #[(pt g5), (pt g8), (pt g2), (pt g15), (pt g20)])] (fun fb => by kernel_rfl) (by kernel_rfl) rfl [1, 2, 3, 4, 5] (by decide) (by decide) (fun w23 hS24 => ?_)
 refine ⟨trivial, ?_⟩
 refine WL.done rfl (WX.next (WC.seq (WC.region ?_)))
 refine seg 1 [.v (.func (.func 63) #[] #[(pt g5), (pt g8), (pt g2), (pt g15), (pt g20)])] [5, 11] [(5, (pt g8)), (11, (.func (.func 63) #[] #[(pt g5), (pt g8), (pt g2), (pt g15), (pt g20)]))] [.cell ⟨g20, 0, none⟩ (.func (.func 63) #[] #[(pt g5), (pt g8), (pt g2), (pt g15), (pt g20)])] (fun fb => by kernel_rfl) rfl ⟨hS24.cell 0 rfl 0 rfl, trivial⟩ ?_
 have hS25 := hS.go w23 [rowO 74 encN_Row none 0 (tag h0 ([] : List Row)), blk g20 (.cells #[(.func (.func 63) #[] #[(pt g5), (pt g8), (pt g2), (pt g15), (pt g20)])] 105 (0, 0)), blk g15 (.cells #[(sv (some ⟨g12, 0, none⟩) (List.replicate p1.toNat (0 : Int)) p1.toNat)] 23 (0, 0)), rowO 3 encInt (some ⟨g12, 0, none⟩) p1.toNat (List.replicate p1.toNat (0 : Int)), blk g8 (.cells #[(.slice none 0 0)] 68 (0, 0)), blk g5 (.cells #[(iv p1)] 3 (0, 0)), blk g2 (.cells #[(sv Aa p0 ca)] 22 (0, 0))] (hS24.nilrow 74 encN_Row)
 have hS26 := hS25.poolNil subN_Row h0
 obtain ⟨t27, ht28, hf⟩ := bind_some hf
 refine WL.call (some 12) 63 #[(iv 0), (pt g5), (pt g8), (pt g2), (pt g15), (pt g20)] (fun fb => by kernel_rfl) (rows_All_1_calls _ 0 p1 ([] : List Row) p0 (List.replicate p1.toNat (0 : Int)) g5 g8 none 0 h0 g2 Aa ca g15 (some ⟨g12, 0, none⟩) p1.toNat g20 t27 _ (hS26.owT [5, 1, 0, 3, 4] 6 (by decide)) (hS26.owT [5, 1, 0, 3, 4] 7 (by decide)) (hS26.rdT [5, 1, 0, 3, 4] 0) (hS26.owT [5, 1, 0, 3, 4] 2 (by decide)) (hS26.io [5, 1, 0, 3, 4] (by decide)) ht28) (fun v w29 hR30 => ?_)
 obtain ⟨A32, c33, H34, A35, c36, rfl, hk_⟩ := hR30
 have hS31 := hS25.go w29 [blk g8 (.cells #[(sv A32 t27.1 c33)] 68 (0, 0)), rowO 74 encN_Row A32 c33 (tag H34 t27.1), poolO [nestO subN_Row H34 t27.1], blk g15 (.cells #[(sv A35 t27.2 c36)] 23 (0, 0)), rowO 3 encInt A35 c36 t27.2, blk g20 (.cells #[(.func (.func 63) #[] #[(pt g5), (pt g8), (pt g2), (pt g15), (pt g20)])] 105 (0, 0)), blk g5 (.cells #[(iv p1)] 3 (0, 0)), blk g2 (.cells #[(sv Aa p0 ca)] 22 (0, 0))] (hS26.call hk_ [5, 1, 0, 3, 4] [2, 6, 7] (fun g hg => fpL_sel g hg) (by decide) (by decide))
 refine ⟨trivial, ?_⟩
 refine WL.done rfl (WX.next (WC.seq (WC.region ?_)))
 refine seg 2 [.v (sv A32 t27.1 c33)] [4] [(4, (sv A32 t27.1 c33))] [.cell ⟨g8, 0, none⟩ (sv A32 t27.1 c33)] (fun fb => by kernel_rfl) rfl ⟨hS31.cell 0 rfl 0 rfl, trivial⟩ ?_
 refine WL.done rfl (WX.next ?_)
 refine WC.ret ?_
 injection hf with hf
 subst hf
 exact WX.ret_ [] (sv A32 t27.1 c33) [] (fun fb => by kernel_rfl) trivial ⟨_, rfl, A32, c33, H34, rfl, (hS31.sub [1, 2] (by decide)).noR⟩
theorem fill_begin_calls (k : Nat) (p0 : List Tile) (p1 : Int) (p2 : Int) (p3 : Edges) (Aa : Option Addr) (ca : Nat) (Ab : Option Addr) (cb : Nat) (Ac : Option Addr) (cc : Nat) (Ad : Option Addr) (cd : Nat) (Ae : Option Addr) (ce : Nat) (r : (Option Job) × Int) (w : World) (hR0 : RO NoS w (rowR enc_Tile Aa ca p0)) (hR1 : RO NoS w (rowR encInt Ab cb p3.North)) (hR2 : RO NoS w (rowR encInt Ac cc p3.East)) (hR3 : RO NoS w (rowR encInt Ad cd p3.South)) (hR4 : RO NoS w (rowR encInt Ae ce p3.West)) (hf : fill_begin k p0 p1 p2 p3 = some r) :
  CallsR Tryd.prog 44 #[(sv Aa p0 ca), (iv p1), (iv p2), (.agg #[(sv Ab p3.North cb), (sv Ac p3.East cc), (sv Ad p3.South cd), (sv Ae p3.West ce)])] w (fun v w' => ∃ (g1_ : Nat), ∃ (A2_ : Option Addr), ∃ (c2_ : Nat), ∃ (h2_ : Nat → HF), v = (.tuple #[(optP r.1 g1_), (iv r.2)]) ∧ optS r.1 (Keeps NoS w w') (fun y_ => St NoS w w' [] [blk g1_ (.cells #[(sv A2_ y_.rows c2_), (iv y_.width), (iv y_.height), (sv Ab p3.North cb), (sv Ac p3.East cc), (sv Ad p3.South cd), (sv Ae p3.West ce)] 88 (0, 0)), rowO 74 encN_Row A2_ c2_ (tag h2_ y_.rows), poolO [nestO subN_Row h2_ y_.rows]])) := by
 have hS : St NoS w w [rowR enc_Tile Aa ca p0, rowR encInt Ab cb p3.North, rowR encInt Ac cc p3.East, rowR encInt Ad cd p3.South, rowR encInt Ae ce p3.West] [] := St.init (ro_cons hR0 (ro_cons hR1 (ro_cons hR2 (ro_cons hR3 (ro_cons hR4 (ro_nil _ _))))))
 refine enter 76 Tryd.func44 rfl Tryd.ntmps44 rfl ?_
 unfold fill_begin at hf
 refine WC.seq (WC.region ?_)
 refine WL.new hS 7 [] (fun g => (pt g)) (.cells #[(sv Ab p3.North cb), (sv Ac p3.East cc), (sv Ad p3.South cd), (sv Ae p3.West ce)] 63 (0, 0)) [] (fun fb g => by kernel_rfl) trivial (fun g5 w6 hS7 => ?_)
 refine ⟨trivial, ?_⟩
 refine seg 3 [] [0, 1, 2, 7] [(0, (sv Aa p0 ca)), (1, (iv p1)), (2, (iv p2)), (7, (pt g5))] [] (fun fb => by kernel_rfl) rfl trivial ?_
 refine WL.done rfl (WX.next (WC.seq (WC.seq (WC.region ?_))))
 refine seg 1 [] [0, 1, 2, 7, 12] [(0, (sv Aa p0 ca)), (1, (iv p1)), (2, (iv p2)), (7, (pt g5)), (12, (sv Aa p0 ca))] [] (fun fb => by kernel_rfl) rfl trivial ?_
 obtain ⟨t8, ht9, hf⟩ := bind_some hf
 refine WL.call (some 13) 22 #[(sv Aa p0 ca)] (fun fb => by kernel_rfl) (tile_Valid_calls _ p0 Aa ca t8 _ (hS7.rd 0) ht9) (fun v w10 hR11 => ?_)
 obtain ⟨rfl, hk_⟩ := hR11
 have hS12 := hS7.keepN hk_
 refine ⟨trivial, ?_⟩
 refine seg 3 [] [0, 1, 2, 7, 14] [(0, (sv Aa p0 ca)), (1, (iv p1)), (2, (iv p2)), (7, (pt g5)), (14, (bv (!t8)))] [] (fun fb => by kernel_rfl) rfl trivial ?_
 refine WL.done rfl (WX.next ?_)
 rcases br_some hf with ⟨h13, hf⟩ | ⟨h13, hf⟩
 ·refine WC.condT2 (fun fb => by kernel_rfl) h13 ?_
  refine WC.seq (WC.region ?_)
  refine seg 2 [] [8, 9] [(8, (.pointer none)), (9, (iv 1))] [] (fun fb => by kernel_rfl) rfl trivial ?_
  refine WL.done rfl (WX.next ?_)
  refine WC.ret ?_
  injection hf with hf
  subst hf
  exact WX.thenR (WX.ret_ [] (.tuple #[(.pointer none), (iv 1)]) [] (fun fb => by kernel_rfl) trivial ⟨_, rfl, 0, none, 0, h0, rfl, hS12.keep⟩)
 refine WC.condF2 (fun fb => by kernel_rfl) h13 ?_
 refine WC.skip (WX.next (WC.seq (WC.seq (WC.region ?_))))
 refine seg 3 [] [0, 1, 2, 7, 17] [(0, (sv Aa p0 ca)), (1, (iv p1)), (2, (iv p2)), (7, (pt g5)), (17, (bv (decide (p1 < 1))))] [] (fun fb => by kernel_rfl) rfl trivial ?_
 refine WL.cutV (T := Bool) 6 (fun t => [(20, (bv t)), (0, (sv Aa p0 ca)), (1, (iv p1)), (2, (iv p2)), (7, (pt g5))]) (fun t => ((decide (p1 < 1)) || (decide (p1 > 8))) = t) (fun K => ?_) ?_
 ·
  rcases Bool.eq_false_or_eq_true (decide (p1 < 1)) with h14 | h14
  ·
   refine WL.setB 17 h14 rfl ?_
   refine seg 6 [] [0, 1, 2, 7, 20] [(0, (sv Aa p0 ca)), (1, (iv p1)), (2, (iv p2)), (7, (pt g5)), (20, (bv true))] [] (fun fb => by kernel_rfl) rfl trivial ?_
   exact WL.toV K true [20, 0, 1, 2, 7] rfl (by first | (rw [h14]; done) | (rw [h14]; rfl))
  refine WL.setB 17 h14 rfl ?_
  refine seg 6 [] [0, 1, 2, 7, 20] [(0, (sv Aa p0 ca)), (1, (iv p1)), (2, (iv p2)), (7, (pt g5)), (20, (bv (decide (p1 > 8))))] [] (fun fb => by kernel_rfl) rfl trivial ?_
  exact WL.toV K (decide (p1 > 8)) [20, 0, 1, 2, 7] rfl (by first | (rw [h14]; done) | (rw [h14]; rfl))
 rintro b15 rfl
 refine seg 7 [] [0, 1, 2, 7, 21] [(0, (sv Aa p0 ca)), (1, (iv p1)), (2, (iv p2)), (7, (pt g5)), (21, (bv ((decide (p1 < 1)) || (decide (p1 > 8)))))] [] (fun fb => by kernel_rfl) rfl trivial ?_
 refine WL.cutV (T := Bool) 10 (fun t => [(24, (bv t)), (0, (sv Aa p0 ca)), (1, (iv p1)), (2, (iv p2)), (7, (pt g5))]) (fun t => (((decide (p1 < 1)) || (decide (p1 > 8))) || (decide (p2 < 1))) = t) (fun K => ?_) ?_
 ·
  rcases Bool.eq_false_or_eq_true ((decide (p1 < 1)) || (decide (p1 > 8))) with h16 | h16
  ·
   refine WL.setB 21 h16 rfl ?_
   refine seg 10 [] [0, 1, 2, 7, 24] [(0, (sv Aa p0 ca)), (1, (iv p1)), (2, (iv p2)), (7, (pt g5)), (24, (bv true))] [] (fun fb => by kernel_rfl) rfl trivial ?_
   exact WL.toV K true [24, 0, 1, 2, 7] rfl (by first | (rw [h16]; done) | (rw [h16]; rfl))
  refine WL.setB 21 h16 rfl ?_
  refine seg 10 [] [0, 1, 2, 7, 24] [(0, (sv Aa p0 ca)), (1, (iv p1)), (2, (iv p2)), (7, (pt g5)), (24, (bv (decide (p2 < 1))))] [] (fun fb => by kernel_rfl) rfl trivial ?_
  exact WL.toV K (decide (p2 < 1)) [24, 0, 1, 2, 7] rfl (by first | (rw [h16]; done) | (rw [h16]; rfl))
 rintro b17 rfl
 refine seg 11 [] [0, 1, 2, 7, 25] [(0, (sv Aa p0 ca)), (1, (iv p1)), (2, (iv p2)), (7, (pt g5)), (25, (bv (((decide (p1 < 1)) || (decide (p1 > 8))) || (decide (p2 < 1)))))] [] (fun fb => by kernel_rfl) rfl trivial ?_
 refine WL.cutV (T := Bool) 14 (fun t => [(28, (bv t)), (0, (sv Aa p0 ca)), (1, (iv p1)), (2, (iv p2)), (7, (pt g5))]) (fun t => ((((decide (p1 < 1)) || (decide (p1 > 8))) || (decide (p2 < 1))) || (decide (p2 > 60))) = t) (fun K => ?_) ?_
 ·
  rcases Bool.eq_false_or_eq_true (((decide (p1 < 1)) || (decide (p1 > 8))) || (decide (p2 < 1))) with h18 | h18
  ·
   refine WL.setB 25 h18 rfl ?_
   refine seg 14 [] [0, 1, 2, 7, 28] [(0, (sv Aa p0 ca)), (1, (iv p1)), (2, (iv p2)), (7, (pt g5)), (28, (bv true))] [] (fun fb => by kernel_rfl) rfl trivial ?_
   exact WL.toV K true [28, 0, 1, 2, 7] rfl (by first | (rw [h18]; done) | (rw [h18]; rfl))
  refine WL.setB 25 h18 rfl ?_
  refine seg 14 [] [0, 1, 2, 7, 28] [(0, (sv Aa p0 ca)), (1, (iv p1)), (2, (iv p2)), (7, (pt g5)), (28, (bv (decide (p2 > 60))))] [] (fun fb => by kernel_rfl) rfl trivial ?_
  exact WL.toV K (decide (p2 > 60)) [28, 0, 1, 2, 7] rfl (by first | (rw [h18]; done) | (rw [h18]; rfl))
 rintro b19 rfl
 refine WL.done rfl (WX.next ?_)
 rcases br_some hf with ⟨h20, hf⟩ | ⟨h20, hf⟩
 ·refine WC.condT2 (fun fb => by kernel_rfl) h20 ?_
  refine WC.seq (WC.region ?_)
  refine seg 2 [] [8, 9] [(8, (.pointer none)), (9, (iv 2))] [] (fun fb => by kernel_rfl) rfl trivial ?_
  refine WL.done rfl (WX.next ?_)
  refine WC.ret ?_
  injection hf with hf
  subst hf
  exact WX.thenR (WX.ret_ [] (.tuple #[(.pointer none), (iv 2)]) [] (fun fb => by kernel_rfl) trivial ⟨_, rfl, 0, none, 0, h0, rfl, hS12.keep⟩)
 refine WC.condF2 (fun fb => by kernel_rfl) h20 ?_
 refine WC.skip (WX.next (WC.seq (WC.seq (WC.region ?_))))
 refine seg 16 [.v (sv Ab p3.North cb), .v (sv Ad p3.South cd), .v (sv Ac p3.East cc), .v (sv Ae p3.West ce)] [0, 1, 2, 7, 32, 36, 40, 44] [(0, (sv Aa p0 ca)), (1, (iv p1)), (2, (iv p2)), (7, (pt g5)), (32, (.agg #[(sv Ab p3.North cb), (iv p1)])), (36, (.agg #[(sv Ad p3.South cd), (iv p1)])), (40, (.agg #[(sv Ac p3.East cc), (iv p2)])), (44, (.agg #[(sv Ae p3.West ce), (iv p2)]))] [.cell ⟨g5, 0, none⟩ (sv Ab p3.North cb), .cell ⟨g5, 2, none⟩ (sv Ad p3.South cd), .cell ⟨g5, 1, none⟩ (sv Ac p3.East cc), .cell ⟨g5, 3, none⟩ (sv Ae p3.West ce)] (fun fb => by kernel_rfl) rfl ⟨hS12.cell 0 rfl 0 rfl, hS12.cell 0 rfl 2 rfl, hS12.cell 0 rfl 1 rfl, hS12.cell 0 rfl 3 rfl, trivial⟩ ?_
 refine WL.new hS12 45 [] (fun g => (.slice (some ⟨g, 0, none⟩) 4 4)) (.cells #[(sv Ab p3.North cb), (iv p1), (sv Ad p3.South cd), (iv p1), (sv Ac p3.East cc), (iv p2), (sv Ae p3.West ce), (iv p2)] 107 (0, 0)) [] (fun fb g => by kernel_rfl) trivial (fun g21 w22 hS23 => ?_)
 refine ⟨trivial, ?_⟩
 have hS25 : St NoS w w22 [nestO subN_S_side_n (hlN [(hd1 Ab cb), (hd1 Ad cd), (hd1 Ac cc), (hd1 Ae ce)]) [(S_side_n.mk p3.North p1), (S_side_n.mk p3.South p1), (S_side_n.mk p3.East p2), (S_side_n.mk p3.West p2)], rowR enc_Tile Aa ca p0, rowR encInt Ab cb p3.North, rowR encInt Ac cc p3.East, rowR encInt Ad cd p3.South, rowR encInt Ae ce p3.West] [blk g21 (.cells #[(sv Ab p3.North cb), (iv p1), (sv Ad p3.South cd), (iv p1), (sv Ac p3.East cc), (iv p2), (sv Ae p3.West ce), (iv p2)] 107 (0, 0)), blk g5 (.cells #[(sv Ab p3.North cb), (sv Ac p3.East cc), (sv Ad p3.South cd), (sv Ae p3.West ce)] 63 (0, 0))] := hS23.addR _ (nestO_cons (hS23.rdL 1) (nestO_cons (hS23.rdL 3) (nestO_cons (hS23.rdL 2) (nestO_cons (hS23.rdL 4) (nestO_nil _ _ _ _)))))
 have hS24 := hS25.go w22 [rowO 107 encN_S_side_n (some ⟨g21, 0, none⟩) 4 (tag (hlN [(hd1 Ab cb), (hd1 Ad cd), (hd1 Ac cc), (hd1 Ae ce)]) [(S_side_n.mk p3.North p1), (S_side_n.mk p3.South p1), (S_side_n.mk p3.East p2), (S_side_n.mk p3.West p2)]), blk g5 (.cells #[(sv Ab p3.North cb), (sv Ac p3.East cc), (sv Ad p3.South cd), (sv Ae p3.West ce)] 63 (0, 0))] (hS25.map1 0 _ (fun h => rowO.ofBlk h rfl (Nat.le_of_ble_eq_true (by kernel_rfl))) (fun _ h => by obtain ⟨_, h1, h2⟩ := h; injection h1 with h1; subst h1; exact h2) [1] (by decide) (by decide))
 refine seg 19 [] [0, 1, 2, 7, 45, 46, 47] [(0, (sv Aa p0 ca)), (1, (iv p1)), (2, (iv p2)), (7, (pt g5)), (45, (sv (some ⟨g21, 0, none⟩) [(S_side_n.mk p3.North p1), (S_side_n.mk p3.South p1), (S_side_n.mk p3.East p2), (S_side_n.mk p3.West p2)] 4)), (46, (iv ([(S_side_n.mk p3.North p1), (S_side_n.mk p3.South p1), (S_side_n.mk p3.East p2), (S_side_n.mk p3.West p2)].length : Int))), (47, (iv 0))] [] (fun fb => by kernel_rfl) rfl trivial ?_
 refine WL.done rfl (WX.next ?_)
 obtain ⟨x27, hx28, hf⟩ := bind_some hf
 refine WC.cutN (T := Unit) (fun t => [(0, (sv Aa p0 ca)), (1, (iv p1)), (2, (iv p2)), (7, (pt g5))]) (fun t w1 => St NoS w w1 [nestO subN_S_side_n (hlN [(hd1 Ab cb), (hd1 Ad cd), (hd1 Ac cc), (hd1 Ae ce)]) [(S_side_n.mk p3.North p1), (S_side_n.mk p3.South p1), (S_side_n.mk p3.East p2), (S_side_n.mk p3.West p2)], rowR enc_Tile Aa ca p0, rowR encInt Ab cb p3.North, rowR encInt Ac cc p3.East, rowR encInt Ad cd p3.South, rowR encInt Ae ce p3.West] [blk g5 (.cells #[(sv Ab p3.North cb), (sv Ac p3.East cc), (sv Ad p3.South cd), (sv Ae p3.West ce)] 63 (0, 0))] ∧ x27 = .inr t) (fun Kx27 => ?_) ?_
 ·
  refine WC.block ?_
  refine WC.loop (T := Int) (fun t => [(0, (sv Aa p0 ca)), (1, (iv p1)), (2, (iv p2)), (7, (pt g5)), (45, (sv (some ⟨g21, 0, none⟩) [(S_side_n.mk p3.North p1), (S_side_n.mk p3.South p1), (S_side_n.mk p3.East p2), (S_side_n.mk p3.West p2)] 4)), (46, (iv ([(S_side_n.mk p3.North p1), (S_side_n.mk p3.South p1), (S_side_n.mk p3.East p2), (S_side_n.mk p3.West p2)].length : Int))), (47, (iv t))]) (fun n t w1 => St NoS w w1 [nestO subN_S_side_n (hlN [(hd1 Ab cb), (hd1 Ad cd), (hd1 Ac cc), (hd1 Ae ce)]) [(S_side_n.mk p3.North p1), (S_side_n.mk p3.South p1), (S_side_n.mk p3.East p2), (S_side_n.mk p3.West p2)], rowR enc_Tile Aa ca p0, rowR encInt Ab cb p3.North, rowR encInt Ac cc p3.East, rowR encInt Ad cd p3.South, rowR encInt Ae ce p3.West] [blk g5 (.cells #[(sv Ab p3.North cb), (sv Ac p3.East cc), (sv Ad p3.South cd), (sv Ae p3.West ce)] 63 (0, 0)), rowO 107 encN_S_side_n (some ⟨g21, 0, none⟩) 4 (tag (hlN [(hd1 Ab cb), (hd1 Ad cd), (hd1 Ac cc), (hd1 Ae ce)]) [(S_side_n.mk p3.North p1), (S_side_n.mk p3.South p1), (S_side_n.mk p3.East p2), (S_side_n.mk p3.West p2)])] ∧ fill_begin.l0 n t p1 p2 p3 = some x27) k 0 [0, 1, 2, 7, 45, 46, 47] rfl ⟨(hS24.subR [0, 1, 2, 3, 4, 5]).sub [1, 0] (by decide), hx28⟩ ?_
  rintro k29 x26 w30 ⟨hS31, hl32⟩
  cases k29 with
  | zero => rw [fill_begin.l0] at hl32; cases hl32
  | succ k29 =>
   rw [fill_begin.l0] at hl32
   refine WC.seq (WC.region ?_)
   refine seg 1 [] [0, 1, 2, 7, 45, 46, 47, 48] [(0, (sv Aa p0 ca)), (1, (iv p1)), (2, (iv p2)), (7, (pt g5)), (45, (sv (some ⟨g21, 0, none⟩) [(S_side_n.mk p3.North p1), (S_side_n.mk p3.South p1), (S_side_n.mk p3.East p2), (S_side_n.mk p3.West p2)] 4)), (46, (iv ([(S_side_n.mk p3.North p1), (S_side_n.mk p3.South p1), (S_side_n.mk p3.East p2), (S_side_n.mk p3.West p2)].length : Int))), (47, (iv x26)), (48, (bv (decide (x26 < ([(S_side_n.mk p3.North p1), (S_side_n.mk p3.South p1), (S_side_n.mk p3.East p2), (S_side_n.mk p3.West p2)].length : Int)))))] [] (fun fb => by kernel_rfl) rfl trivial ?_
   refine WL.done rfl (WX.next (WC.seq ?_))
   rcases br_some hl32 with ⟨h33, hl32⟩ | ⟨h33, hl32⟩
   ·refine WC.condT2 (fun fb => by kernel_rfl) h33 ?_
    refine WC.skip (WX.next (WC.seq (WC.block (WC.seq (WC.region ?_)))))
    obtain ⟨h34, hl32⟩ := as_some hl32
    refine seg 2 [.v (sv (((hlN [(hd1 Ab cb), (hd1 Ad cd), (hd1 Ac cc), (hd1 Ae ce)]) x26.toNat 0).1) ((rdD [(S_side_n.mk p3.North p1), (S_side_n.mk p3.South p1), (S_side_n.mk p3.East p2), (S_side_n.mk p3.West p2)] x26 z_S_side_n).side) (((hlN [(hd1 Ab cb), (hd1 Ad cd), (hd1 Ac cc), (hd1 Ae ce)]) x26.toNat 0).2)), .v (iv ((rdD [(S_side_n.mk p3.North p1), (S_side_n.mk p3.South p1), (S_side_n.mk p3.East p2), (S_side_n.mk p3.West p2)] x26 z_S_side_n).n))] [0, 1, 2, 7, 45, 46, 47, 50] [(0, (sv Aa p0 ca)), (1, (iv p1)), (2, (iv p2)), (7, (pt g5)), (45, (sv (some ⟨g21, 0, none⟩) [(S_side_n.mk p3.North p1), (S_side_n.mk p3.South p1), (S_side_n.mk p3.East p2), (S_side_n.mk p3.West p2)] 4)), (46, (iv ([(S_side_n.mk p3.North p1), (S_side_n.mk p3.South p1), (S_side_n.mk p3.East p2), (S_side_n.mk p3.West p2)].length : Int))), (47, (iv x26)), (50, (.agg #[(sv (((hlN [(hd1 Ab cb), (hd1 Ad cd), (hd1 Ac cc), (hd1 Ae ce)]) x26.toNat 0).1) ((rdD [(S_side_n.mk p3.North p1), (S_side_n.mk p3.South p1), (S_side_n.mk p3.East p2), (S_side_n.mk p3.West p2)] x26 z_S_side_n).side) (((hlN [(hd1 Ab cb), (hd1 Ad cd), (hd1 Ac cc), (hd1 Ae ce)]) x26.toNat 0).2)), (iv ((rdD [(S_side_n.mk p3.North p1), (S_side_n.mk p3.South p1), (S_side_n.mk p3.East p2), (S_side_n.mk p3.West p2)] x26 z_S_side_n).n))]))] [.idx (some ⟨g21, 0, none⟩) x26 [(S_side_n.mk p3.North p1), (S_side_n.mk p3.South p1), (S_side_n.mk p3.East p2), (S_side_n.mk p3.West p2)].length, .cell ((adr (some ⟨g21, 0, none⟩)).add ((x26).toNat * 2)) (sv (((hlN [(hd1 Ab cb), (hd1 Ad cd), (hd1 Ac cc), (hd1 Ae ce)]) x26.toNat 0).1) ((rdD [(S_side_n.mk p3.North p1), (S_side_n.mk p3.South p1), (S_side_n.mk p3.East p2), (S_side_n.mk p3.West p2)] x26 z_S_side_n).side) (((hlN [(hd1 Ab cb), (hd1 Ad cd), (hd1 Ac cc), (hd1 Ae ce)]) x26.toNat 0).2)), .cell (((adr (some ⟨g21, 0, none⟩)).add ((x26).toNat * 2)).add 1) (iv ((rdD [(S_side_n.mk p3.North p1), (S_side_n.mk p3.South p1), (S_side_n.mk p3.East p2), (S_side_n.mk p3.West p2)] x26 z_S_side_n).n))] (fun fb => by kernel_rfl) rfl ⟨nrow_adr (rowO.rd (hS31.own 1).1) h34.1 h34.2, nrow_cell (rowO.rd (hS31.own 1).1) z_S_side_n h34.1 h34.2 0 rfl, nrow_cell (rowO.rd (hS31.own 1).1) z_S_side_n h34.1 h34.2 1 rfl, trivial⟩ ?_
    refine WL.new hS31 11 [] (fun g => (pt g)) (.cells #[(.slice none 0 0), (iv 0)] 107 (0, 0)) [] (fun fb g => by kernel_rfl) trivial (fun g35 w36 hS37 => ?_)
    refine ⟨trivial, ?_⟩
    refine WL.store hS37 0 rfl [(0, (sv (((hlN [(hd1 Ab cb), (hd1 Ad cd), (hd1 Ac cc), (hd1 Ae ce)]) x26.toNat 0).1) ((rdD [(S_side_n.mk p3.North p1), (S_side_n.mk p3.South p1), (S_side_n.mk p3.East p2), (S_side_n.mk p3.West p2)] x26 z_S_side_n).side) (((hlN [(hd1 Ab cb), (hd1 Ad cd), (hd1 Ac cc), (hd1 Ae ce)]) x26.toNat 0).2))), (1, (iv ((rdD [(S_side_n.mk p3.North p1), (S_side_n.mk p3.South p1), (S_side_n.mk p3.East p2), (S_side_n.mk p3.West p2)] x26 z_S_side_n).n)))] #[(sv (((hlN [(hd1 Ab cb), (hd1 Ad cd), (hd1 Ac cc), (hd1 Ae ce)]) x26.toNat 0).1) ((rdD [(S_side_n.mk p3.North p1), (S_side_n.mk p3.South p1), (S_side_n.mk p3.East p2), (S_side_n.mk p3.West p2)] x26 z_S_side_n).side) (((hlN [(hd1 Ab cb), (hd1 Ad cd), (hd1 Ac cc), (hd1 Ae ce)]) x26.toNat 0).2)), (iv ((rdD [(S_side_n.mk p3.North p1), (S_side_n.mk p3.South p1), (S_side_n.mk p3.East p2), (S_side_n.mk p3.West p2)] x26 z_S_side_n).n))] (fun fb => by kernel_rfl) (by kernel_rfl) rfl [1, 2] (by decide) (by decide) (fun w38 hS39 => ?_)
    refine ⟨trivial, ?_⟩
    refine WL.done rfl (WX.next (WC.seq (WC.region ?_)))
    refine seg 5 [.v (sv (((hlN [(hd1 Ab cb), (hd1 Ad cd), (hd1 Ac cc), (hd1 Ae ce)]) x26.toNat 0).1) ((rdD [(S_side_n.mk p3.North p1), (S_side_n.mk p3.South p1), (S_side_n.mk p3.East p2), (S_side_n.mk p3.West p2)] x26 z_S_side_n).side) (((hlN [(hd1 Ab cb), (hd1 Ad cd), (hd1 Ac cc), (hd1 Ae ce)]) x26.toNat 0).2))] [0, 1, 2, 7, 11, 45, 46, 47, 55] [(0, (sv Aa p0 ca)), (1, (iv p1)), (2, (iv p2)), (7, (pt g5)), (11, (pt g35)), (45, (sv (some ⟨g21, 0, none⟩) [(S_side_n.mk p3.North p1), (S_side_n.mk p3.South p1), (S_side_n.mk p3.East p2), (S_side_n.mk p3.West p2)] 4)), (46, (iv ([(S_side_n.mk p3.North p1), (S_side_n.mk p3.South p1), (S_side_n.mk p3.East p2), (S_side_n.mk p3.West p2)].length : Int))), (47, (iv x26)), (55, (bv ((((rdD [(S_side_n.mk p3.North p1), (S_side_n.mk p3.South p1), (S_side_n.mk p3.East p2), (S_side_n.mk p3.West p2)] x26 z_S_side_n).side).length : Int) != 0)))] [.cell ⟨g35, 0, none⟩ (sv (((hlN [(hd1 Ab cb), (hd1 Ad cd), (hd1 Ac cc), (hd1 Ae ce)]) x26.toNat 0).1) ((rdD [(S_side_n.mk p3.North p1), (S_side_n.mk p3.South p1), (S_side_n.mk p3.East p2), (S_side_n.mk p3.West p2)] x26 z_S_side_n).side) (((hlN [(hd1 Ab cb), (hd1 Ad cd), (hd1 Ac cc), (hd1 Ae ce)]) x26.toNat 0).2))] (fun fb => by kernel_rfl) rfl ⟨hS39.cell 0 rfl 0 rfl, trivial⟩ ?_
    refine WL.cutV (T := Bool) 12 (fun t => [(62, (bv t)), (0, (sv Aa p0 ca)), (1, (iv p1)), (2, (iv p2)), (7, (pt g5)), (45, (sv (some ⟨g21, 0, none⟩) [(S_side_n.mk p3.North p1), (S_side_n.mk p3.South p1), (S_side_n.mk p3.East p2), (S_side_n.mk p3.West p2)] 4)), (46, (iv ([(S_side_n.mk p3.North p1), (S_side_n.mk p3.South p1), (S_side_n.mk p3.East p2), (S_side_n.mk p3.West p2)].length : Int))), (47, (iv x26))]) (fun t => (((((rdD [(S_side_n.mk p3.North p1), (S_side_n.mk p3.South p1), (S_side_n.mk p3.East p2), (S_side_n.mk p3.West p2)] x26 z_S_side_n).side).length : Int) != 0) && ((((rdD [(S_side_n.mk p3.North p1), (S_side_n.mk p3.South p1), (S_side_n.mk p3.East p2), (S_side_n.mk p3.West p2)] x26 z_S_side_n).side).length : Int) != ((rdD [(S_side_n.mk p3.North p1), (S_side_n.mk p3.South p1), (S_side_n.mk p3.East p2), (S_side_n.mk p3.West p2)] x26 z_S_side_n).n))) = t) (fun K => ?_) ?_
    ·
     rcases Bool.eq_false_or_eq_true ((((rdD [(S_side_n.mk p3.North p1), (S_side_n.mk p3.South p1), (S_side_n.mk p3.East p2), (S_side_n.mk p3.West p2)] x26 z_S_side_n).side).length : Int) != 0) with h40 | h40
     ·
      refine WL.setB 55 h40 rfl ?_
      refine seg 12 [.v (sv (((hlN [(hd1 Ab cb), (hd1 Ad cd), (hd1 Ac cc), (hd1 Ae ce)]) x26.toNat 0).1) ((rdD [(S_side_n.mk p3.North p1), (S_side_n.mk p3.South p1), (S_side_n.mk p3.East p2), (S_side_n.mk p3.West p2)] x26 z_S_side_n).side) (((hlN [(hd1 Ab cb), (hd1 Ad cd), (hd1 Ac cc), (hd1 Ae ce)]) x26.toNat 0).2)), .v (iv ((rdD [(S_side_n.mk p3.North p1), (S_side_n.mk p3.South p1), (S_side_n.mk p3.East p2), (S_side_n.mk p3.West p2)] x26 z_S_side_n).n))] [0, 1, 2, 7, 45, 46, 47, 62] [(0, (sv Aa p0 ca)), (1, (iv p1)), (2, (iv p2)), (7, (pt g5)), (45, (sv (some ⟨g21, 0, none⟩) [(S_side_n.mk p3.North p1), (S_side_n.mk p3.South p1), (S_side_n.mk p3.East p2), (S_side_n.mk p3.West p2)] 4)), (46, (iv ([(S_side_n.mk p3.North p1), (S_side_n.mk p3.South p1), (S_side_n.mk p3.East p2), (S_side_n.mk p3.West p2)].length : Int))), (47, (iv x26)), (62, (bv ((((rdD [(S_side_n.mk p3.North p1), (S_side_n.mk p3.South p1), (S_side_n.mk p3.East p2), (S_side_n.mk p3.West p2)] x26 z_S_side_n).side).length : Int) != ((rdD [(S_side_n.mk p3.North p1), (S_side_n.mk p3.South p1), (S_side_n.mk p3.East p2), (S_side_n.mk p3.West p2)] x26 z_S_side_n).n))))] [.cell ⟨g35, 0, none⟩ (sv (((hlN [(hd1 Ab cb), (hd1 Ad cd), (hd1 Ac cc), (hd1 Ae ce)]) x26.toNat 0).1) ((rdD [(S_side_n.mk p3.North p1), (S_side_n.mk p3.South p1), (S_side_n.mk p3.East p2), (S_side_n.mk p3.West p2)] x26 z_S_side_n).side) (((hlN [(hd1 Ab cb), (hd1 Ad cd), (hd1 Ac cc), (hd1 Ae ce)]) x26.toNat 0).2)), .cell ⟨g35, 1, none⟩ (iv ((rdD [(S_side_n.mk p3.North p1), (S_side_n.mk p3.South p1), (S_side_n.mk p3.East p2), (S_side_n.mk p3.West p2)] x26 z_S_side_n).n))] (fun fb => by kernel_rfl) rfl ⟨hS39.cell 0 rfl 0 rfl, hS39.cell 0 rfl 1 rfl, trivial⟩ ?_
      exact WL.toV K ((((rdD [(S_side_n.mk p3.North p1), (S_side_n.mk p3.South p1), (S_side_n.mk p3.East p2), (S_side_n.mk p3.West p2)] x26 z_S_side_n).side).length : Int) != ((rdD [(S_side_n.mk p3.North p1), (S_side_n.mk p3.South p1), (S_side_n.mk p3.East p2), (S_side_n.mk p3.West p2)] x26 z_S_side_n).n)) [62, 0, 1, 2, 7, 45, 46, 47] rfl (by first | (rw [h40]; done) | (rw [h40]; rfl))
     refine WL.setB 55 h40 rfl ?_
     refine seg 12 [] [0, 1, 2, 7, 45, 46, 47, 62] [(0, (sv Aa p0 ca)), (1, (iv p1)), (2, (iv p2)), (7, (pt g5)), (45, (sv (some ⟨g21, 0, none⟩) [(S_side_n.mk p3.North p1), (S_side_n.mk p3.South p1), (S_side_n.mk p3.East p2), (S_side_n.mk p3.West p2)] 4)), (46, (iv ([(S_side_n.mk p3.North p1), (S_side_n.mk p3.South p1), (S_side_n.mk p3.East p2), (S_side_n.mk p3.West p2)].length : Int))), (47, (iv x26)), (62, (bv false))] [] (fun fb => by kernel_rfl) rfl trivial ?_
     exact WL.toV K false [62, 0, 1, 2, 7, 45, 46, 47] rfl (by first | (rw [h40]; done) | (rw [h40]; rfl))
    rintro b41 rfl
    refine WL.done rfl (WX.next ?_)
    rcases br_some hl32 with ⟨h42, hl32⟩ | ⟨h42, hl32⟩
    ·refine WC.condT2 (fun fb => by kernel_rfl) h42 ?_
     refine WC.seq (WC.region ?_)
     refine seg 2 [] [8, 9] [(8, (.pointer none)), (9, (iv 2))] [] (fun fb => by kernel_rfl) rfl trivial ?_
     refine WL.done rfl (WX.next ?_)
     refine WC.ret ?_
     injection hl32 with hl32
     subst hl32
     injection hf with hf
     subst hf
     exact WX.blockR (WX.thenR (WX.thenR (WX.blockR (WX.thenR (WX.ret_ [] (.tuple #[(.pointer none), (iv 2)]) [] (fun fb => by kernel_rfl) trivial ⟨_, rfl, 0, none, 0, h0, rfl, hS39.keep⟩)))))
    refine WC.condF2 (fun fb => by kernel_rfl) h42 ?_
    refine WC.skip ?_
    refine WX.blockN (WX.next ?_)
    refine WC.region ?_
    refine seg 2 [] [0, 1, 2, 7, 45, 46, 47] [(0, (sv Aa p0 ca)), (1, (iv p1)), (2, (iv p2)), (7, (pt g5)), (45, (sv (some ⟨g21, 0, none⟩) [(S_side_n.mk p3.North p1), (S_side_n.mk p3.South p1), (S_side_n.mk p3.East p2), (S_side_n.mk p3.West p2)] 4)), (46, (iv ([(S_side_n.mk p3.North p1), (S_side_n.mk p3.South p1), (S_side_n.mk p3.East p2), (S_side_n.mk p3.West p2)].length : Int))), (47, (iv (w64 (x26 + 1))))] [] (fun fb => by kernel_rfl) rfl trivial ?_
    refine WL.done rfl ?_
    exact WX.again k29 (Nat.lt_succ_self _) (w64 (x26 + 1)) [0, 1, 2, 7, 45, 46, 47] rfl ⟨(hS39.subR [0, 1, 2, 3, 4, 5]).sub [1, 2] (by decide), hl32⟩
   refine WC.condF2 (fun fb => by kernel_rfl) h33 ?_
   refine WC.exit ?_
   injection hl32 with hl32
   exact WX.thenX (WX.thenX (WX.blockHere (WX.to Kx27 () [0, 1, 2, 7] rfl ⟨(hS31.subR [0, 1, 2, 3, 4, 5]).sub [0] (by decide), hl32.symm⟩)))
 rintro y47 w43 ⟨hS45, hq46⟩
 subst hq46
 have hf := sum_inr hf
 refine WX.next (WC.seq (WC.seq (WC.region ?_)))
 refine seg 2 [] [0, 1, 2, 7, 64, 65] [(0, (sv Aa p0 ca)), (1, (iv p1)), (2, (iv p2)), (7, (pt g5)), (64, (sv Aa p0 ca)), (65, (iv p1))] [] (fun fb => by kernel_rfl) rfl trivial ?_
 obtain ⟨t48, ht49, hf⟩ := bind_some hf
 refine WL.call (some 66) 23 #[(sv Aa p0 ca), (iv p1)] (fun fb => by kernel_rfl) (rows_Few_calls _ p0 p1 Aa ca t48 _ (hS45.rd 1) ht49) (fun v w50 hR51 => ?_)
 obtain ⟨rfl, hk_⟩ := hR51
 have hS52 := hS45.keepN hk_
 refine ⟨trivial, ?_⟩
 refine seg 4 [] [0, 1, 2, 7, 67] [(0, (sv Aa p0 ca)), (1, (iv p1)), (2, (iv p2)), (7, (pt g5)), (67, (bv (!t48)))] [] (fun fb => by kernel_rfl) rfl trivial ?_
 refine WL.done rfl (WX.next ?_)
 rcases br_some hf with ⟨h53, hf⟩ | ⟨h53, hf⟩
 ·refine WC.condT2 (fun fb => by kernel_rfl) h53 ?_
  refine WC.seq (WC.region ?_)
  refine seg 2 [] [8, 9] [(8, (.pointer none)), (9, (iv 4))] [] (fun fb => by kernel_rfl) rfl trivial ?_
  refine WL.done rfl (WX.next ?_)
  refine WC.ret ?_
  injection hf with hf
  subst hf
  exact WX.thenR (WX.ret_ [] (.tuple #[(.pointer none), (iv 4)]) [] (fun fb => by kernel_rfl) trivial ⟨_, rfl, 0, none, 0, h0, rfl, hS52.keep⟩)
 refine WC.condF2 (fun fb => by kernel_rfl) h53 ?_
 refine WC.skip (WX.next (WC.seq ?_))
 refine WC.regionD ([(5, ⟨g5, 0, none⟩, (sv Ab p3.North cb)), (5, ⟨g5, 1, none⟩, (sv Ac p3.East cc)), (5, ⟨g5, 2, none⟩, (sv Ad p3.South cd)), (5, ⟨g5, 3, none⟩, (sv Ae p3.West ce))], [0, 1, 3, 4, 5, 6, 8, 9], [[], [], [0, 1], [], [], [], [0, 1, 2, 3, 4, 5], [0, 1, 2, 3, 4, 5, 6], [0, 1, 2, 3, 4, 5, 6, 7], [0, 1, 2, 3, 4, 5, 6, 7, 8]]) [[0, 1, 3, 4, 5, 2, 6, 7, 8, 9]] (by kernel_rfl) (by kernel_rfl) (NoPanic.seq (NoPanic.body)) ?_
 have hS55 := hS52.drew
 revert hS55
 generalize World.drew w50 = w54
 intro hS55
 refine ⟨⟨hS55.cell 0 rfl 0 rfl, hS55.cell 0 rfl 1 rfl, hS55.cell 0 rfl 2 rfl, hS55.cell 0 rfl 3 rfl, trivial⟩, forallC ?_ (forallN)⟩
 refine segF 5 [.v (sv Ab p3.North cb), .v (sv Ac p3.East cc), .v (sv Ad p3.South cd), .v (sv Ae p3.West ce)] [68, 69, 71, 72, 73] [(68, (sv Aa p0 ca)), (69, (iv p1)), (71, (iv p1)), (72, (iv p2)), (73, (.agg #[(sv Ab p3.North cb), (sv Ac p3.East cc), (sv Ad p3.South cd), (sv Ae p3.West ce)]))] [] [0, 1, 2, 3] [(5, ⟨g5, 0, none⟩, (sv Ab p3.North cb)), (5, ⟨g5, 1, none⟩, (sv Ac p3.East cc)), (5, ⟨g5, 2, none⟩, (sv Ad p3.South cd)), (5, ⟨g5, 3, none⟩, (sv Ae p3.West ce))] (fun fb => by kernel_rfl) rfl trivial rfl ?_
 obtain ⟨t56, ht57, hf⟩ := bind_some hf
 refine WL.call (some 70) 48 #[(sv Aa p0 ca), (iv p1)] (fun fb => by kernel_rfl) (rows_All_calls _ p0 p1 Aa ca t56 _ (hS55.rd 1) ht57) (fun v w58 hR59 => ?_)
 obtain ⟨A61, c62, H63, rfl, hk_⟩ := hR59
 have hS60 := hS24.go w58 [rowO 74 encN_Row A61 c62 (tag H63 t56), poolO [nestO subN_Row H63 t56], blk g5 (.cells #[(.slice Ab p3.North.length cb), (.slice Ac p3.East.length cc), (.slice Ad p3.South.length cd), (.slice Ae p3.West.length ce)] 63 (0, 0))] (hS55.call hk_ [] [0] (fun g hg => hg.elim) (by simp) (by decide))
 refine ⟨⟨hS60.cell 2 rfl 0 rfl, hS60.cell 2 rfl 1 rfl, hS60.cell 2 rfl 2 rfl, hS60.cell 2 rfl 3 rfl, trivial⟩, ?_⟩
 refine seg 7 [] [74] [(74, (.agg #[(sv A61 t56 c62), (iv p1), (iv p2), (sv Ab p3.North cb), (sv Ac p3.East cc), (sv Ad p3.South cd), (sv Ae p3.West ce)]))] [] (fun fb => by kernel_rfl) rfl trivial ?_
 refine WL.new hS60 75 [] (fun g => (pt g)) (.cells #[(sv A61 t56 c62), (iv p1), (iv p2), (sv Ab p3.North cb), (sv Ac p3.East cc), (sv Ad p3.South cd), (sv Ae p3.West ce)] 88 (0, 0)) [] (fun fb g => by kernel_rfl) trivial (fun g65 w66 hS67 => ?_)
 refine ⟨trivial, ?_⟩
 refine seg 10 [] [8, 9] [(8, (pt g65)), (9, (iv 0))] [] (fun fb => by kernel_rfl) rfl trivial ?_
 refine WL.done rfl (WX.next ?_)
 refine WC.ret ?_
 injection hf with hf
 subst hf
 exact WX.ret_ [] (.tuple #[(pt g65), (iv 0)]) [] (fun fb => by kernel_rfl) trivial ⟨_, rfl, g65, A61, c62, H63, rfl, (hS67.sub [0, 1, 2] (by decide)).noR⟩
theorem fill_at_calls (p0 : List Int) (p1 : Int) (p2 : Int) (Aa : Option Addr) (ca : Nat) (r : Bool) (w : World) (hR0 : RO NoS w (rowR encInt Aa ca p0)) (hf : fill_at p0 p1 p2 = some r) :
  CallsR Tryd.prog 62 #[(sv Aa p0 ca), (iv p1), (iv p2)] w (fun v w' => v = (bv r) ∧ Keeps NoS w w') := by
 have hS : St NoS w w [rowR encInt Aa ca p0] [] := St.init (ro_cons hR0 (ro_nil _ _))
 refine enter 18 Tryd.func62 rfl Tryd.ntmps62 rfl ?_
 unfold fill_at at hf
 refine WC.seq (WC.region ?_)
 refine seg 1 [] [0, 1, 2] [(0, (sv Aa p0 ca)), (1, (iv p1)), (2, (iv p2))] [] (fun fb => by kernel_rfl) rfl trivial ?_
 refine WL.done rfl (WX.next (WC.seq (WC.region ?_)))
 refine seg 4 [] [0, 1, 2, 10] [(0, (sv Aa p0 ca)), (1, (iv p1)), (2, (iv p2)), (10, (bv ((p0.length : Int) == 0)))] [] (fun fb => by kernel_rfl) rfl trivial ?_
 obtain ⟨b3, hv4, hf⟩ := bind_some hf
 refine WL.cutV (T := Unit) 11 (fun t => [(17, (bv b3))]) (fun t => True) (fun K => ?_) ?_
 ·
  rcases br_some hv4 with ⟨h5, hv4⟩ | ⟨h5, hv4⟩
  ·
   refine WL.setB 10 h5 rfl ?_
   refine seg 11 [] [17] [(17, (bv true))] [] (fun fb => by kernel_rfl) rfl trivial ?_
   injection hv4 with hv4
   subst hv4
   exact WL.toV K () [17] rfl trivial
  refine WL.setB 10 h5 rfl ?_
  refine seg 6 [] [2, 10, 11, 12] [(2, (iv p2)), (10, (bv false)), (11, (sv Aa p0 ca)), (12, (iv p1))] [] (fun fb => by kernel_rfl) rfl trivial ?_
  obtain ⟨h6, hv4⟩ := as_some hv4
  refine seg 11 [.v (iv (rdD p0 p1 0))] [17] [(17, (bv ((rdD p0 p1 0) == p2)))] [.idx Aa p1 p0.length, .cell ((adr Aa).add ((p1).toNat * 1)) (iv (rdD p0 p1 0))] (fun fb => by kernel_rfl) rfl ⟨rowR.adr (hS.rd 0).1 h6.1 h6.2, rowR.cell (hS.rd 0).1 0 h6.1 h6.2 0 rfl, trivial⟩ ?_
  injection hv4 with hv4
  subst hv4
  exact WL.toV K () [17] rfl trivial
 rintro _ _
 refine seg 12 [] [6] [(6, (bv b3))] [] (fun fb => by kernel_rfl) rfl trivial ?_
 refine WL.done rfl (WX.next ?_)
 refine WC.ret ?_
 injection hf with hf
 subst hf
 exact WX.ret_ [] (bv b3) [] (fun fb => by kernel_rfl) trivial ⟨_, rfl, rfl, hS.keep⟩
theorem fill_job_allows_calls (k : Nat) (p0 : Job) (p1 : Row) (p2 : Int) (ga : Nat) (Aa : Option Addr) (ca : Nat) (Ha : Nat → HF) (Ab : Option Addr) (cb : Nat) (Ac : Option Addr) (cc : Nat) (Ad : Option Addr) (cd : Nat) (Ae : Option Addr) (ce : Nat) (Af : Option Addr) (cf : Nat) (r : Bool) (w : World) (hR0 : RO NoS w (blk ga (.cells #[(sv Aa p0.rows ca), (iv p0.width), (iv p0.height), (sv Ab p0.edges.North cb), (sv Ac p0.edges.East cc), (sv Ad p0.edges.South cd), (sv Ae p0.edges.West ce)] 88 (0, 0)))) (hR1 : RO NoS w (rowR encN_Row Aa ca (tag Ha p0.rows))) (hR2 : RO NoS w (nestO subN_Row Ha p0.rows)) (hR3 : RO NoS w (rowR encInt Ab cb p0.edges.North)) (hR4 : RO NoS w (rowR encInt Ac cc p0.edges.East)) (hR5 : RO NoS w (rowR encInt Ad cd p0.edges.South)) (hR6 : RO NoS w (rowR encInt Ae ce p0.edges.West)) (hR7 : RO NoS w (rowR encInt Af cf p1.Cells)) (hf : fill_job_allows k p0 p1 p2 = some r) :
  CallsR Tryd.prog 45 #[(pt ga), (.agg #[(sv Af p1.Cells cf), (iv p1.South.e0), (iv p1.South.e1), (iv p1.South.e2), (iv p1.South.e3), (iv p1.South.e4), (iv p1.South.e5), (iv p1.South.e6), (iv p1.South.e7), (iv p1.North.e0), (iv p1.North.e1), (iv p1.North.e2), (iv p1.North.e3), (iv p1.North.e4), (iv p1.North.e5), (iv p1.North.e6), (iv p1.North.e7), (iv p1.West), (iv p1.East)]), (iv p2)] w (fun v w' => v = (bv r) ∧ Keeps NoS w w') := by
 have hS : St NoS w w [blk ga (.cells #[(sv Aa p0.rows ca), (iv p0.width), (iv p0.height), (sv Ab p0.edges.North cb), (sv Ac p0.edges.East cc), (sv Ad p0.edges.South cd), (sv Ae p0.edges.West ce)] 88 (0, 0)), rowR encN_Row Aa ca (tag Ha p0.rows), nestO subN_Row Ha p0.rows, rowR encInt Ab cb p0.edges.North, rowR encInt Ac cc p0.edges.East, rowR encInt Ad cd p0.edges.South, rowR encInt Ae ce p0.edges.West, rowR encInt Af cf p1.Cells] [] := St.init (ro_cons hR0 (ro_cons hR1 (ro_cons hR2 (ro_cons hR3 (ro_cons hR4 (ro_cons hR5 (ro_cons hR6 (ro_cons hR7 (ro_nil _ _)))))))))
 refine enter 77 Tryd.func45 rfl Tryd.ntmps45 rfl ?_
 unfold fill_job_allows at hf
 refine WC.seq (WC.region ?_)
 refine WL.new hS 4 [] (fun g => (pt g)) (.cells #[(sv Af p1.Cells cf), (iv p1.South.e0), (iv p1.South.e1), (iv p1.South.e2), (iv p1.South.e3), (iv p1.South.e4), (iv p1.South.e5), (iv p1.South.e6), (iv p1.South.e7), (iv p1.North.e0), (iv p1.North.e1), (iv p1.North.e2), (iv p1.North.e3), (iv p1.North.e4), (iv p1.North.e5), (iv p1.North.e6), (iv p1.North.e7), (iv p1.West), (iv p1.East)] 74 (0, 0)) [] (fun fb g => by kernel_rfl) trivial (fun g9 w10 hS11 => ?_)
 refine ⟨trivial, ?_⟩
 refine seg 2 [] [0, 2, 4] [(0, (pt ga)), (2, (iv p2)), (4, (pt g9))] [] (fun fb => by kernel_rfl) rfl trivial ?_
 refine WL.done rfl (WX.next (WC.seq (WC.seq ?_)))
 refine WC.regionD ([(4, ⟨ga, 6, none⟩, (sv Ae p0.edges.West ce)), (7, ⟨g9, 17, none⟩, (iv p1.West)), (18, ⟨g9, 18, none⟩, (iv p1.East))], [0, 1, 2, 3, 4, 5, 6, 7, 9, 10, 11, 12, 13, 14, 16, 17, 18, 20, 21], [[], [0], [0, 1], [0, 1, 2], [0, 1, 2, 3], [], [], [6], [0, 1, 2, 3, 4, 5, 6, 7], [0, 1, 2, 3, 4, 5, 6, 7, 8], [0, 1, 2, 3, 4, 5, 6, 7, 8, 9], [0, 1, 2, 3, 4, 5, 6, 7, 8, 9, 10], [0, 1, 2, 3, 4, 5, 6, 7, 8, 9, 10, 11], [0, 1, 2, 3, 4, 5, 6, 7, 8, 9, 10, 11, 12], [0, 1, 2, 3, 4, 5, 6, 7, 8, 9, 10, 11, 12, 13], [0, 1, 2, 3, 4, 5, 6, 7, 8, 9, 10, 11, 12, 13, 14], [0, 1, 2, 3, 4, 5, 6, 7, 8, 9, 10], [0, 1, 2, 3, 4, 5, 6, 7, 8, 9, 10], [0, 1, 2, 3, 4, 5, 6, 7, 8, 9, 10, 17], [0, 1, 2, 3, 4, 5, 6, 7, 8, 9, 10, 11, 12, 13, 14, 15, 16, 17, 18], [0, 1, 2, 3, 4, 5, 6, 7, 8, 9, 10, 11, 12, 13, 14, 15, 16, 17, 18, 19], [0, 1, 2, 3, 4, 5, 6, 7, 8, 9, 10, 11, 12, 13, 14, 15, 16, 17, 18, 19, 20]]) [[0, 1, 2, 3, 4, 5, 6, 7, 8, 9, 10, 11, 12, 13, 14, 16, 17, 18, 15, 19, 20, 21]] (by kernel_rfl) (by kernel_rfl) (NoPanic.seq (NoPanic.seq (NoPanic.body))) ?_
 have hS13 := hS11.drew
 revert hS13
 generalize World.drew w10 = w12
 intro hS13
 refine ⟨⟨blk_cell (hS13.rd 0).1 6 rfl, hS13.cell 0 rfl 17 rfl, hS13.cell 0 rfl 18 rfl, trivial⟩, forallC ?_ (forallN)⟩
 refine segF 8 [.v (sv Ae p0.edges.West ce), .v (iv p1.West)] [0, 2, 4, 12, 13, 15] [(0, (pt ga)), (2, (iv p2)), (4, (pt g9)), (12, (sv Ae p0.edges.West ce)), (13, (iv p2)), (15, (iv p1.West))] [] [0, 1] [(4, ⟨ga, 6, none⟩, (sv Ae p0.edges.West ce)), (7, ⟨g9, 17, none⟩, (iv p1.West))] (fun fb => by kernel_rfl) rfl trivial rfl ?_
 obtain ⟨t14, ht15, hf⟩ := bind_some hf
 refine WL.call (some 16) 62 #[(sv Ae p0.edges.West ce), (iv p2), (iv p1.West)] (fun fb => by kernel_rfl) (fill_at_calls p0.edges.West p2 p1.West Ae ce t14 _ (hS13.rd 6) ht15) (fun v w16 hR17 => ?_)
 obtain ⟨rfl, hk_⟩ := hR17
 have hS18 := hS13.keepN hk_
 refine ⟨⟨hS18.cell 0 rfl 18 rfl, trivial⟩, ?_⟩
 refine seg 11 [] [0, 2, 4, 18] [(0, (pt ga)), (2, (iv p2)), (4, (pt g9)), (18, (bv (!t14)))] [] (fun fb => by kernel_rfl) rfl trivial ?_
 obtain ⟨x19, hx20, hf⟩ := bind_some hf
 refine WL.cutW (T := Bool) 22 (fun t => [(0, (pt ga)), (2, (iv p2)), (4, (pt g9)), (29, (bv t))]) (fun t w1 => (St NoS w w1 [blk ga (.cells #[(sv Aa p0.rows ca), (iv p0.width), (iv p0.height), (sv Ab p0.edges.North cb), (sv Ac p0.edges.East cc), (sv Ad p0.edges.South cd), (sv Ae p0.edges.West ce)] 88 (0, 0)), rowR encN_Row Aa ca (tag Ha p0.rows), nestO subN_Row Ha p0.rows, rowR encInt Ab cb p0.edges.North, rowR encInt Ac cc p0.edges.East, rowR encInt Ad cd p0.edges.South, rowR encInt Ae ce p0.edges.West, rowR encInt Af cf p1.Cells] [blk g9 (.cells #[(sv Af p1.Cells cf), (iv p1.South.e0), (iv p1.South.e1), (iv p1.South.e2), (iv p1.South.e3), (iv p1.South.e4), (iv p1.South.e5), (iv p1.South.e6), (iv p1.South.e7), (iv p1.North.e0), (iv p1.North.e1), (iv p1.North.e2), (iv p1.North.e3), (iv p1.North.e4), (iv p1.North.e5), (iv p1.North.e6), (iv p1.North.e7), (iv p1.West), (iv p1.East)] 74 (0, 0))] ∧ x19 = t) ∧ CellsOK [] w1) (fun K => ?_) ?_
 ·
  rcases br_some hx20 with ⟨h21, hx20⟩ | ⟨h21, hx20⟩
  ·
   refine WL.setB 18 h21 rfl ?_
   refine seg 22 [] [0, 2, 4, 29] [(0, (pt ga)), (2, (iv p2)), (4, (pt g9)), (29, (bv true))] [] (fun fb => by kernel_rfl) rfl trivial ?_
   injection hx20 with hx20
   exact WL.to K true [0, 2, 4, 29] rfl ⟨⟨(hS18.subR [0, 1, 2, 3, 4, 5, 6, 7]).sub [0] (by decide), hx20.symm⟩, trivial⟩
  refine WL.setB 18 h21 rfl ?_
  refine segF 19 [.v (iv p1.East), .v (sv Ac p0.edges.East cc)] [0, 2, 4, 18, 23, 24, 26] [(0, (pt ga)), (2, (iv p2)), (4, (pt g9)), (18, (bv false)), (23, (sv Ac p0.edges.East cc)), (24, (iv p2)), (26, (iv p1.East))] [.cell ⟨ga, 4, none⟩ (sv Ac p0.edges.East cc)] [2] [(18, ⟨g9, 18, none⟩, (iv p1.East))] (fun fb => by kernel_rfl) rfl ⟨blk_cell (hS18.rd 0).1 4 rfl, trivial⟩ rfl ?_
  obtain ⟨t22, ht23, hx20⟩ := bind_some hx20
  refine WL.call (some 27) 62 #[(sv Ac p0.edges.East cc), (iv p2), (iv p1.East)] (fun fb => by kernel_rfl) (fill_at_calls p0.edges.East p2 p1.East Ac cc t22 _ (hS18.rd 4) ht23) (fun v w24 hR25 => ?_)
  obtain ⟨rfl, hk_⟩ := hR25
  have hS26 := hS18.keepN hk_
  refine ⟨trivial, ?_⟩
  refine seg 22 [] [0, 2, 4, 29] [(0, (pt ga)), (2, (iv p2)), (4, (pt g9)), (29, (bv (!t22)))] [] (fun fb => by kernel_rfl) rfl trivial ?_
  injection hx20 with hx20
  exact WL.to K (!t22) [0, 2, 4, 29] rfl ⟨⟨(hS26.subR [0, 1, 2, 3, 4, 5, 6, 7]).sub [0] (by decide), hx20.symm⟩, trivial⟩
 rintro y27 w29 ⟨⟨hS30, hq28⟩, hF31⟩
 subst hq28
 refine WL.done rfl (WX.next ?_)
 rcases br_some hf with ⟨h32, hf⟩ | ⟨h32, hf⟩
 ·refine WC.condT2 (fun fb => by kernel_rfl) h32 ?_
  refine WC.seq (WC.region ?_)
  refine seg 1 [] [6] [(6, (bv false))] [] (fun fb => by kernel_rfl) rfl trivial ?_
  refine WL.done rfl (WX.next ?_)
  refine WC.ret ?_
  injection hf with hf
  subst hf
  exact WX.thenR (WX.ret_ [] (bv false) [] (fun fb => by kernel_rfl) trivial ⟨_, rfl, rfl, hS30.keep⟩)
 refine WC.condF2 (fun fb => by kernel_rfl) h32 ?_
 refine WC.skip (WX.next (WC.seq (WC.seq (WC.region ?_))))
 refine seg 5 [.v (iv p0.width)] [0, 2, 4, 33, 34] [(0, (pt ga)), (2, (iv p2)), (4, (pt g9)), (33, (iv p0.width)), (34, (iv 0))] [.cell ⟨ga, 1, none⟩ (iv p0.width)] (fun fb => by kernel_rfl) rfl ⟨blk_cell (hS30.rd 0).1 1 rfl, trivial⟩ ?_
 refine WL.done rfl (WX.next ?_)
 obtain ⟨x34, hx35, hf⟩ := bind_some hf
 refine WC.cutN (T := Unit) (fun t => []) (fun t w1 => St NoS w w1 [blk ga (.cells #[(sv Aa p0.rows ca), (iv p0.width), (iv p0.height), (sv Ab p0.edges.North cb), (sv Ac p0.edges.East cc), (sv Ad p0.edges.South cd), (sv Ae p0.edges.West ce)] 88 (0, 0)), rowR encN_Row Aa ca (tag Ha p0.rows), nestO subN_Row Ha p0.rows, rowR encInt Ab cb p0.edges.North, rowR encInt Ac cc p0.edges.East, rowR encInt Ad cd p0.edges.South, rowR encInt Ae ce p0.edges.West, rowR encInt Af cf p1.Cells] [] ∧ x34 = .inr t) (fun Kx34 => ?_) ?_
 ·
  refine WC.block ?_
  refine WC.loop (T := Int) (fun t => [(0, (pt ga)), (2, (iv p2)), (4, (pt g9)), (33, (iv p0.width)), (34, (iv t))]) (fun n t w1 => St NoS w w1 [blk ga (.cells #[(sv Aa p0.rows ca), (iv p0.width), (iv p0.height), (sv Ab p0.edges.North cb), (sv Ac p0.edges.East cc), (sv Ad p0.edges.South cd), (sv Ae p0.edges.West ce)] 88 (0, 0)), rowR encN_Row Aa ca (tag Ha p0.rows), nestO subN_Row Ha p0.rows, rowR encInt Ab cb p0.edges.North, rowR encInt Ac cc p0.edges.East, rowR encInt Ad cd p0.edges.South, rowR encInt Ae ce p0.edges.West, rowR encInt Af cf p1.Cells] [blk g9 (.cells #[(sv Af p1.Cells cf), (iv p1.South.e0), (iv p1.South.e1), (iv p1.South.e2), (iv p1.South.e3), (iv p1.South.e4), (iv p1.South.e5), (iv p1.South.e6), (iv p1.South.e7), (iv p1.North.e0), (iv p1.North.e1), (iv p1.North.e2), (iv p1.North.e3), (iv p1.North.e4), (iv p1.North.e5), (iv p1.North.e6), (iv p1.North.e7), (iv p1.West), (iv p1.East)] 74 (0, 0))] ∧ fill_job_allows.l0 n t p0 p1 p2 = some x34) k 0 [0, 2, 4, 33, 34] rfl ⟨(hS30.subR [0, 1, 2, 3, 4, 5, 6, 7]).sub [0] (by decide), hx35⟩ ?_
  rintro k36 x33 w37 ⟨hS38, hl39⟩
  cases k36 with
  | zero => rw [fill_job_allows.l0] at hl39; cases hl39
  | succ k36 =>
   rw [fill_job_allows.l0] at hl39
   refine WC.seq (WC.region ?_)
   refine seg 1 [] [0, 2, 4, 33, 34, 35] [(0, (pt ga)), (2, (iv p2)), (4, (pt g9)), (33, (iv p0.width)), (34, (iv x33)), (35, (bv (decide (x33 < p0.width))))] [] (fun fb => by kernel_rfl) rfl trivial ?_
   refine WL.done rfl (WX.next (WC.seq ?_))
   rcases br_some hl39 with ⟨h40, hl39⟩ | ⟨h40, hl39⟩
   ·refine WC.condT2 (fun fb => by kernel_rfl) h40 ?_
    refine WC.skip (WX.next (WC.seq (WC.block (WC.seq (WC.region ?_)))))
    refine seg 2 [] [0, 2, 4, 7, 33, 34] [(0, (pt ga)), (2, (iv p2)), (4, (pt g9)), (7, (iv x33)), (33, (iv p0.width)), (34, (iv x33))] [] (fun fb => by kernel_rfl) rfl trivial ?_
    refine WL.done rfl (WX.next (WC.seq ?_))
    obtain ⟨x41, hx42, hl39⟩ := bind_some hl39
    refine WC.cutN (T := Bool) (fun t => [(0, (pt ga)), (2, (iv p2)), (4, (pt g9)), (33, (iv p0.width)), (34, (iv x33)), (75, (bv t))]) (fun t w1 => St NoS w w1 [blk ga (.cells #[(sv Aa p0.rows ca), (iv p0.width), (iv p0.height), (sv Ab p0.edges.North cb), (sv Ac p0.edges.East cc), (sv Ad p0.edges.South cd), (sv Ae p0.edges.West ce)] 88 (0, 0)), rowR encN_Row Aa ca (tag Ha p0.rows), nestO subN_Row Ha p0.rows, rowR encInt Ab cb p0.edges.North, rowR encInt Ac cc p0.edges.East, rowR encInt Ad cd p0.edges.South, rowR encInt Ae ce p0.edges.West, rowR encInt Af cf p1.Cells] [blk g9 (.cells #[(sv Af p1.Cells cf), (iv p1.South.e0), (iv p1.South.e1), (iv p1.South.e2), (iv p1.South.e3), (iv p1.South.e4), (iv p1.South.e5), (iv p1.South.e6), (iv p1.South.e7), (iv p1.North.e0), (iv p1.North.e1), (iv p1.North.e2), (iv p1.North.e3), (iv p1.North.e4), (iv p1.North.e5), (iv p1.North.e6), (iv p1.North.e7), (iv p1.West), (iv p1.East)] 74 (0, 0))] ∧ x41 = t) (fun Kx41 => ?_) ?_
    ·
     rcases br_some hx42 with ⟨h43, hx42⟩ | ⟨h43, hx42⟩
     ·
      rcases br_some hx42 with ⟨h44, hx42⟩ | ⟨h44, hx42⟩
      ·
       obtain ⟨h48, hx42⟩ := as_some hx42
       refine WC.regionD ([(7, ⟨ga, 5, none⟩, (sv Ad p0.edges.South cd)), (12, (flatA ⟨g9, 1, none⟩ (x33.toNat * 1)), (iv (A8_Int.get p1.South x33)))], [0, 1, 2, 3, 4, 5, 6, 7, 8, 9, 10, 11, 12, 14, 15, 16, 17, 18, 19, 20, 22, 23, 24, 25, 26, 27, 28, 30, 31, 32, 33, 36, 37, 38], [[], [0], [0, 1], [0, 1, 2], [0, 1, 2, 3], [0, 1, 2, 3, 4], [0, 1, 2, 3, 4, 5], [0, 1, 2, 3, 4, 5, 6], [0, 1, 2], [0, 1, 2], [0, 1, 2], [0, 1, 2, 9, 10], [0, 1, 2, 9, 10, 11], [0, 1, 2, 3, 4, 5, 6, 7, 8, 9, 10, 11, 12], [0, 1, 2, 3, 4, 5, 6, 7, 8, 9, 10, 11, 12, 13], [0, 1, 2, 3, 4, 5, 6, 7, 8, 9, 10, 11, 12, 13, 14], [0, 1, 2, 3, 4, 5, 6, 7, 8, 9, 10, 11, 12, 13, 14, 15], [0, 1, 2, 3, 4, 5, 6, 7, 8, 9, 10, 11, 12, 13, 14, 15, 16], [0, 1, 2, 3, 4, 5, 6, 7, 8, 9, 10, 11, 12, 13, 14, 15, 16], [0, 1, 2, 3, 4, 5, 6, 7, 8, 9, 10, 11, 12, 13, 14, 15, 16, 18], [0, 1, 2, 3, 4, 5, 6, 7, 8, 9, 10, 11, 12, 13, 14, 15, 16, 18, 19], [0, 1, 2, 3, 4, 5, 6, 7, 8, 9, 10, 11, 12, 13, 14, 15, 16, 18, 19, 20], [0, 1, 2, 3, 4, 5, 6, 7, 8, 9, 10, 11, 12, 13, 14, 15, 16, 18, 19, 20, 21], [0, 1, 2, 3, 4, 5, 6, 7, 8, 9, 10, 11, 12, 13, 14, 15, 16, 17, 18, 19, 20, 21, 22], [0, 1, 2, 3, 4, 5, 6, 7, 8, 9, 10, 11, 12, 13, 14, 15, 16, 17, 18, 19, 20, 21, 22, 23], [0, 1, 2, 3, 4, 5, 6, 7, 8, 9, 10, 11, 12, 13, 14, 15, 16, 17, 18, 19, 20, 21, 22, 23, 24], [0, 1, 2, 3, 4, 5, 6, 7, 8, 9, 10, 11, 12, 13, 14, 15, 16, 17, 18, 19, 20, 21, 22, 23, 24, 25], [0, 1, 2, 3, 4, 5, 6, 7, 8, 9, 10, 11, 12, 13, 14, 15, 16, 17, 18, 19, 20, 21, 22, 23, 24, 25, 26], [0, 1, 2, 3, 4, 5, 6, 7, 8, 9, 10, 11, 12, 13, 14, 15, 16, 17, 18, 19, 20, 21, 22, 23, 24, 25, 26, 27], [0, 1, 2, 3, 4, 5, 6, 7, 8, 9, 10, 11, 12, 13, 14, 15, 16, 17, 18, 19, 20, 21, 22, 23, 24, 25, 26, 27, 28], [0, 1, 2, 3, 4, 5, 6, 7, 8, 9, 10, 11, 12, 13, 14, 15, 16, 17, 18, 19, 20, 21, 22, 23, 24], [0, 1, 2, 3, 4, 5, 6, 7, 8, 9, 10, 11, 12, 13, 14, 15, 16, 17, 18, 19, 20, 21, 22, 23, 24], [0, 1, 2, 3, 4, 5, 6, 7, 8, 9, 10, 11, 12, 13, 14, 15, 16, 17, 18, 19, 20, 21, 22, 23, 24], [0, 1, 2, 3, 4, 5, 6, 7, 8, 9, 10, 11, 12, 13, 14, 15, 16, 17, 18, 19, 20, 21, 22, 23, 24, 31, 32], [0, 1, 2, 3, 4, 5, 6, 7, 8, 9, 10, 11, 12, 13, 14, 15, 16, 17, 18, 19, 20, 21, 22, 23, 24, 31, 32, 33], [0, 1, 2, 3, 4, 5, 6, 7, 8, 9, 10, 11, 12, 13, 14, 15, 16, 17, 18, 19, 20, 21, 22, 23, 24, 25, 26, 27, 28, 29, 30, 31, 32, 33, 34], [0, 1, 2, 3, 4, 5, 6, 7, 8, 9, 10, 11, 12, 13, 14, 15, 16, 17, 18, 19, 20, 21, 22, 23, 24, 25, 26, 27, 28, 29, 30, 31, 32, 33, 34, 35], [0, 1, 2, 3, 4, 5, 6, 7, 8, 9, 10, 11, 12, 13, 14, 15, 16, 17, 18, 19, 20, 21, 22, 23, 24, 25, 26, 27, 28, 29, 30, 31, 32, 33, 34, 35, 36], [0, 1, 2, 3, 4, 5, 6, 7, 8, 9, 10, 11, 12, 13, 14, 15, 16, 17, 18, 19, 20, 21, 22, 23, 24, 25, 26, 27, 28, 29, 30, 31, 32, 33, 34, 35, 36, 37]]) [[0, 1, 2, 3, 4, 5, 6, 7, 8, 9, 10, 11, 12, 13, 14, 15, 16, 17, 18, 19, 20, 21, 22, 23, 24, 25, 26, 27, 28, 30, 31, 32, 33, 29, 34, 35, 36, 37, 38], [0, 1, 2, 3, 4, 5, 6, 7, 8, 9, 10, 11, 12, 13, 14, 15, 16, 17, 18, 19, 20, 21, 22, 23, 24, 25, 26, 27, 28, 30, 31, 32, 33, 34, 29, 35, 36, 37, 38]] (by kernel_rfl) (by kernel_rfl) (NoPanic.seq (NoPanic.block (NoPanic.seq (NoPanic.seq (NoPanic.block (NoPanic.seq (NoPanic.body))))))) ?_
       have hS47 := hS38.drew
       revert hS47
       generalize World.drew w37 = w46
       intro hS47
       refine ⟨⟨blk_cell (hS47.rd 0).1 5 rfl, hS47.cell 0 rfl _ (cases8 (Q := fun z_ => (#[(sv Af p1.Cells cf), (iv p1.South.e0), (iv p1.South.e1), (iv p1.South.e2), (iv p1.South.e3), (iv p1.South.e4), (iv p1.South.e5), (iv p1.South.e6), (iv p1.South.e7), (iv p1.North.e0), (iv p1.North.e1), (iv p1.North.e2), (iv p1.North.e3), (iv p1.North.e4), (iv p1.North.e5), (iv p1.North.e6), (iv p1.North.e7), (iv p1.West), (iv p1.East)] : Array Value)[1 + z_.toNat * 1]? = some (iv (A8_Int.get p1.South z_))) h48 (by kernel_rfl) (by kernel_rfl) (by kernel_rfl) (by kernel_rfl) (by kernel_rfl) (by kernel_rfl) (by kernel_rfl) (by kernel_rfl)), trivial⟩, forallC ?_ (forallC ?_ (forallN))⟩
       ·
        refine seg 3 [] [0, 2, 4, 7, 33, 34, 39] [(0, (pt ga)), (2, (iv p2)), (4, (pt g9)), (7, (iv x33)), (33, (iv p0.width)), (34, (iv x33)), (39, (bv (p2 == 0)))] [] (fun fb => by kernel_rfl) rfl trivial ?_
        refine WL.setB 39 h43 rfl ?_
        refine segF 13 [.v (sv Ad p0.edges.South cd), .v (iv (A8_Int.get p1.South x33))] [0, 2, 4, 7, 33, 34, 39, 44, 45, 49] [(0, (pt ga)), (2, (iv p2)), (4, (pt g9)), (7, (iv x33)), (33, (iv p0.width)), (34, (iv x33)), (39, (bv true)), (44, (sv Ad p0.edges.South cd)), (45, (iv x33)), (49, (iv (A8_Int.get p1.South x33)))] [.idx (some ⟨0, 0, none⟩) x33 8] [0, 1] [(7, ⟨ga, 5, none⟩, (sv Ad p0.edges.South cd)), (12, (flatA ⟨g9, 1, none⟩ (x33.toNat * 1)), (iv (A8_Int.get p1.South x33)))] (fun fb => by kernel_rfl) rfl ⟨⟨h48.1, h48.2, rfl⟩, trivial⟩ rfl ?_
        obtain ⟨t49, ht50, hx42⟩ := bind_some hx42
        refine WL.call (some 50) 62 #[(sv Ad p0.edges.South cd), (iv x33), (iv (A8_Int.get p1.South x33))] (fun fb => by kernel_rfl) (fill_at_calls p0.edges.South x33 (A8_Int.get p1.South x33) Ad cd t49 _ (hS47.rd 5) ht50) (fun v w51 hR52 => ?_)
        obtain ⟨rfl, hk_⟩ := hR52
        have hS53 := hS47.keepN hk_
        refine ⟨trivial, ?_⟩
        refine seg 17 [] [0, 2, 4, 7, 33, 34, 53] [(0, (pt ga)), (2, (iv p2)), (4, (pt g9)), (7, (iv x33)), (33, (iv p0.width)), (34, (iv x33)), (53, (bv (!t49)))] [] (fun fb => by kernel_rfl) rfl trivial ?_
        obtain ⟨x54, hx55, hx42⟩ := bind_some hx42
        refine WL.cutW (T := Bool) 39 (fun t => [(0, (pt ga)), (2, (iv p2)), (4, (pt g9)), (33, (iv p0.width)), (34, (iv x33)), (75, (bv t))]) (fun t w1 => (St NoS w w1 [blk ga (.cells #[(sv Aa p0.rows ca), (iv p0.width), (iv p0.height), (sv Ab p0.edges.North cb), (sv Ac p0.edges.East cc), (sv Ad p0.edges.South cd), (sv Ae p0.edges.West ce)] 88 (0, 0)), rowR encN_Row Aa ca (tag Ha p0.rows), nestO subN_Row Ha p0.rows, rowR encInt Ab cb p0.edges.North, rowR encInt Ac cc p0.edges.East, rowR encInt Ad cd p0.edges.South, rowR encInt Ae ce p0.edges.West, rowR encInt Af cf p1.Cells] [blk g9 (.cells #[(sv Af p1.Cells cf), (iv p1.South.e0), (iv p1.South.e1), (iv p1.South.e2), (iv p1.South.e3), (iv p1.South.e4), (iv p1.South.e5), (iv p1.South.e6), (iv p1.South.e7), (iv p1.North.e0), (iv p1.North.e1), (iv p1.North.e2), (iv p1.North.e3), (iv p1.North.e4), (iv p1.North.e5), (iv p1.North.e6), (iv p1.North.e7), (iv p1.West), (iv p1.East)] 74 (0, 0))] ∧ x54 = t) ∧ CellsOK [] w1) (fun K => ?_) ?_
        ·
         rcases br_some hx55 with ⟨h56, hx55⟩ | ⟨h56, hx55⟩
         ·
          refine WL.setB 53 h56 rfl ?_
          refine seg 39 [] [0, 2, 4, 33, 34, 75] [(0, (pt ga)), (2, (iv p2)), (4, (pt g9)), (33, (iv p0.width)), (34, (iv x33)), (75, (bv true))] [] (fun fb => by kernel_rfl) rfl trivial ?_
          injection hx55 with hx55
          exact WL.to K true [0, 2, 4, 33, 34, 75] rfl ⟨⟨(hS53.subR [0, 1, 2, 3, 4, 5, 6, 7]).sub [0] (by decide), hx55.symm⟩, trivial⟩
         refine WL.setB 53 h56 rfl ?_
         refine seg 25 [.v (iv p0.height)] [0, 2, 4, 7, 33, 34, 53, 61] [(0, (pt ga)), (2, (iv p2)), (4, (pt g9)), (7, (iv x33)), (33, (iv p0.width)), (34, (iv x33)), (53, (bv false)), (61, (bv (p2 == (w64 (p0.height - 1)))))] [.cell ⟨ga, 2, none⟩ (iv p0.height)] (fun fb => by kernel_rfl) rfl ⟨blk_cell (hS53.rd 0).1 2 rfl, trivial⟩ ?_
         refine WL.setB 61 h44 rfl ?_
         refine seg 35 [.v (sv Ab p0.edges.North cb), .v (iv (A8_Int.get p1.North x33))] [0, 2, 4, 33, 34, 53, 61, 66, 67, 71] [(0, (pt ga)), (2, (iv p2)), (4, (pt g9)), (33, (iv p0.width)), (34, (iv x33)), (53, (bv false)), (61, (bv true)), (66, (sv Ab p0.edges.North cb)), (67, (iv x33)), (71, (iv (A8_Int.get p1.North x33)))] [.idx (some ⟨0, 0, none⟩) x33 8, .cell ⟨ga, 3, none⟩ (sv Ab p0.edges.North cb), .cell (flatA ⟨g9, 9, none⟩ (x33.toNat * 1)) (iv (A8_Int.get p1.North x33))] (fun fb => by kernel_rfl) rfl ⟨⟨h48.1, h48.2, rfl⟩, blk_cell (hS53.rd 0).1 3 rfl, hS53.cell 0 rfl _ (cases8 (Q := fun z_ => (#[(sv Af p1.Cells cf), (iv p1.South.e0), (iv p1.South.e1), (iv p1.South.e2), (iv p1.South.e3), (iv p1.South.e4), (iv p1.South.e5), (iv p1.South.e6), (iv p1.South.e7), (iv p1.North.e0), (iv p1.North.e1), (iv p1.North.e2), (iv p1.North.e3), (iv p1.North.e4), (iv p1.North.e5), (iv p1.North.e6), (iv p1.North.e7), (iv p1.West), (iv p1.East)] : Array Value)[9 + z_.toNat * 1]? = some (iv (A8_Int.get p1.North z_))) h48 (by kernel_rfl) (by kernel_rfl) (by kernel_rfl) (by kernel_rfl) (by kernel_rfl) (by kernel_rfl) (by kernel_rfl) (by kernel_rfl)), trivial⟩ ?_
         obtain ⟨t57, ht58, hx55⟩ := bind_some hx55
         refine WL.call (some 72) 62 #[(sv Ab p0.edges.North cb), (iv x33), (iv (A8_Int.get p1.North x33))] (fun fb => by kernel_rfl) (fill_at_calls p0.edges.North x33 (A8_Int.get p1.North x33) Ab cb t57 _ (hS53.rd 3) ht58) (fun v w59 hR60 => ?_)
         obtain ⟨rfl, hk_⟩ := hR60
         have hS61 := hS53.keepN hk_
         refine ⟨trivial, ?_⟩
         refine seg 39 [] [0, 2, 4, 33, 34, 75] [(0, (pt ga)), (2, (iv p2)), (4, (pt g9)), (33, (iv p0.width)), (34, (iv x33)), (75, (bv (!t57)))] [] (fun fb => by kernel_rfl) rfl trivial ?_
         injection hx55 with hx55
         exact WL.to K (!t57) [0, 2, 4, 33, 34, 75] rfl ⟨⟨(hS61.subR [0, 1, 2, 3, 4, 5, 6, 7]).sub [0] (by decide), hx55.symm⟩, trivial⟩
        rintro y62 w65 ⟨⟨hS66, hq63⟩, hF67⟩
        subst hq63
        refine WL.done rfl ?_
        injection hx42 with hx42
        exact WX.to Kx41 x54 [0, 2, 4, 33, 34, 75] rfl ⟨(hS66.subR [0, 1, 2, 3, 4, 5, 6, 7]).sub [0] (by decide), hx42.symm⟩
       refine seg 3 [] [0, 2, 4, 7, 33, 34, 39] [(0, (pt ga)), (2, (iv p2)), (4, (pt g9)), (7, (iv x33)), (33, (iv p0.width)), (34, (iv x33)), (39, (bv (p2 == 0)))] [] (fun fb => by kernel_rfl) rfl trivial ?_
       refine WL.setB 39 h43 rfl ?_
       refine segF 13 [.v (sv Ad p0.edges.South cd), .v (iv (A8_Int.get p1.South x33))] [0, 2, 4, 7, 33, 34, 39, 44, 45, 49] [(0, (pt ga)), (2, (iv p2)), (4, (pt g9)), (7, (iv x33)), (33, (iv p0.width)), (34, (iv x33)), (39, (bv true)), (44, (sv Ad p0.edges.South cd)), (45, (iv x33)), (49, (iv (A8_Int.get p1.South x33)))] [.idx (some ⟨0, 0, none⟩) x33 8] [0, 1] [(7, ⟨ga, 5, none⟩, (sv Ad p0.edges.South cd)), (12, (flatA ⟨g9, 1, none⟩ (x33.toNat * 1)), (iv (A8_Int.get p1.South x33)))] (fun fb => by kernel_rfl) rfl ⟨⟨h48.1, h48.2, rfl⟩, trivial⟩ rfl ?_
       obtain ⟨t68, ht69, hx42⟩ := bind_some hx42
       refine WL.call (some 50) 62 #[(sv Ad p0.edges.South cd), (iv x33), (iv (A8_Int.get p1.South x33))] (fun fb => by kernel_rfl) (fill_at_calls p0.edges.South x33 (A8_Int.get p1.South x33) Ad cd t68 _ (hS47.rd 5) ht69) (fun v w70 hR71 => ?_)
       obtain ⟨rfl, hk_⟩ := hR71
       have hS72 := hS47.keepN hk_
       refine ⟨trivial, ?_⟩
       refine seg 17 [] [0, 2, 4, 7, 33, 34, 53] [(0, (pt ga)), (2, (iv p2)), (4, (pt g9)), (7, (iv x33)), (33, (iv p0.width)), (34, (iv x33)), (53, (bv (!t68)))] [] (fun fb => by kernel_rfl) rfl trivial ?_
       obtain ⟨x73, hx74, hx42⟩ := bind_some hx42
       refine WL.cutW (T := Bool) 39 (fun t => [(0, (pt ga)), (2, (iv p2)), (4, (pt g9)), (33, (iv p0.width)), (34, (iv x33)), (75, (bv t))]) (fun t w1 => (St NoS w w1 [blk ga (.cells #[(sv Aa p0.rows ca), (iv p0.width), (iv p0.height), (sv Ab p0.edges.North cb), (sv Ac p0.edges.East cc), (sv Ad p0.edges.South cd), (sv Ae p0.edges.West ce)] 88 (0, 0)), rowR encN_Row Aa ca (tag Ha p0.rows), nestO subN_Row Ha p0.rows, rowR encInt Ab cb p0.edges.North, rowR encInt Ac cc p0.edges.East, rowR encInt Ad cd p0.edges.South, rowR encInt Ae ce p0.edges.West, rowR encInt Af cf p1.Cells] [blk g9 (.cells #[(sv Af p1.Cells cf), (iv p1.South.e0), (iv p1.South.e1), (iv p1.South.e2), (iv p1.South.e3), (iv p1.South.e4), (iv p1.South.e5), (iv p1.South.e6), (iv p1.South.e7), (iv p1.North.e0), (iv p1.North.e1), (iv p1.North.e2), (iv p1.North.e3), (iv p1.North.e4), (iv p1.North.e5), (iv p1.North.e6), (iv p1.North.e7), (iv p1.West), (iv p1.East)] 74 (0, 0))] ∧ x73 = t) ∧ CellsOK [] w1) (fun K => ?_) ?_
       ·
        rcases br_some hx74 with ⟨h75, hx74⟩ | ⟨h75, hx74⟩
        ·
         refine WL.setB 53 h75 rfl ?_
         refine seg 39 [] [0, 2, 4, 33, 34, 75] [(0, (pt ga)), (2, (iv p2)), (4, (pt g9)), (33, (iv p0.width)), (34, (iv x33)), (75, (bv true))] [] (fun fb => by kernel_rfl) rfl trivial ?_
         injection hx74 with hx74
         exact WL.to K true [0, 2, 4, 33, 34, 75] rfl ⟨⟨(hS72.subR [0, 1, 2, 3, 4, 5, 6, 7]).sub [0] (by decide), hx74.symm⟩, trivial⟩
        refine WL.setB 53 h75 rfl ?_
        refine seg 25 [.v (iv p0.height)] [0, 2, 4, 7, 33, 34, 53, 61] [(0, (pt ga)), (2, (iv p2)), (4, (pt g9)), (7, (iv x33)), (33, (iv p0.width)), (34, (iv x33)), (53, (bv false)), (61, (bv (p2 == (w64 (p0.height - 1)))))] [.cell ⟨ga, 2, none⟩ (iv p0.height)] (fun fb => by kernel_rfl) rfl ⟨blk_cell (hS72.rd 0).1 2 rfl, trivial⟩ ?_
        refine WL.setB 61 h44 rfl ?_
        refine seg 35 [.v (iv (A8_Int.get p1.North x33)), .v (sv Ab p0.edges.North cb)] [0, 2, 4, 33, 34, 53, 61, 66, 67, 71] [(0, (pt ga)), (2, (iv p2)), (4, (pt g9)), (33, (iv p0.width)), (34, (iv x33)), (53, (bv false)), (61, (bv true)), (66, (sv Ab p0.edges.North cb)), (67, (iv x33)), (71, (iv (A8_Int.get p1.North x33)))] [.idx (some ⟨0, 0, none⟩) x33 8, .cell (flatA ⟨g9, 9, none⟩ (x33.toNat * 1)) (iv (A8_Int.get p1.North x33)), .cell ⟨ga, 3, none⟩ (sv Ab p0.edges.North cb)] (fun fb => by kernel_rfl) rfl ⟨⟨h48.1, h48.2, rfl⟩, hS72.cell 0 rfl _ (cases8 (Q := fun z_ => (#[(sv Af p1.Cells cf), (iv p1.South.e0), (iv p1.South.e1), (iv p1.South.e2), (iv p1.South.e3), (iv p1.South.e4), (iv p1.South.e5), (iv p1.South.e6), (iv p1.South.e7), (iv p1.North.e0), (iv p1.North.e1), (iv p1.North.e2), (iv p1.North.e3), (iv p1.North.e4), (iv p1.North.e5), (iv p1.North.e6), (iv p1.North.e7), (iv p1.West), (iv p1.East)] : Array Value)[9 + z_.toNat * 1]? = some (iv (A8_Int.get p1.North z_))) h48 (by kernel_rfl) (by kernel_rfl) (by kernel_rfl) (by kernel_rfl) (by kernel_rfl) (by kernel_rfl) (by kernel_rfl) (by kernel_rfl)), blk_cell (hS72.rd 0).1 3 rfl, trivial⟩ ?_
        obtain ⟨t76, ht77, hx74⟩ := bind_some hx74
        refine WL.call (some 72) 62 #[(sv Ab p0.edges.North cb), (iv x33), (iv (A8_Int.get p1.North x33))] (fun fb => by kernel_rfl) (fill_at_calls p0.edges.North x33 (A8_Int.get p1.North x33) Ab cb t76 _ (hS72.rd 3) ht77) (fun v w78 hR79 => ?_)
        obtain ⟨rfl, hk_⟩ := hR79
        have hS80 := hS72.keepN hk_
        refine ⟨trivial, ?_⟩
        refine seg 39 [] [0, 2, 4, 33, 34, 75] [(0, (pt ga)), (2, (iv p2)), (4, (pt g9)), (33, (iv p0.width)), (34, (iv x33)), (75, (bv (!t76)))] [] (fun fb => by kernel_rfl) rfl trivial ?_
        injection hx74 with hx74
        exact WL.to K (!t76) [0, 2, 4, 33, 34, 75] rfl ⟨⟨(hS80.subR [0, 1, 2, 3, 4, 5, 6, 7]).sub [0] (by decide), hx74.symm⟩, trivial⟩
       rintro y81 w83 ⟨⟨hS84, hq82⟩, hF85⟩
       subst hq82
       refine WL.done rfl ?_
       injection hx42 with hx42
       exact WX.to Kx41 x73 [0, 2, 4, 33, 34, 75] rfl ⟨(hS84.subR [0, 1, 2, 3, 4, 5, 6, 7]).sub [0] (by decide), hx42.symm⟩
      obtain ⟨h88, hx42⟩ := as_some hx42
      refine WC.regionD ([(7, ⟨ga, 5, none⟩, (sv Ad p0.edges.South cd)), (12, (flatA ⟨g9, 1, none⟩ (x33.toNat * 1)), (iv (A8_Int.get p1.South x33)))], [0, 1, 2, 3, 4, 5, 6, 7, 8, 9, 10, 11, 12, 14, 15, 16, 17, 18, 19, 20, 22, 23, 24, 25, 26, 27, 28, 30, 31, 32, 33, 36, 37, 38], [[], [0], [0, 1], [0, 1, 2], [0, 1, 2, 3], [0, 1, 2, 3, 4], [0, 1, 2, 3, 4, 5], [0, 1, 2, 3, 4, 5, 6], [0, 1, 2], [0, 1, 2], [0, 1, 2], [0, 1, 2, 9, 10], [0, 1, 2, 9, 10, 11], [0, 1, 2, 3, 4, 5, 6, 7, 8, 9, 10, 11, 12], [0, 1, 2, 3, 4, 5, 6, 7, 8, 9, 10, 11, 12, 13], [0, 1, 2, 3, 4, 5, 6, 7, 8, 9, 10, 11, 12, 13, 14], [0, 1, 2, 3, 4, 5, 6, 7, 8, 9, 10, 11, 12, 13, 14, 15], [0, 1, 2, 3, 4, 5, 6, 7, 8, 9, 10, 11, 12, 13, 14, 15, 16], [0, 1, 2, 3, 4, 5, 6, 7, 8, 9, 10, 11, 12, 13, 14, 15, 16], [0, 1, 2, 3, 4, 5, 6, 7, 8, 9, 10, 11, 12, 13, 14, 15, 16, 18], [0, 1, 2, 3, 4, 5, 6, 7, 8, 9, 10, 11, 12, 13, 14, 15, 16, 18, 19], [0, 1, 2, 3, 4, 5, 6, 7, 8, 9, 10, 11, 12, 13, 14, 15, 16, 18, 19, 20], [0, 1, 2, 3, 4, 5, 6, 7, 8, 9, 10, 11, 12, 13, 14, 15, 16, 18, 19, 20, 21], [0, 1, 2, 3, 4, 5, 6, 7, 8, 9, 10, 11, 12, 13, 14, 15, 16, 17, 18, 19, 20, 21, 22], [0, 1, 2, 3, 4, 5, 6, 7, 8, 9, 10, 11, 12, 13, 14, 15, 16, 17, 18, 19, 20, 21, 22, 23], [0, 1, 2, 3, 4, 5, 6, 7, 8, 9, 10, 11, 12, 13, 14, 15, 16, 17, 18, 19, 20, 21, 22, 23, 24], [0, 1, 2, 3, 4, 5, 6, 7, 8, 9, 10, 11, 12, 13, 14, 15, 16, 17, 18, 19, 20, 21, 22, 23, 24, 25], [0, 1, 2, 3, 4, 5, 6, 7, 8, 9, 10, 11, 12, 13, 14, 15, 16, 17, 18, 19, 20, 21, 22, 23, 24, 25, 26], [0, 1, 2, 3, 4, 5, 6, 7, 8, 9, 10, 11, 12, 13, 14, 15, 16, 17, 18, 19, 20, 21, 22, 23, 24, 25, 26, 27], [0, 1, 2, 3, 4, 5, 6, 7, 8, 9, 10, 11, 12, 13, 14, 15, 16, 17, 18, 19, 20, 21, 22, 23, 24, 25, 26, 27, 28], [0, 1, 2, 3, 4, 5, 6, 7, 8, 9, 10, 11, 12, 13, 14, 15, 16, 17, 18, 19, 20, 21, 22, 23, 24], [0, 1, 2, 3, 4, 5, 6, 7, 8, 9, 10, 11, 12, 13, 14, 15, 16, 17, 18, 19, 20, 21, 22, 23, 24], [0, 1, 2, 3, 4, 5, 6, 7, 8, 9, 10, 11, 12, 13, 14, 15, 16, 17, 18, 19, 20, 21, 22, 23, 24], [0, 1, 2, 3, 4, 5, 6, 7, 8, 9, 10, 11, 12, 13, 14, 15, 16, 17, 18, 19, 20, 21, 22, 23, 24, 31, 32], [0, 1, 2, 3, 4, 5, 6, 7, 8, 9, 10, 11, 12, 13, 14, 15, 16, 17, 18, 19, 20, 21, 22, 23, 24, 31, 32, 33], [0, 1, 2, 3, 4, 5, 6, 7, 8, 9, 10, 11, 12, 13, 14, 15, 16, 17, 18, 19, 20, 21, 22, 23, 24, 25, 26, 27, 28, 29, 30, 31, 32, 33, 34], [0, 1, 2, 3, 4, 5, 6, 7, 8, 9, 10, 11, 12, 13, 14, 15, 16, 17, 18, 19, 20, 21, 22, 23, 24, 25, 26, 27, 28, 29, 30, 31, 32, 33, 34, 35], [0, 1, 2, 3, 4, 5, 6, 7, 8, 9, 10, 11, 12, 13, 14, 15, 16, 17, 18, 19, 20, 21, 22, 23, 24, 25, 26, 27, 28, 29, 30, 31, 32, 33, 34, 35, 36], [0, 1, 2, 3, 4, 5, 6, 7, 8, 9, 10, 11, 12, 13, 14, 15, 16, 17, 18, 19, 20, 21, 22, 23, 24, 25, 26, 27, 28, 29, 30, 31, 32, 33, 34, 35, 36, 37]]) [[0, 1, 2, 3, 4, 5, 6, 7, 8, 9, 10, 11, 12, 13, 14, 15, 16, 17, 18, 19, 20, 21, 22, 23, 24, 25, 26, 27, 28, 30, 31, 32, 33, 29, 34, 35, 36, 37, 38], [0, 1, 2, 3, 4, 5, 6, 7, 8, 9, 10, 11, 12, 13, 14, 15, 16, 17, 18, 19, 20, 21, 22, 23, 24, 25, 26, 27, 28, 30, 31, 32, 33, 34, 29, 35, 36, 37, 38]] (by kernel_rfl) (by kernel_rfl) (NoPanic.seq (NoPanic.block (NoPanic.seq (NoPanic.seq (NoPanic.block (NoPanic.seq (NoPanic.body))))))) ?_
      have hS87 := hS38.drew
      revert hS87
      generalize World.drew w37 = w86
      intro hS87
      refine ⟨⟨blk_cell (hS87.rd 0).1 5 rfl, hS87.cell 0 rfl _ (cases8 (Q := fun z_ => (#[(sv Af p1.Cells cf), (iv p1.South.e0), (iv p1.South.e1), (iv p1.South.e2), (iv p1.South.e3), (iv p1.South.e4), (iv p1.South.e5), (iv p1.South.e6), (iv p1.South.e7), (iv p1.North.e0), (iv p1.North.e1), (iv p1.North.e2), (iv p1.North.e3), (iv p1.North.e4), (iv p1.North.e5), (iv p1.North.e6), (iv p1.North.e7), (iv p1.West), (iv p1.East)] : Array Value)[1 + z_.toNat * 1]? = some (iv (A8_Int.get p1.South z_))) h88 (by kernel_rfl) (by kernel_rfl) (by kernel_rfl) (by kernel_rfl) (by kernel_rfl) (by kernel_rfl) (by kernel_rfl) (by kernel_rfl)), trivial⟩, forallC ?_ (forallC ?_ (forallN))⟩
      ·
       refine seg 3 [] [0, 2, 4, 7, 33, 34, 39] [(0, (pt ga)), (2, (iv p2)), (4, (pt g9)), (7, (iv x33)), (33, (iv p0.width)), (34, (iv x33)), (39, (bv (p2 == 0)))] [] (fun fb => by kernel_rfl) rfl trivial ?_
       refine WL.setB 39 h43 rfl ?_
       refine segF 13 [.v (sv Ad p0.edges.South cd), .v (iv (A8_Int.get p1.South x33))] [0, 2, 4, 7, 33, 34, 39, 44, 45, 49] [(0, (pt ga)), (2, (iv p2)), (4, (pt g9)), (7, (iv x33)), (33, (iv p0.width)), (34, (iv x33)), (39, (bv true)), (44, (sv Ad p0.edges.South cd)), (45, (iv x33)), (49, (iv (A8_Int.get p1.South x33)))] [.idx (some ⟨0, 0, none⟩) x33 8] [0, 1] [(7, ⟨ga, 5, none⟩, (sv Ad p0.edges.South cd)), (12, (flatA ⟨g9, 1, none⟩ (x33.toNat * 1)), (iv (A8_Int.get p1.South x33)))] (fun fb => by kernel_rfl) rfl ⟨⟨h88.1, h88.2, rfl⟩, trivial⟩ rfl ?_
       obtain ⟨t89, ht90, hx42⟩ := bind_some hx42
       refine WL.call (some 50) 62 #[(sv Ad p0.edges.South cd), (iv x33), (iv (A8_Int.get p1.South x33))] (fun fb => by kernel_rfl) (fill_at_calls p0.edges.South x33 (A8_Int.get p1.South x33) Ad cd t89 _ (hS87.rd 5) ht90) (fun v w91 hR92 => ?_)
       obtain ⟨rfl, hk_⟩ := hR92
       have hS93 := hS87.keepN hk_
       refine ⟨trivial, ?_⟩
       refine seg 17 [] [0, 2, 4, 7, 33, 34, 53] [(0, (pt ga)), (2, (iv p2)), (4, (pt g9)), (7, (iv x33)), (33, (iv p0.width)), (34, (iv x33)), (53, (bv (!t89)))] [] (fun fb => by kernel_rfl) rfl trivial ?_
       refine WL.cutV (T := Bool) 39 (fun t => [(75, (bv t)), (0, (pt ga)), (2, (iv p2)), (4, (pt g9)), (33, (iv p0.width)), (34, (iv x33))]) (fun t => (!t89) = t) (fun K => ?_) ?_
       ·
        rcases Bool.eq_false_or_eq_true (!t89) with h94 | h94
        ·
         refine WL.setB 53 h94 rfl ?_
         refine seg 39 [] [0, 2, 4, 33, 34, 75] [(0, (pt ga)), (2, (iv p2)), (4, (pt g9)), (33, (iv p0.width)), (34, (iv x33)), (75, (bv true))] [] (fun fb => by kernel_rfl) rfl trivial ?_
         exact WL.toV K true [75, 0, 2, 4, 33, 34] rfl (by first | (rw [h94]; done) | (rw [h94]; rfl))
        refine WL.setB 53 h94 rfl ?_
        refine seg 25 [.v (iv p0.height)] [0, 2, 4, 7, 33, 34, 53, 61] [(0, (pt ga)), (2, (iv p2)), (4, (pt g9)), (7, (iv x33)), (33, (iv p0.width)), (34, (iv x33)), (53, (bv false)), (61, (bv (p2 == (w64 (p0.height - 1)))))] [.cell ⟨ga, 2, none⟩ (iv p0.height)] (fun fb => by kernel_rfl) rfl ⟨blk_cell (hS93.rd 0).1 2 rfl, trivial⟩ ?_
        refine WL.setB 61 h44 rfl ?_
        refine seg 39 [] [0, 2, 4, 33, 34, 75] [(0, (pt ga)), (2, (iv p2)), (4, (pt g9)), (33, (iv p0.width)), (34, (iv x33)), (75, (bv false))] [] (fun fb => by kernel_rfl) rfl trivial ?_
        exact WL.toV K false [75, 0, 2, 4, 33, 34] rfl (by first | (rw [h94]; done) | (rw [h94]; rfl))
       rintro b95 rfl
       refine WL.done rfl ?_
       injection hx42 with hx42
       exact WX.to Kx41 (!t89) [0, 2, 4, 33, 34, 75] rfl ⟨(hS93.subR [0, 1, 2, 3, 4, 5, 6, 7]).sub [0] (by decide), hx42.symm⟩
      refine seg 3 [] [0, 2, 4, 7, 33, 34, 39] [(0, (pt ga)), (2, (iv p2)), (4, (pt g9)), (7, (iv x33)), (33, (iv p0.width)), (34, (iv x33)), (39, (bv (p2 == 0)))] [] (fun fb => by kernel_rfl) rfl trivial ?_
      refine WL.setB 39 h43 rfl ?_
      refine segF 13 [.v (sv Ad p0.edges.South cd), .v (iv (A8_Int.get p1.South x33))] [0, 2, 4, 7, 33, 34, 39, 44, 45, 49] [(0, (pt ga)), (2, (iv p2)), (4, (pt g9)), (7, (iv x33)), (33, (iv p0.width)), (34, (iv x33)), (39, (bv true)), (44, (sv Ad p0.edges.South cd)), (45, (iv x33)), (49, (iv (A8_Int.get p1.South x33)))] [.idx (some ⟨0, 0, none⟩) x33 8] [0, 1] [(7, ⟨ga, 5, none⟩, (sv Ad p0.edges.South cd)), (12, (flatA ⟨g9, 1, none⟩ (x33.toNat * 1)), (iv (A8_Int.get p1.South x33)))] (fun fb => by kernel_rfl) rfl ⟨⟨h88.1, h88.2, rfl⟩, trivial⟩ rfl ?_
      obtain ⟨t96, ht97, hx42⟩ := bind_some hx42
      refine WL.call (some 50) 62 #[(sv Ad p0.edges.South cd), (iv x33), (iv (A8_Int.get p1.South x33))] (fun fb => by kernel_rfl) (fill_at_calls p0.edges.South x33 (A8_Int.get p1.South x33) Ad cd t96 _ (hS87.rd 5) ht97) (fun v w98 hR99 => ?_)
      obtain ⟨rfl, hk_⟩ := hR99
      have hS100 := hS87.keepN hk_
      refine ⟨trivial, ?_⟩
      refine seg 17 [] [0, 2, 4, 7, 33, 34, 53] [(0, (pt ga)), (2, (iv p2)), (4, (pt g9)), (7, (iv x33)), (33, (iv p0.width)), (34, (iv x33)), (53, (bv (!t96)))] [] (fun fb => by kernel_rfl) rfl trivial ?_
      refine WL.cutV (T := Bool) 39 (fun t => [(75, (bv t)), (0, (pt ga)), (2, (iv p2)), (4, (pt g9)), (33, (iv p0.width)), (34, (iv x33))]) (fun t => (!t96) = t) (fun K => ?_) ?_
      ·
       rcases Bool.eq_false_or_eq_true (!t96) with h101 | h101
       ·
        refine WL.setB 53 h101 rfl ?_
        refine seg 39 [] [0, 2, 4, 33, 34, 75] [(0, (pt ga)), (2, (iv p2)), (4, (pt g9)), (33, (iv p0.width)), (34, (iv x33)), (75, (bv true))] [] (fun fb => by kernel_rfl) rfl trivial ?_
        exact WL.toV K true [75, 0, 2, 4, 33, 34] rfl (by first | (rw [h101]; done) | (rw [h101]; rfl))
       refine WL.setB 53 h101 rfl ?_
       refine seg 25 [.v (iv p0.height)] [0, 2, 4, 7, 33, 34, 53, 61] [(0, (pt ga)), (2, (iv p2)), (4, (pt g9)), (7, (iv x33)), (33, (iv p0.width)), (34, (iv x33)), (53, (bv false)), (61, (bv (p2 == (w64 (p0.height - 1)))))] [.cell ⟨ga, 2, none⟩ (iv p0.height)] (fun fb => by kernel_rfl) rfl ⟨blk_cell (hS100.rd 0).1 2 rfl, trivial⟩ ?_
       refine WL.setB 61 h44 rfl ?_
       refine seg 39 [] [0, 2, 4, 33, 34, 75] [(0, (pt ga)), (2, (iv p2)), (4, (pt g9)), (33, (iv p0.width)), (34, (iv x33)), (75, (bv false))] [] (fun fb => by kernel_rfl) rfl trivial ?_
       exact WL.toV K false [75, 0, 2, 4, 33, 34] rfl (by first | (rw [h101]; done) | (rw [h101]; rfl))
      rintro b102 rfl
      refine WL.done rfl ?_
      injection hx42 with hx42
      exact WX.to Kx41 (!t96) [0, 2, 4, 33, 34, 75] rfl ⟨(hS100.subR [0, 1, 2, 3, 4, 5, 6, 7]).sub [0] (by decide), hx42.symm⟩
     rcases br_some hx42 with ⟨h103, hx42⟩ | ⟨h103, hx42⟩
     ·
      refine WC.regionD ([], [0, 1, 2, 3, 4, 5, 6, 7, 8, 9, 10, 11, 12, 14, 15, 16, 17, 18, 19, 20, 22, 23, 24, 25, 26, 27, 28, 30, 31, 32, 33, 36, 37, 38], [[], [0], [0, 1], [0, 1, 2], [0, 1, 2, 3], [0, 1, 2, 3, 4], [0, 1, 2, 3, 4, 5], [0, 1, 2, 3, 4, 5, 6], [0, 1, 2], [0, 1, 2], [0, 1, 2], [0, 1, 2, 9, 10], [0, 1, 2, 9, 10, 11], [0, 1, 2, 3, 4, 5, 6, 7, 8, 9, 10, 11, 12], [0, 1, 2, 3, 4, 5, 6, 7, 8, 9, 10, 11, 12, 13], [0, 1, 2, 3, 4, 5, 6, 7, 8, 9, 10, 11, 12, 13, 14], [0, 1, 2, 3, 4, 5, 6, 7, 8, 9, 10, 11, 12, 13, 14, 15], [0, 1, 2, 3, 4, 5, 6, 7, 8, 9, 10, 11, 12, 13, 14, 15, 16], [0, 1, 2, 3, 4, 5, 6, 7, 8, 9, 10, 11, 12, 13, 14, 15, 16], [0, 1, 2, 3, 4, 5, 6, 7, 8, 9, 10, 11, 12, 13, 14, 15, 16, 18], [0, 1, 2, 3, 4, 5, 6, 7, 8, 9, 10, 11, 12, 13, 14, 15, 16, 18, 19], [0, 1, 2, 3, 4, 5, 6, 7, 8, 9, 10, 11, 12, 13, 14, 15, 16, 18, 19, 20], [0, 1, 2, 3, 4, 5, 6, 7, 8, 9, 10, 11, 12, 13, 14, 15, 16, 18, 19, 20, 21], [0, 1, 2, 3, 4, 5, 6, 7, 8, 9, 10, 11, 12, 13, 14, 15, 16, 17, 18, 19, 20, 21, 22], [0, 1, 2, 3, 4, 5, 6, 7, 8, 9, 10, 11, 12, 13, 14, 15, 16, 17, 18, 19, 20, 21, 22, 23], [0, 1, 2, 3, 4, 5, 6, 7, 8, 9, 10, 11, 12, 13, 14, 15, 16, 17, 18, 19, 20, 21, 22, 23, 24], [0, 1, 2, 3, 4, 5, 6, 7, 8, 9, 10, 11, 12, 13, 14, 15, 16, 17, 18, 19, 20, 21, 22, 23, 24, 25], [0, 1, 2, 3, 4, 5, 6, 7, 8, 9, 10, 11, 12, 13, 14, 15, 16, 17, 18, 19, 20, 21, 22, 23, 24, 25, 26], [0, 1, 2, 3, 4, 5, 6, 7, 8, 9, 10, 11, 12, 13, 14, 15, 16, 17, 18, 19, 20, 21, 22, 23, 24, 25, 26, 27], [0, 1, 2, 3, 4, 5, 6, 7, 8, 9, 10, 11, 12, 13, 14, 15, 16, 17, 18, 19, 20, 21, 22, 23, 24, 25, 26, 27, 28], [0, 1, 2, 3, 4, 5, 6, 7, 8, 9, 10, 11, 12, 13, 14, 15, 16, 17, 18, 19, 20, 21, 22, 23, 24], [0, 1, 2, 3, 4, 5, 6, 7, 8, 9, 10, 11, 12, 13, 14, 15, 16, 17, 18, 19, 20, 21, 22, 23, 24], [0, 1, 2, 3, 4, 5, 6, 7, 8, 9, 10, 11, 12, 13, 14, 15, 16, 17, 18, 19, 20, 21, 22, 23, 24], [0, 1, 2, 3, 4, 5, 6, 7, 8, 9, 10, 11, 12, 13, 14, 15, 16, 17, 18, 19, 20, 21, 22, 23, 24, 31, 32], [0, 1, 2, 3, 4, 5, 6, 7, 8, 9, 10, 11, 12, 13, 14, 15, 16, 17, 18, 19, 20, 21, 22, 23, 24, 31, 32, 33], [0, 1, 2, 3, 4, 5, 6, 7, 8, 9, 10, 11, 12, 13, 14, 15, 16, 17, 18, 19, 20, 21, 22, 23, 24, 25, 26, 27, 28, 29, 30, 31, 32, 33, 34], [0, 1, 2, 3, 4, 5, 6, 7, 8, 9, 10, 11, 12, 13, 14, 15, 16, 17, 18, 19, 20, 21, 22, 23, 24, 25, 26, 27, 28, 29, 30, 31, 32, 33, 34, 35], [0, 1, 2, 3, 4, 5, 6, 7, 8, 9, 10, 11, 12, 13, 14, 15, 16, 17, 18, 19, 20, 21, 22, 23, 24, 25, 26, 27, 28, 29, 30, 31, 32, 33, 34, 35, 36], [0, 1, 2, 3, 4, 5, 6, 7, 8, 9, 10, 11, 12, 13, 14, 15, 16, 17, 18, 19, 20, 21, 22, 23, 24, 25, 26, 27, 28, 29, 30, 31, 32, 33, 34, 35, 36, 37]]) [[0, 1, 2, 3, 4, 5, 6, 7, 8, 9, 10, 11, 12, 13, 14, 15, 16, 17, 18, 19, 20, 21, 22, 23, 24, 25, 26, 27, 28, 30, 31, 32, 33, 29, 34, 35, 36, 37, 38], [0, 1, 2, 3, 4, 5, 6, 7, 8, 9, 10, 11, 12, 13, 14, 15, 16, 17, 18, 19, 20, 21, 22, 23, 24, 25, 26, 27, 28, 30, 31, 32, 33, 34, 29, 35, 36, 37, 38]] (by kernel_rfl) (by kernel_rfl) (NoPanic.seq (NoPanic.block (NoPanic.seq (NoPanic.seq (NoPanic.block (NoPanic.seq (NoPanic.body))))))) ?_
      have hS105 := hS38.drew
      revert hS105
      generalize World.drew w37 = w104
      intro hS105
      refine ⟨trivial, forallC ?_ (forallC ?_ (forallN))⟩
      ·
       refine seg 3 [] [0, 2, 4, 7, 33, 34, 39] [(0, (pt ga)), (2, (iv p2)), (4, (pt g9)), (7, (iv x33)), (33, (iv p0.width)), (34, (iv x33)), (39, (bv (p2 == 0)))] [] (fun fb => by kernel_rfl) rfl trivial ?_
       refine WL.setB 39 h43 rfl ?_
       refine seg 25 [.v (iv p0.height)] [0, 2, 4, 7, 33, 34, 53, 61] [(0, (pt ga)), (2, (iv p2)), (4, (pt g9)), (7, (iv x33)), (33, (iv p0.width)), (34, (iv x33)), (53, (bv false)), (61, (bv (p2 == (w64 (p0.height - 1)))))] [.cell ⟨ga, 2, none⟩ (iv p0.height)] (fun fb => by kernel_rfl) rfl ⟨blk_cell (hS105.rd 0).1 2 rfl, trivial⟩ ?_
       refine WL.setB 61 h103 rfl ?_
       refine seg 32 [] [0, 2, 4, 33, 34, 53, 61, 65, 67, 68, 69] [(0, (pt ga)), (2, (iv p2)), (4, (pt g9)), (33, (iv p0.width)), (34, (iv x33)), (53, (bv false)), (61, (bv true)), (65, (.pointer (some ⟨ga, 3, none⟩))), (67, (iv x33)), (68, (iv x33)), (69, (.pointer (some ⟨g9, 9, none⟩)))] [] (fun fb => by kernel_rfl) rfl trivial ?_
       obtain ⟨h106, hx42⟩ := as_some hx42
       refine seg 35 [.v (sv Ab p0.edges.North cb), .v (iv (A8_Int.get p1.North x33))] [0, 2, 4, 33, 34, 53, 61, 66, 67, 71] [(0, (pt ga)), (2, (iv p2)), (4, (pt g9)), (33, (iv p0.width)), (34, (iv x33)), (53, (bv false)), (61, (bv true)), (66, (sv Ab p0.edges.North cb)), (67, (iv x33)), (71, (iv (A8_Int.get p1.North x33)))] [.idx (some ⟨0, 0, none⟩) x33 8, .cell ⟨ga, 3, none⟩ (sv Ab p0.edges.North cb), .cell (flatA ⟨g9, 9, none⟩ (x33.toNat * 1)) (iv (A8_Int.get p1.North x33))] (fun fb => by kernel_rfl) rfl ⟨⟨h106.1, h106.2, rfl⟩, blk_cell (hS105.rd 0).1 3 rfl, hS105.cell 0 rfl _ (cases8 (Q := fun z_ => (#[(sv Af p1.Cells cf), (iv p1.South.e0), (iv p1.South.e1), (iv p1.South.e2), (iv p1.South.e3), (iv p1.South.e4), (iv p1.South.e5), (iv p1.South.e6), (iv p1.South.e7), (iv p1.North.e0), (iv p1.North.e1), (iv p1.North.e2), (iv p1.North.e3), (iv p1.North.e4), (iv p1.North.e5), (iv p1.North.e6), (iv p1.North.e7), (iv p1.West), (iv p1.East)] : Array Value)[9 + z_.toNat * 1]? = some (iv (A8_Int.get p1.North z_))) h106 (by kernel_rfl) (by kernel_rfl) (by kernel_rfl) (by kernel_rfl) (by kernel_rfl) (by kernel_rfl) (by kernel_rfl) (by kernel_rfl)), trivial⟩ ?_
       obtain ⟨t107, ht108, hx42⟩ := bind_some hx42
       refine WL.call (some 72) 62 #[(sv Ab p0.edges.North cb), (iv x33), (iv (A8_Int.get p1.North x33))] (fun fb => by kernel_rfl) (fill_at_calls p0.edges.North x33 (A8_Int.get p1.North x33) Ab cb t107 _ (hS105.rd 3) ht108) (fun v w109 hR110 => ?_)
       obtain ⟨rfl, hk_⟩ := hR110
       have hS111 := hS105.keepN hk_
       refine ⟨trivial, ?_⟩
       refine seg 39 [] [0, 2, 4, 33, 34, 75] [(0, (pt ga)), (2, (iv p2)), (4, (pt g9)), (33, (iv p0.width)), (34, (iv x33)), (75, (bv (!t107)))] [] (fun fb => by kernel_rfl) rfl trivial ?_
       refine WL.done rfl ?_
       injection hx42 with hx42
       exact WX.to Kx41 (!t107) [0, 2, 4, 33, 34, 75] rfl ⟨(hS111.subR [0, 1, 2, 3, 4, 5, 6, 7]).sub [0] (by decide), hx42.symm⟩
      refine seg 3 [] [0, 2, 4, 7, 33, 34, 39] [(0, (pt ga)), (2, (iv p2)), (4, (pt g9)), (7, (iv x33)), (33, (iv p0.width)), (34, (iv x33)), (39, (bv (p2 == 0)))] [] (fun fb => by kernel_rfl) rfl trivial ?_
      refine WL.setB 39 h43 rfl ?_
      refine seg 25 [.v (iv p0.height)] [0, 2, 4, 7, 33, 34, 53, 61] [(0, (pt ga)), (2, (iv p2)), (4, (pt g9)), (7, (iv x33)), (33, (iv p0.width)), (34, (iv x33)), (53, (bv false)), (61, (bv (p2 == (w64 (p0.height - 1)))))] [.cell ⟨ga, 2, none⟩ (iv p0.height)] (fun fb => by kernel_rfl) rfl ⟨blk_cell (hS105.rd 0).1 2 rfl, trivial⟩ ?_
      refine WL.setB 61 h103 rfl ?_
      refine seg 32 [] [0, 2, 4, 33, 34, 53, 61, 65, 67, 68, 69] [(0, (pt ga)), (2, (iv p2)), (4, (pt g9)), (33, (iv p0.width)), (34, (iv x33)), (53, (bv false)), (61, (bv true)), (65, (.pointer (some ⟨ga, 3, none⟩))), (67, (iv x33)), (68, (iv x33)), (69, (.pointer (some ⟨g9, 9, none⟩)))] [] (fun fb => by kernel_rfl) rfl trivial ?_
      obtain ⟨h112, hx42⟩ := as_some hx42
      refine seg 35 [.v (iv (A8_Int.get p1.North x33)), .v (sv Ab p0.edges.North cb)] [0, 2, 4, 33, 34, 53, 61, 66, 67, 71] [(0, (pt ga)), (2, (iv p2)), (4, (pt g9)), (33, (iv p0.width)), (34, (iv x33)), (53, (bv false)), (61, (bv true)), (66, (sv Ab p0.edges.North cb)), (67, (iv x33)), (71, (iv (A8_Int.get p1.North x33)))] [.idx (some ⟨0, 0, none⟩) x33 8, .cell (flatA ⟨g9, 9, none⟩ (x33.toNat * 1)) (iv (A8_Int.get p1.North x33)), .cell ⟨ga, 3, none⟩ (sv Ab p0.edges.North cb)] (fun fb => by kernel_rfl) rfl ⟨⟨h112.1, h112.2, rfl⟩, hS105.cell 0 rfl _ (cases8 (Q := fun z_ => (#[(sv Af p1.Cells cf), (iv p1.South.e0), (iv p1.South.e1), (iv p1.South.e2), (iv p1.South.e3), (iv p1.South.e4), (iv p1.South.e5), (iv p1.South.e6), (iv p1.South.e7), (iv p1.North.e0), (iv p1.North.e1), (iv p1.North.e2), (iv p1.North.e3), (iv p1.North.e4), (iv p1.North.e5), (iv p1.North.e6), (iv p1.North.e7), (iv p1.West), (iv p1.East)] : Array Value)[9 + z_.toNat * 1]? = some (iv (A8_Int.get p1.North z_))) h112 (by kernel_rfl) (by kernel_rfl) (by kernel_rfl) (by kernel_rfl) (by kernel_rfl) (by kernel_rfl) (by kernel_rfl) (by kernel_rfl)), blk_cell (hS105.rd 0).1 3 rfl, trivial⟩ ?_
      obtain ⟨t113, ht114, hx42⟩ := bind_some hx42
      refine WL.call (some 72) 62 #[(sv Ab p0.edges.North cb), (iv x33), (iv (A8_Int.get p1.North x33))] (fun fb => by kernel_rfl) (fill_at_calls p0.edges.North x33 (A8_Int.get p1.North x33) Ab cb t113 _ (hS105.rd 3) ht114) (fun v w115 hR116 => ?_)
      obtain ⟨rfl, hk_⟩ := hR116
      have hS117 := hS105.keepN hk_
      refine ⟨trivial, ?_⟩
      refine seg 39 [] [0, 2, 4, 33, 34, 75] [(0, (pt ga)), (2, (iv p2)), (4, (pt g9)), (33, (iv p0.width)), (34, (iv x33)), (75, (bv (!t113)))] [] (fun fb => by kernel_rfl) rfl trivial ?_
      refine WL.done rfl ?_
      injection hx42 with hx42
      exact WX.to Kx41 (!t113) [0, 2, 4, 33, 34, 75] rfl ⟨(hS117.subR [0, 1, 2, 3, 4, 5, 6, 7]).sub [0] (by decide), hx42.symm⟩
     refine WC.regionD ([], [0, 1, 2, 3, 4, 5, 6, 7, 8, 9, 10, 11, 12, 14, 15, 16, 17, 18, 19, 20, 22, 23, 24, 25, 26, 27, 28, 30, 31, 32, 33, 36, 37, 38], [[], [0], [0, 1], [0, 1, 2], [0, 1, 2, 3], [0, 1, 2, 3, 4], [0, 1, 2, 3, 4, 5], [0, 1, 2, 3, 4, 5, 6], [0, 1, 2], [0, 1, 2], [0, 1, 2], [0, 1, 2, 9, 10], [0, 1, 2, 9, 10, 11], [0, 1, 2, 3, 4, 5, 6, 7, 8, 9, 10, 11, 12], [0, 1, 2, 3, 4, 5, 6, 7, 8, 9, 10, 11, 12, 13], [0, 1, 2, 3, 4, 5, 6, 7, 8, 9, 10, 11, 12, 13, 14], [0, 1, 2, 3, 4, 5, 6, 7, 8, 9, 10, 11, 12, 13, 14, 15], [0, 1, 2, 3, 4, 5, 6, 7, 8, 9, 10, 11, 12, 13, 14, 15, 16], [0, 1, 2, 3, 4, 5, 6, 7, 8, 9, 10, 11, 12, 13, 14, 15, 16], [0, 1, 2, 3, 4, 5, 6, 7, 8, 9, 10, 11, 12, 13, 14, 15, 16, 18], [0, 1, 2, 3, 4, 5, 6, 7, 8, 9, 10, 11, 12, 13, 14, 15, 16, 18, 19], [0, 1, 2, 3, 4, 5, 6, 7, 8, 9, 10, 11, 12, 13, 14, 15, 16, 18, 19, 20], [0, 1, 2, 3, 4, 5, 6, 7, 8, 9, 10, 11, 12, 13, 14, 15, 16, 18, 19, 20, 21], [0, 1, 2, 3, 4, 5, 6, 7, 8, 9, 10, 11, 12, 13, 14, 15, 16, 17, 18, 19, 20, 21, 22], [0, 1, 2, 3, 4, 5, 6, 7, 8, 9, 10, 11, 12, 13, 14, 15, 16, 17, 18, 19, 20, 21, 22, 23], [0, 1, 2, 3, 4, 5, 6, 7, 8, 9, 10, 11, 12, 13, 14, 15, 16, 17, 18, 19, 20, 21, 22, 23, 24], [0, 1, 2, 3, 4, 5, 6, 7, 8, 9, 10, 11, 12, 13, 14, 15, 16, 17, 18, 19, 20, 21, 22, 23, 24, 25], [0, 1, 2, 3, 4, 5, 6, 7, 8, 9, 10, 11, 12, 13, 14, 15, 16, 17, 18, 19, 20, 21, 22, 23, 24, 25, 26], [0, 1, 2, 3, 4, 5, 6, 7, 8, 9, 10, 11, 12, 13, 14, 15, 16, 17, 18, 19, 20, 21, 22, 23, 24, 25, 26, 27], [0, 1, 2, 3, 4, 5, 6, 7, 8, 9, 10, 11, 12, 13, 14, 15, 16, 17, 18, 19, 20, 21, 22, 23, 24, 25, 26, 27, 28], [0, 1, 2, 3, 4, 5, 6, 7, 8, 9, 10, 11, 12, 13, 14, 15, 16, 17, 18, 19, 20, 21, 22, 23, 24], [0, 1, 2, 3, 4, 5, 6, 7, 8, 9, 10, 11, 12, 13, 14, 15, 16, 17, 18, 19, 20, 21, 22, 23, 24], [0, 1, 2, 3, 4, 5, 6, 7, 8, 9, 10, 11, 12, 13, 14, 15, 16, 17, 18, 19, 20, 21, 22, 23, 24], [0, 1, 2, 3, 4, 5, 6, 7, 8, 9, 10, 11, 12, 13, 14, 15, 16, 17, 18, 19, 20, 21, 22, 23, 24, 31, 32], [0, 1, 2, 3, 4, 5, 6, 7, 8, 9, 10, 11, 12, 13, 14, 15, 16, 17, 18, 19, 20, 21, 22, 23, 24, 31, 32, 33], [0, 1, 2, 3, 4, 5, 6, 7, 8, 9, 10, 11, 12, 13, 14, 15, 16, 17, 18, 19, 20, 21, 22, 23, 24, 25, 26, 27, 28, 29, 30, 31, 32, 33, 34], [0, 1, 2, 3, 4, 5, 6, 7, 8, 9, 10, 11, 12, 13, 14, 15, 16, 17, 18, 19, 20, 21, 22, 23, 24, 25, 26, 27, 28, 29, 30, 31, 32, 33, 34, 35], [0, 1, 2, 3, 4, 5, 6, 7, 8, 9, 10, 11, 12, 13, 14, 15, 16, 17, 18, 19, 20, 21, 22, 23, 24, 25, 26, 27, 28, 29, 30, 31, 32, 33, 34, 35, 36], [0, 1, 2, 3, 4, 5, 6, 7, 8, 9, 10, 11, 12, 13, 14, 15, 16, 17, 18, 19, 20, 21, 22, 23, 24, 25, 26, 27, 28, 29, 30, 31, 32, 33, 34, 35, 36, 37]]) [[0, 1, 2, 3, 4, 5, 6, 7, 8, 9, 10, 11, 12, 13, 14, 15, 16, 17, 18, 19, 20, 21, 22, 23, 24, 25, 26, 27, 28, 30, 31, 32, 33, 29, 34, 35, 36, 37, 38], [0, 1, 2, 3, 4, 5, 6, 7, 8, 9, 10, 11, 12, 13, 14, 15, 16, 17, 18, 19, 20, 21, 22, 23, 24, 25, 26, 27, 28, 30, 31, 32, 33, 34, 29, 35, 36, 37, 38]] (by kernel_rfl) (by kernel_rfl) (NoPanic.seq (NoPanic.block (NoPanic.seq (NoPanic.seq (NoPanic.block (NoPanic.seq (NoPanic.body))))))) ?_
     have hS119 := hS38.drew
     revert hS119
     generalize World.drew w37 = w118
     intro hS119
     refine ⟨trivial, forallC ?_ (forallC ?_ (forallN))⟩
     ·
      refine seg 3 [] [0, 2, 4, 7, 33, 34, 39] [(0, (pt ga)), (2, (iv p2)), (4, (pt g9)), (7, (iv x33)), (33, (iv p0.width)), (34, (iv x33)), (39, (bv (p2 == 0)))] [] (fun fb => by kernel_rfl) rfl trivial ?_
      refine WL.setB 39 h43 rfl ?_
      refine seg 25 [.v (iv p0.height)] [0, 2, 4, 7, 33, 34, 53, 61] [(0, (pt ga)), (2, (iv p2)), (4, (pt g9)), (7, (iv x33)), (33, (iv p0.width)), (34, (iv x33)), (53, (bv false)), (61, (bv (p2 == (w64 (p0.height - 1)))))] [.cell ⟨ga, 2, none⟩ (iv p0.height)] (fun fb => by kernel_rfl) rfl ⟨blk_cell (hS119.rd 0).1 2 rfl, trivial⟩ ?_
      refine WL.setB 61 h103 rfl ?_
      refine seg 39 [] [0, 2, 4, 33, 34, 75] [(0, (pt ga)), (2, (iv p2)), (4, (pt g9)), (33, (iv p0.width)), (34, (iv x33)), (75, (bv false))] [] (fun fb => by kernel_rfl) rfl trivial ?_
      refine WL.done rfl ?_
      injection hx42 with hx42
      exact WX.to Kx41 false [0, 2, 4, 33, 34, 75] rfl ⟨(hS119.subR [0, 1, 2, 3, 4, 5, 6, 7]).sub [0] (by decide), hx42.symm⟩
     refine seg 3 [] [0, 2, 4, 7, 33, 34, 39] [(0, (pt ga)), (2, (iv p2)), (4, (pt g9)), (7, (iv x33)), (33, (iv p0.width)), (34, (iv x33)), (39, (bv (p2 == 0)))] [] (fun fb => by kernel_rfl) rfl trivial ?_
     refine WL.setB 39 h43 rfl ?_
     refine seg 25 [.v (iv p0.height)] [0, 2, 4, 7, 33, 34, 53, 61] [(0, (pt ga)), (2, (iv p2)), (4, (pt g9)), (7, (iv x33)), (33, (iv p0.width)), (34, (iv x33)), (53, (bv false)), (61, (bv (p2 == (w64 (p0.height - 1)))))] [.cell ⟨ga, 2, none⟩ (iv p0.height)] (fun fb => by kernel_rfl) rfl ⟨blk_cell (hS119.rd 0).1 2 rfl, trivial⟩ ?_
     refine WL.setB 61 h103 rfl ?_
     refine seg 39 [] [0, 2, 4, 33, 34, 75] [(0, (pt ga)), (2, (iv p2)), (4, (pt g9)), (33, (iv p0.width)), (34, (iv x33)), (75, (bv false))] [] (fun fb => by kernel_rfl) rfl trivial ?_
     refine WL.done rfl ?_
     injection hx42 with hx42
     exact WX.to Kx41 false [0, 2, 4, 33, 34, 75] rfl ⟨(hS119.subR [0, 1, 2, 3, 4, 5, 6, 7]).sub [0] (by decide), hx42.symm⟩
    rintro y123 w120 ⟨hS121, hq122⟩
    subst hq122
    refine WX.next ?_
    rcases br_some hl39 with ⟨h124, hl39⟩ | ⟨h124, hl39⟩
    ·refine WC.condT2 (fun fb => by kernel_rfl) h124 ?_
     refine WC.seq (WC.region ?_)
     refine seg 1 [] [6] [(6, (bv false))] [] (fun fb => by kernel_rfl) rfl trivial ?_
     refine WL.done rfl (WX.next ?_)
     refine WC.ret ?_
     injection hl39 with hl39
     subst hl39
     injection hf with hf
     subst hf
     exact WX.blockR (WX.thenR (WX.thenR (WX.blockR (WX.thenR (WX.ret_ [] (bv false) [] (fun fb => by kernel_rfl) trivial ⟨_, rfl, rfl, hS121.keep⟩)))))
    refine WC.condF2 (fun fb => by kernel_rfl) h124 ?_
    refine WC.skip ?_
    refine WX.blockN (WX.next ?_)
    refine WC.region ?_
    refine seg 2 [] [0, 2, 4, 33, 34] [(0, (pt ga)), (2, (iv p2)), (4, (pt g9)), (33, (iv p0.width)), (34, (iv (w64 (x33 + 1))))] [] (fun fb => by kernel_rfl) rfl trivial ?_
    refine WL.done rfl ?_
    exact WX.again k36 (Nat.lt_succ_self _) (w64 (x33 + 1)) [0, 2, 4, 33, 34] rfl ⟨(hS121.subR [0, 1, 2, 3, 4, 5, 6, 7]).sub [0] (by decide), hl39⟩
   refine WC.condF2 (fun fb => by kernel_rfl) h40 ?_
   refine WC.exit ?_
   injection hl39 with hl39
   exact WX.thenX (WX.thenX (WX.blockHere (WX.to Kx34 () [] rfl ⟨(hS38.subR [0, 1, 2, 3, 4, 5, 6, 7]).sub [] (by decide), hl39.symm⟩)))
 rintro y128 w125 ⟨hS126, hq127⟩
 subst hq127
 have hf := sum_inr hf
 refine WX.next (WC.seq (WC.region ?_))
 refine seg 1 [] [6] [(6, (bv true))] [] (fun fb => by kernel_rfl) rfl trivial ?_
 refine WL.done rfl (WX.next ?_)
 refine WC.ret ?_
 injection hf with hf
 subst hf
 exact WX.ret_ [] (bv true) [] (fun fb => by kernel_rfl) trivial ⟨_, rfl, rfl, hS126.keep⟩
end Gp
