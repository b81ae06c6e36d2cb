/- Walks: each function of the program computes its plain function. -/
import Derived.Test.YtjfmjfheeijfiaaDoorGx2
set_option linter.unusedVariables false
set_option linter.unusedSimpArgs false
set_option maxHeartbeats 4000000
namespace Gp
open Go Gw Go.Proofs
theorem ref03_from_calls (k : Nat) (p0 : List Row_groutworkref02) (p1 : Int) (p2 : Int) (p3 : Int) (p4 : Int) (A_p0 : Option Addr) (c_p0 : Nat) (H_p0 : Nat → HF) (r : Pattern × Bool) (w : World) (hR0 : RO NoS w (rowR encN_Row_groutworkref02 A_p0 c_p0 (tag H_p0 p0))) (hR1 : RO NoS w (nestO subN_Row_groutworkref02 H_p0 p0)) (hf : ref03_from k p0 p1 p2 p3 p4 = some r) :
  CallsR Tryd.prog 56 #[(sv A_p0 p0 c_p0), (iv p1), (iv p2), (iv p3), (iv p4)] w (fun v w' => ∃ (A1_ : Option Addr), ∃ (c1_ : Nat), v = (.tuple #[(.agg #[(iv r.1.Width), (iv r.1.Height), (sv A1_ r.1.Cells c1_)]), (bv r.2)]) ∧ St NoS w w' [] [rowO 3 encInt A1_ c1_ r.1.Cells]) := by
 have hS : St NoS w w [rowR encN_Row_groutworkref02 A_p0 c_p0 (tag H_p0 p0), nestO subN_Row_groutworkref02 H_p0 p0] [] := St.init (ro_cons hR0 (ro_cons hR1 (ro_nil _ _)))
 refine enter 150 Tryd.func56 rfl Tryd.ntmps56 rfl ?_
 unfold ref03_from at hf
 refine WC.seq ?_
 refine WC.region ?_
 refine WL.new hS 10 [] (fun g => (pt g)) (.cells #[(iv 0), (iv 0), (.slice none 0 0)] 27 (0, 0)) [] (fun fb g => by kernel_rfl) trivial (fun g5 w6 hS7 => ?_)
 refine ⟨trivial, ?_⟩
 refine seg 2 [] [0, 1, 2, 3, 4, 10] [(0, (sv A_p0 p0 c_p0)), (1, (iv p1)), (2, (iv p2)), (3, (iv p3)), (4, (iv p4)), (10, (pt g5))] [] (fun fb => by kernel_rfl) rfl trivial ?_
 refine WL.done rfl ?_
 refine WX.next ?_
 refine WC.seq ?_
 refine WC.region ?_
 refine seg 2 [] [0, 1, 2, 3, 4, 10, 20] [(0, (sv A_p0 p0 c_p0)), (1, (iv p1)), (2, (iv p2)), (3, (iv p3)), (4, (iv p4)), (10, (pt g5)), (20, (iv (w64 (p4 + 1))))] [] (fun fb => by kernel_rfl) rfl trivial ?_
 obtain ⟨h8, hf⟩ := as_some hf
 refine WL.make hS7 (e := (encSl Bool)) (T := 95) (tS := 94) (z := (.slice none 0 0)) (bytes := 24) (d := 21) (((none, 0), []) : (Option Addr × Nat) × (List Bool)) (w64 (p4 + 1)) (fun fb => by kernel_rfl) (by kernel_rfl) (by kernel_rfl) rfl (by decide) h8 (by decide) (fun g9 w10 hS11 => ?_)
 refine ⟨trivial, ?_⟩
 have hS12 : St NoS w w10 [rowR encN_Row_groutworkref02 A_p0 c_p0 (tag H_p0 p0), nestO subN_Row_groutworkref02 H_p0 p0] [rowO 95 (encSl Bool) (some ⟨g9, 0, none⟩) ((w64 (p4 + 1)).toNat) (tag hf0 (List.replicate (w64 (p4 + 1)).toNat ([] : List Bool))), blk g5 (.cells #[(iv 0), (iv 0), (.slice none 0 0)] 27 (0, 0))] := by rw [show tag hf0 (List.replicate (w64 (p4 + 1)).toNat ([] : List Bool)) = _ from tag_rep (none, 0) [] _]; exact hS11
 have hS13 := hS12.rowsNil 4 encBool (w64 (p4 + 1)).toNat
 refine WL.reE [0, 1, 2, 3, 4, 10, 21] [(0, (.slice A_p0 p0.length c_p0)), (1, (iv p1)), (2, (iv p2)), (3, (iv p3)), (4, (iv p4)), (10, (pt g5)), (21, (.slice (some ⟨g9, 0, none⟩) (List.replicate (w64 (p4 + 1)).toNat (((none, 0), []) : (Option Addr × Nat) × (List Bool))).length (w64 (p4 + 1)).toNat))] [(0, (.slice A_p0 p0.length c_p0)), (1, (iv p1)), (2, (iv p2)), (3, (iv p3)), (4, (iv p4)), (10, (pt g5)), (21, (.slice (some ⟨g9, 0, none⟩) (List.replicate (w64 (p4 + 1)).toNat ([] : List Bool)).length ((w64 (p4 + 1)).toNat)))] rfl (by simp only [List.length_replicate]) ?_
 refine seg 4 [] [0, 1, 2, 3, 4, 10, 12] [(0, (sv A_p0 p0 c_p0)), (1, (iv p1)), (2, (iv p2)), (3, (iv p3)), (4, (iv p4)), (10, (pt g5)), (12, (sv (some ⟨g9, 0, none⟩) (List.replicate (w64 (p4 + 1)).toNat ([] : List Bool)) ((w64 (p4 + 1)).toNat)))] [] (fun fb => by kernel_rfl) rfl trivial ?_
 refine WL.done rfl ?_
 refine WX.next ?_
 refine WC.seq ?_
 refine WC.region ?_
 refine seg 3 [] [0, 1, 2, 3, 4, 10, 12, 22, 23, 24] [(0, (sv A_p0 p0 c_p0)), (1, (iv p1)), (2, (iv p2)), (3, (iv p3)), (4, (iv p4)), (10, (pt g5)), (12, (sv (some ⟨g9, 0, none⟩) (List.replicate (w64 (p4 + 1)).toNat ([] : List Bool)) ((w64 (p4 + 1)).toNat))), (22, (sv (some ⟨g9, 0, none⟩) (List.replicate (w64 (p4 + 1)).toNat ([] : List Bool)) ((w64 (p4 + 1)).toNat))), (23, (iv p4)), (24, (iv p2))] [] (fun fb => by kernel_rfl) rfl trivial ?_
 obtain ⟨h14, hf⟩ := as_some hf
 refine WL.make hS13 (e := encBool) (T := 4) (tS := 95) (z := (bv false)) (bytes := 1) (d := 25) (false : Bool) p2 (fun fb => by kernel_rfl) (by kernel_rfl) (by kernel_rfl) rfl (by decide) h14 (by decide) (fun g15 w16 hS17 => ?_)
 refine ⟨trivial, ?_⟩
 obtain ⟨h18, hf⟩ := as_some hf
 refine seg 5 [] [0, 1, 2, 3, 4, 10, 12, 25, 26] [(0, (sv A_p0 p0 c_p0)), (1, (iv p1)), (2, (iv p2)), (3, (iv p3)), (4, (iv p4)), (10, (pt g5)), (12, (sv (some ⟨g9, 0, none⟩) (List.replicate (w64 (p4 + 1)).toNat ([] : List Bool)) ((w64 (p4 + 1)).toNat))), (25, (sv (some ⟨g15, 0, none⟩) (List.replicate p2.toNat (false : Bool)) p2.toNat)), (26, (.pointer (some ((adr (some ⟨g9, 0, none⟩)).add ((p4).toNat * 1)))))] [.idx (some ⟨g9, 0, none⟩) p4 (List.replicate (w64 (p4 + 1)).toNat ([] : List Bool)).length] (fun fb => by kernel_rfl) rfl ⟨nrow_adr (rowO.rd (hS17.own 2).1) h18.1 h18.2, trivial⟩ ?_
 refine WL.storeRow hS17 2 rfl (p4) (((some ⟨g15, 0, none⟩), p2.toNat), (List.replicate p2.toNat (false : Bool))) ((none, 0), []) [(0, (.slice (some ⟨g15, 0, none⟩) (List.replicate p2.toNat (false : Bool)).length p2.toNat))] (fun fb => by kernel_rfl) h18.1 (by rw [tag_length]; exact h18.2) (by kernel_rfl) (by kernel_rfl) [0, 1, 3] (by decide) (by decide) (fun w19 hS20 => ?_)
 have hS21 : St NoS w w19 [rowR encN_Row_groutworkref02 A_p0 c_p0 (tag H_p0 p0), nestO subN_Row_groutworkref02 H_p0 p0] [rowO 95 (encSl Bool) (some ⟨g9, 0, none⟩) ((w64 (p4 + 1)).toNat) (tag (updH hf0 p4.toNat ((some ⟨g15, 0, none⟩), p2.toNat)) ((List.replicate (w64 (p4 + 1)).toNat ([] : List Bool)).set p4.toNat (List.replicate p2.toNat (false : Bool)))), rowO 4 encBool (some ⟨g15, 0, none⟩) p2.toNat (List.replicate p2.toNat (false : Bool)), rowsO 4 encBool hf0 (List.replicate (w64 (p4 + 1)).toNat ([] : List Bool)), blk g5 (.cells #[(iv 0), (iv 0), (.slice none 0 0)] 27 (0, 0))] := by rw [tag_set]; exact hS20
 have hS22 : St NoS w w19 [rowR encN_Row_groutworkref02 A_p0 c_p0 (tag H_p0 p0), nestO subN_Row_groutworkref02 H_p0 p0] [rowsO 4 encBool (updH hf0 p4.toNat ((some ⟨g15, 0, none⟩), p2.toNat)) ((List.replicate (w64 (p4 + 1)).toNat ([] : List Bool)).set p4.toNat (List.replicate p2.toNat (false : Bool))), rowO 95 (encSl Bool) (some ⟨g9, 0, none⟩) ((w64 (p4 + 1)).toNat) (tag (updH hf0 p4.toNat ((some ⟨g15, 0, none⟩), p2.toNat)) ((List.replicate (w64 (p4 + 1)).toNat ([] : List Bool)).set p4.toNat (List.replicate p2.toNat (false : Bool)))), blk g5 (.cells #[(iv 0), (iv 0), (.slice none 0 0)] 27 (0, 0))] := hS21.rowsSet 2 1 rfl rfl (by decide) (p4.toNat) [0, 3] (by decide) (by decide)
 refine ⟨trivial, ?_⟩
 refine WL.reE [0, 1, 2, 3, 4, 10, 12] [(0, (.slice A_p0 p0.length c_p0)), (1, (iv p1)), (2, (iv p2)), (3, (iv p3)), (4, (iv p4)), (10, (pt g5)), (12, (.slice (some ⟨g9, 0, none⟩) (List.replicate (w64 (p4 + 1)).toNat ([] : List Bool)).length ((w64 (p4 + 1)).toNat)))] [(0, (.slice A_p0 p0.length c_p0)), (1, (iv p1)), (2, (iv p2)), (3, (iv p3)), (4, (iv p4)), (10, (pt g5)), (12, (.slice (some ⟨g9, 0, none⟩) ((List.replicate (w64 (p4 + 1)).toNat ([] : List Bool)).set p4.toNat (List.replicate p2.toNat (false : Bool))).length ((w64 (p4 + 1)).toNat)))] rfl (by simp only [List.length_set]) ?_
 refine WL.done rfl ?_
 refine WX.next ?_
 refine WC.seq ?_
 obtain ⟨h25, hf⟩ := as_some hf
 obtain ⟨h26, hf⟩ := as_some hf
 obtain ⟨h27, hf⟩ := as_some hf
 refine WC.regionD ([(3, ((adr (some ⟨g9, 0, none⟩)).add ((p4).toNat * 1)), (sv (((updH hf0 p4.toNat ((some ⟨g15, 0, none⟩), p2.toNat)) p4.toNat).1) (rdD ((List.replicate (w64 (p4 + 1)).toNat ([] : List Bool)).set p4.toNat (List.replicate p2.toNat (false : Bool))) p4 []) (((updH hf0 p4.toNat ((some ⟨g15, 0, none⟩), p2.toNat)) p4.toNat).2))), (8, (((adr A_p0).add ((p1).toNat * 3)).add 1), (iv ((rdD p0 p1 z_Row_groutworkref02).South)))], [0, 1, 2, 3, 4, 5, 6, 7, 8, 9], [[], [], [0, 1], [0, 1, 2], [], [], [4, 5], [4, 5, 6], [4, 5, 6, 7], [0, 1, 2, 3, 4, 5, 6, 7, 8], [0, 1, 2, 3, 4, 5, 6, 7, 8, 9]]) [[0, 1, 2, 3, 4, 5, 6, 7, 8, 9, 10]] (by kernel_rfl) (by kernel_rfl) (NoPanic.seq (NoPanic.body)) ?_
 have hS24 := hS22.drew
 revert hS24
 generalize World.drew w19 = w23
 intro hS24
 refine ⟨⟨nrow_cell (rowO.rd (hS24.own 1).1) [] h25.1 h25.2 0 rfl, nrow_cell (hS24.rd 0).1 z_Row_groutworkref02 h26.1 h26.2 1 rfl, trivial⟩, forallC ?_ (forallN)⟩
 refine segF 10 [.v (sv (((updH hf0 p4.toNat ((some ⟨g15, 0, none⟩), p2.toNat)) p4.toNat).1) (rdD ((List.replicate (w64 (p4 + 1)).toNat ([] : List Bool)).set p4.toNat (List.replicate p2.toNat (false : Bool))) p4 []) (((updH hf0 p4.toNat ((some ⟨g15, 0, none⟩), p2.toNat)) p4.toNat).2)), .v (iv ((rdD p0 p1 z_Row_groutworkref02).South))] [0, 1, 2, 3, 4, 10, 12, 36] [(0, (sv A_p0 p0 c_p0)), (1, (iv p1)), (2, (iv p2)), (3, (iv p3)), (4, (iv p4)), (10, (pt g5)), (12, (sv (some ⟨g9, 0, none⟩) ((List.replicate (w64 (p4 + 1)).toNat ([] : List Bool)).set p4.toNat (List.replicate p2.toNat (false : Bool))) ((w64 (p4 + 1)).toNat))), (36, (.pointer (some ((adr (((updH hf0 p4.toNat ((some ⟨g15, 0, none⟩), p2.toNat)) p4.toNat).1)).add (((rdD p0 p1 z_Row_groutworkref02).South).toNat * 1)))))] [.idx (some ⟨g9, 0, none⟩) p4 ((List.replicate (w64 (p4 + 1)).toNat ([] : List Bool)).set p4.toNat (List.replicate p2.toNat (false : Bool))).length, .idx A_p0 p1 p0.length, .idx (((updH hf0 p4.toNat ((some ⟨g15, 0, none⟩), p2.toNat)) p4.toNat).1) ((rdD p0 p1 z_Row_groutworkref02).South) (rdD ((List.replicate (w64 (p4 + 1)).toNat ([] : List Bool)).set p4.toNat (List.replicate p2.toNat (false : Bool))) p4 []).length] [0, 1] [(3, ((adr (some ⟨g9, 0, none⟩)).add ((p4).toNat * 1)), (sv (((updH hf0 p4.toNat ((some ⟨g15, 0, none⟩), p2.toNat)) p4.toNat).1) (rdD ((List.replicate (w64 (p4 + 1)).toNat ([] : List Bool)).set p4.toNat (List.replicate p2.toNat (false : Bool))) p4 []) (((updH hf0 p4.toNat ((some ⟨g15, 0, none⟩), p2.toNat)) p4.toNat).2))), (8, (((adr A_p0).add ((p1).toNat * 3)).add 1), (iv ((rdD p0 p1 z_Row_groutworkref02).South)))] (fun fb => by kernel_rfl) rfl ⟨nrow_adr (rowO.rd (hS24.own 1).1) h25.1 h25.2, nrow_adr (hS24.rd 0).1 h26.1 h26.2, rowR.adr (rowO.rd (rowsO.at (hS24.own 0).1 h25.1 h25.2)) h27.1 h27.2, trivial⟩ rfl ?_
 refine WL.storeRR hS24 0 rfl h25.1 h25.2 ((rdD p0 p1 z_Row_groutworkref02).South) (true) (false) [(0, (bv true))] (fun fb => by kernel_rfl) h27.1 h27.2 (by kernel_rfl) rfl [1, 2] (by decide) (by decide) (fun w28 hS29 => ?_)
 have hS30 : St NoS w w28 [rowR encN_Row_groutworkref02 A_p0 c_p0 (tag H_p0 p0), nestO subN_Row_groutworkref02 H_p0 p0] [rowO 95 (encSl Bool) (some ⟨g9, 0, none⟩) ((w64 (p4 + 1)).toNat) (tag (updH hf0 p4.toNat ((some ⟨g15, 0, none⟩), p2.toNat)) (((List.replicate (w64 (p4 + 1)).toNat ([] : List Bool)).set p4.toNat (List.replicate p2.toNat (false : Bool))).set p4.toNat ((rdD ((List.replicate (w64 (p4 + 1)).toNat ([] : List Bool)).set p4.toNat (List.replicate p2.toNat (false : Bool))) p4 []).set ((rdD p0 p1 z_Row_groutworkref02).South).toNat true))), rowsO 4 encBool (updH hf0 p4.toNat ((some ⟨g15, 0, none⟩), p2.toNat)) (((List.replicate (w64 (p4 + 1)).toNat ([] : List Bool)).set p4.toNat (List.replicate p2.toNat (false : Bool))).set p4.toNat ((rdD ((List.replicate (w64 (p4 + 1)).toNat ([] : List Bool)).set p4.toNat (List.replicate p2.toNat (false : Bool))) p4 []).set ((rdD p0 p1 z_Row_groutworkref02).South).toNat true)), blk g5 (.cells #[(iv 0), (iv 0), (.slice none 0 0)] 27 (0, 0))] := hS29.slRow 1 rfl (rdD_at (d := []) h25.1 h25.2) ((rdD ((List.replicate (w64 (p4 + 1)).toNat ([] : List Bool)).set p4.toNat (List.replicate p2.toNat (false : Bool))) p4 []).set ((rdD p0 p1 z_Row_groutworkref02).South).toNat true) (by simp only [List.length_set]) [0, 2] (by decide) (by decide)
 refine ⟨trivial, ?_⟩
 refine WL.reE [0, 1, 2, 3, 4, 10, 12] [(0, (.slice A_p0 p0.length c_p0)), (1, (iv p1)), (2, (iv p2)), (3, (iv p3)), (4, (iv p4)), (10, (pt g5)), (12, (.slice (some ⟨g9, 0, none⟩) ((List.replicate (w64 (p4 + 1)).toNat ([] : List Bool)).set p4.toNat (List.replicate p2.toNat (false : Bool))).length ((w64 (p4 + 1)).toNat)))] [(0, (.slice A_p0 p0.length c_p0)), (1, (iv p1)), (2, (iv p2)), (3, (iv p3)), (4, (iv p4)), (10, (pt g5)), (12, (.slice (some ⟨g9, 0, none⟩) (((List.replicate (w64 (p4 + 1)).toNat ([] : List Bool)).set p4.toNat (List.replicate p2.toNat (false : Bool))).set p4.toNat ((rdD ((List.replicate (w64 (p4 + 1)).toNat ([] : List Bool)).set p4.toNat (List.replicate p2.toNat (false : Bool))) p4 []).set ((rdD p0 p1 z_Row_groutworkref02).South).toNat true)).length ((w64 (p4 + 1)).toNat)))] rfl (by simp only [List.length_set]) ?_
 refine WL.done rfl ?_
 refine WX.next ?_
 refine WC.seq ?_
 refine WC.seq ?_
 refine WC.region ?_
 refine seg 3 [] [0, 1, 2, 3, 4, 10, 12, 13] [(0, (sv A_p0 p0 c_p0)), (1, (iv p1)), (2, (iv p2)), (3, (iv p3)), (4, (iv p4)), (10, (pt g5)), (12, (sv (some ⟨g9, 0, none⟩) (((List.replicate (w64 (p4 + 1)).toNat ([] : List Bool)).set p4.toNat (List.replicate p2.toNat (false : Bool))).set p4.toNat ((rdD ((List.replicate (w64 (p4 + 1)).toNat ([] : List Bool)).set p4.toNat (List.replicate p2.toNat (false : Bool))) p4 []).set ((rdD p0 p1 z_Row_groutworkref02).South).toNat true)) ((w64 (p4 + 1)).toNat))), (13, (iv (w64 (p4 - 1))))] [] (fun fb => by kernel_rfl) rfl trivial ?_
 refine WL.done rfl ?_
 refine WX.next ?_
 obtain ⟨x39, hx40, hf⟩ := bind_some hf
 refine WC.cutN (T := (List (List Bool)) × (Option Addr) × Nat × HF) (fun t => [(0, (sv A_p0 p0 c_p0)), (1, (iv p1)), (3, (iv p3)), (4, (iv p4)), (10, (pt g5)), (12, (sv t.2.1 t.1 t.2.2.1))]) (fun t w1 => St NoS w w1 [rowR encN_Row_groutworkref02 A_p0 c_p0 (tag H_p0 p0), nestO subN_Row_groutworkref02 H_p0 p0] [blk g5 (.cells #[(iv 0), (iv 0), (.slice none 0 0)] 27 (0, 0)), rowO 95 (encSl Bool) t.2.1 t.2.2.1 (tag t.2.2.2 t.1), rowsO 4 encBool t.2.2.2 t.1] ∧ x39 = t.1) (fun Kx39 => ?_) ?_
 ·
  refine WC.block ?_
  refine WC.loop (T := ((List (List Bool)) × Int) × (Option Addr) × Nat × HF) (fun t => [(0, (sv A_p0 p0 c_p0)), (1, (iv p1)), (2, (iv p2)), (3, (iv p3)), (4, (iv p4)), (10, (pt g5)), (12, (sv t.2.1 t.1.1 t.2.2.1)), (13, (iv t.1.2))]) (fun n t w1 => St NoS w w1 [rowR encN_Row_groutworkref02 A_p0 c_p0 (tag H_p0 p0), nestO subN_Row_groutworkref02 H_p0 p0] [blk g5 (.cells #[(iv 0), (iv 0), (.slice none 0 0)] 27 (0, 0)), rowO 95 (encSl Bool) t.2.1 t.2.2.1 (tag t.2.2.2 t.1.1), rowsO 4 encBool t.2.2.2 t.1.1] ∧ ref03_from.l0 n t.1.1 t.1.2 p0 p2 = some x39) k ((((List.replicate (w64 (p4 + 1)).toNat ([] : List Bool)).set p4.toNat (List.replicate p2.toNat (false : Bool))).set p4.toNat ((rdD ((List.replicate (w64 (p4 + 1)).toNat ([] : List Bool)).set p4.toNat (List.replicate p2.toNat (false : Bool))) p4 []).set ((rdD p0 p1 z_Row_groutworkref02).South).toNat true), w64 (p4 - 1)), (some ⟨g9, 0, none⟩), (w64 (p4 + 1)).toNat, (updH hf0 p4.toNat ((some ⟨g15, 0, none⟩), p2.toNat))) [0, 1, 2, 3, 4, 10, 12, 13] rfl ⟨(hS30.subR [0, 1]).sub [2, 0, 1] (by decide), hx40⟩ ?_
  rintro k41 ⟨⟨l33, x35⟩, A31, c32, H34⟩ w42 ⟨hS43, hl44⟩
  cases k41 with
  | zero => rw [ref03_from.l0] at hl44; cases hl44
  | succ k41 =>
   rw [ref03_from.l0] at hl44
   refine WC.seq ?_
   refine WC.seq ?_
   refine WC.region ?_
   refine seg 2 [] [0, 1, 2, 3, 4, 10, 12, 13, 40] [(0, (sv A_p0 p0 c_p0)), (1, (iv p1)), (2, (iv p2)), (3, (iv p3)), (4, (iv p4)), (10, (pt g5)), (12, (sv A31 l33 c32)), (13, (iv x35)), (40, (bv (decide (x35 > 0))))] [] (fun fb => by kernel_rfl) rfl trivial ?_
   refine WL.done rfl ?_
   refine WX.next ?_
   rcases br_some hl44 with ⟨h45, hl44⟩ | ⟨h45, hl44⟩
   ·refine WC.condT2 (fun fb => by kernel_rfl) h45 ?_
    refine WC.skip ?_
    refine WX.next ?_
    refine WC.seq ?_
    refine WC.block ?_
    refine WC.seq ?_
    refine WC.region ?_
    refine seg 3 [] [0, 1, 2, 3, 4, 10, 12, 13, 43, 44, 45] [(0, (sv A_p0 p0 c_p0)), (1, (iv p1)), (2, (iv p2)), (3, (iv p3)), (4, (iv p4)), (10, (pt g5)), (12, (sv A31 l33 c32)), (13, (iv x35)), (43, (sv A31 l33 c32)), (44, (iv x35)), (45, (iv p2))] [] (fun fb => by kernel_rfl) rfl trivial ?_
    obtain ⟨h46, hl44⟩ := as_some hl44
    refine WL.make hS43 (e := encBool) (T := 4) (tS := 95) (z := (bv false)) (bytes := 1) (d := 46) (false : Bool) p2 (fun fb => by kernel_rfl) (by kernel_rfl) (by kernel_rfl) rfl (by decide) h46 (by decide) (fun g47 w48 hS49 => ?_)
    refine ⟨trivial, ?_⟩
    obtain ⟨h50, hl44⟩ := as_some hl44
    refine seg 5 [] [0, 1, 2, 3, 4, 10, 12, 13, 46, 47] [(0, (sv A_p0 p0 c_p0)), (1, (iv p1)), (2, (iv p2)), (3, (iv p3)), (4, (iv p4)), (10, (pt g5)), (12, (sv A31 l33 c32)), (13, (iv x35)), (46, (sv (some ⟨g47, 0, none⟩) (List.replicate p2.toNat (false : Bool)) p2.toNat)), (47, (.pointer (some ((adr A31).add ((x35).toNat * 1)))))] [.idx A31 x35 l33.length] (fun fb => by kernel_rfl) rfl ⟨nrow_adr (rowO.rd (hS49.own 2).1) h50.1 h50.2, trivial⟩ ?_
    refine WL.storeRow hS49 2 rfl (x35) (((some ⟨g47, 0, none⟩), p2.toNat), (List.replicate p2.toNat (false : Bool))) ((none, 0), []) [(0, (.slice (some ⟨g47, 0, none⟩) (List.replicate p2.toNat (false : Bool)).length p2.toNat))] (fun fb => by kernel_rfl) h50.1 (by rw [tag_length]; exact h50.2) (by kernel_rfl) (by kernel_rfl) [0, 1, 3] (by decide) (by decide) (fun w51 hS52 => ?_)
    have hS53 : St NoS w w51 [rowR encN_Row_groutworkref02 A_p0 c_p0 (tag H_p0 p0), nestO subN_Row_groutworkref02 H_p0 p0] [rowO 95 (encSl Bool) A31 c32 (tag (updH H34 x35.toNat ((some ⟨g47, 0, none⟩), p2.toNat)) (l33.set x35.toNat (List.replicate p2.toNat (false : Bool)))), rowO 4 encBool (some ⟨g47, 0, none⟩) p2.toNat (List.replicate p2.toNat (false : Bool)), blk g5 (.cells #[(iv 0), (iv 0), (.slice none 0 0)] 27 (0, 0)), rowsO 4 encBool H34 l33] := by rw [tag_set]; exact hS52
    have hS54 : St NoS w w51 [rowR encN_Row_groutworkref02 A_p0 c_p0 (tag H_p0 p0), nestO subN_Row_groutworkref02 H_p0 p0] [rowsO 4 encBool (updH H34 x35.toNat ((some ⟨g47, 0, none⟩), p2.toNat)) (l33.set x35.toNat (List.replicate p2.toNat (false : Bool))), rowO 95 (encSl Bool) A31 c32 (tag (updH H34 x35.toNat ((some ⟨g47, 0, none⟩), p2.toNat)) (l33.set x35.toNat (List.replicate p2.toNat (false : Bool)))), blk g5 (.cells #[(iv 0), (iv 0), (.slice none 0 0)] 27 (0, 0))] := hS53.rowsSet 3 1 rfl rfl (by decide) (x35.toNat) [0, 2] (by decide) (by decide)
    refine ⟨trivial, ?_⟩
    refine WL.reE [0, 1, 2, 3, 4, 10, 12, 13] [(0, (.slice A_p0 p0.length c_p0)), (1, (iv p1)), (2, (iv p2)), (3, (iv p3)), (4, (iv p4)), (10, (pt g5)), (12, (.slice A31 l33.length c32)), (13, (iv x35))] [(0, (.slice A_p0 p0.length c_p0)), (1, (iv p1)), (2, (iv p2)), (3, (iv p3)), (4, (iv p4)), (10, (pt g5)), (12, (.slice A31 (l33.set x35.toNat (List.replicate p2.toNat (false : Bool))).length c32)), (13, (iv x35))] rfl (by simp only [List.length_set]) ?_
    refine WL.done rfl ?_
    refine WX.next ?_
    refine WC.seq ?_
    refine WC.region ?_
    refine seg 1 [] [0, 1, 2, 3, 4, 10, 12, 13, 14] [(0, (sv A_p0 p0 c_p0)), (1, (iv p1)), (2, (iv p2)), (3, (iv p3)), (4, (iv p4)), (10, (pt g5)), (12, (sv A31 (l33.set x35.toNat (List.replicate p2.toNat (false : Bool))) c32)), (13, (iv x35)), (14, (iv 0))] [] (fun fb => by kernel_rfl) rfl trivial ?_
    refine WL.done rfl ?_
    refine WX.next ?_
    obtain ⟨x65, hx66, hl44⟩ := bind_some hl44
    refine WC.cutN (T := (List (List Bool)) × (Option Addr) × Nat × HF) (fun t => [(0, (sv A_p0 p0 c_p0)), (1, (iv p1)), (2, (iv p2)), (3, (iv p3)), (4, (iv p4)), (10, (pt g5)), (12, (sv t.2.1 t.1 t.2.2.1)), (13, (iv x35))]) (fun t w1 => St NoS w w1 [rowR encN_Row_groutworkref02 A_p0 c_p0 (tag H_p0 p0), nestO subN_Row_groutworkref02 H_p0 p0] [blk g5 (.cells #[(iv 0), (iv 0), (.slice none 0 0)] 27 (0, 0)), rowO 95 (encSl Bool) t.2.1 t.2.2.1 (tag t.2.2.2 t.1), rowsO 4 encBool t.2.2.2 t.1] ∧ x65 = t.1) (fun Kx65 => ?_) ?_
    ·
     refine WC.block ?_
     refine WC.loop (T := ((List (List Bool)) × Int) × (Option Addr) × Nat × HF) (fun t => [(0, (sv A_p0 p0 c_p0)), (1, (iv p1)), (2, (iv p2)), (3, (iv p3)), (4, (iv p4)), (10, (pt g5)), (12, (sv t.2.1 t.1.1 t.2.2.1)), (13, (iv x35)), (14, (iv t.1.2))]) (fun n t w1 => St NoS w w1 [rowR encN_Row_groutworkref02 A_p0 c_p0 (tag H_p0 p0), nestO subN_Row_groutworkref02 H_p0 p0] [blk g5 (.cells #[(iv 0), (iv 0), (.slice none 0 0)] 27 (0, 0)), rowO 95 (encSl Bool) t.2.1 t.2.2.1 (tag t.2.2.2 t.1.1), rowsO 4 encBool t.2.2.2 t.1.1] ∧ ref03_from.l1 n t.1.1 t.1.2 p0 x35 = some x65) k41 ((l33.set x35.toNat (List.replicate p2.toNat (false : Bool)), 0), A31, c32, (updH H34 x35.toNat ((some ⟨g47, 0, none⟩), p2.toNat))) [0, 1, 2, 3, 4, 10, 12, 13, 14] rfl ⟨(hS54.subR [0, 1]).sub [2, 1, 0] (by decide), hx66⟩ ?_
     rintro k67 ⟨⟨l58, x60⟩, A55, c57, H59⟩ w68 ⟨hS69, hl70⟩
     cases k67 with
     | zero => rw [ref03_from.l1] at hl70; cases hl70
     | succ k67 =>
      rw [ref03_from.l1] at hl70
      refine WC.seq ?_
      refine WC.seq ?_
      refine WC.region ?_
      refine seg 4 [] [0, 1, 2, 3, 4, 10, 12, 13, 14, 51] [(0, (sv A_p0 p0 c_p0)), (1, (iv p1)), (2, (iv p2)), (3, (iv p3)), (4, (iv p4)), (10, (pt g5)), (12, (sv A55 l58 c57)), (13, (iv x35)), (14, (iv x60)), (51, (bv (decide (x60 < (p0.length : Int)))))] [] (fun fb => by kernel_rfl) rfl trivial ?_
      refine WL.done rfl ?_
      refine WX.next ?_
      rcases br_some hl70 with ⟨h71, hl70⟩ | ⟨h71, hl70⟩
      ·refine WC.condT2 (fun fb => by kernel_rfl) h71 ?_
       refine WC.skip ?_
       refine WX.next ?_
       refine WC.seq ?_
       refine WC.block ?_
       refine WC.seq ?_
       obtain ⟨h74, hl70⟩ := as_some hl70
       obtain ⟨h75, hl70⟩ := as_some hl70
       obtain ⟨h76, hl70⟩ := as_some hl70
       refine WC.regionD ([(4, ((adr A55).add ((w64 (x35 + 1)).toNat * 1)), (sv ((H59 (w64 (x35 + 1)).toNat).1) (rdD l58 (w64 (x35 + 1)) []) ((H59 (w64 (x35 + 1)).toNat).2))), (9, (((adr A_p0).add ((x60).toNat * 3)).add 2), (iv ((rdD p0 x60 z_Row_groutworkref02).North))), (11, ((adr ((H59 (w64 (x35 + 1)).toNat).1)).add (((rdD p0 x60 z_Row_groutworkref02).North).toNat * 1)), (bv (rdD (rdD l58 (w64 (x35 + 1)) []) ((rdD p0 x60 z_Row_groutworkref02).North) false)))], [0, 1, 2, 3, 4, 5, 6, 7, 8, 9, 10, 11], [[], [], [1], [0, 1, 2], [0, 1, 2, 3], [], [], [5, 6], [5, 6, 7], [5, 6, 7, 8], [0, 1, 2, 3, 4, 5, 6, 7, 8, 9], [0, 1, 2, 3, 4, 5, 6, 7, 8, 9, 10]]) [[0, 1, 2, 3, 4, 5, 6, 7, 8, 9, 10, 11]] (by kernel_rfl) (by kernel_rfl) (NoPanic.seq (NoPanic.block (NoPanic.seq (NoPanic.seq (NoPanic.block (NoPanic.block (NoPanic.seq (NoPanic.seq (NoPanic.block (NoPanic.seq (NoPanic.body))))))))))) ?_
       have hS73 := hS69.drew
       revert hS73
       generalize World.drew w68 = w72
       intro hS73
       refine ⟨⟨nrow_cell (rowO.rd (hS73.own 1).1) [] h74.1 h74.2 0 rfl, nrow_cell (hS73.rd 0).1 z_Row_groutworkref02 h75.1 h75.2 2 rfl, rowR.cell (rowO.rd (rowsO.at (hS73.own 2).1 h74.1 h74.2)) false h76.1 h76.2 0 rfl, trivial⟩, forallC ?_ (forallN)⟩
       refine segF 12 [.v (sv ((H59 (w64 (x35 + 1)).toNat).1) (rdD l58 (w64 (x35 + 1)) []) ((H59 (w64 (x35 + 1)).toNat).2)), .v (iv ((rdD p0 x60 z_Row_groutworkref02).North)), .v (bv (rdD (rdD l58 (w64 (x35 + 1)) []) ((rdD p0 x60 z_Row_groutworkref02).North) false))] [0, 1, 2, 3, 4, 10, 12, 13, 14, 65] [(0, (sv A_p0 p0 c_p0)), (1, (iv p1)), (2, (iv p2)), (3, (iv p3)), (4, (iv p4)), (10, (pt g5)), (12, (sv A55 l58 c57)), (13, (iv x35)), (14, (iv x60)), (65, (bv (rdD (rdD l58 (w64 (x35 + 1)) []) ((rdD p0 x60 z_Row_groutworkref02).North) false)))] [.idx A55 (w64 (x35 + 1)) l58.length, .idx A_p0 x60 p0.length, .idx ((H59 (w64 (x35 + 1)).toNat).1) ((rdD p0 x60 z_Row_groutworkref02).North) (rdD l58 (w64 (x35 + 1)) []).length] [0, 1, 2] [(4, ((adr A55).add ((w64 (x35 + 1)).toNat * 1)), (sv ((H59 (w64 (x35 + 1)).toNat).1) (rdD l58 (w64 (x35 + 1)) []) ((H59 (w64 (x35 + 1)).toNat).2))), (9, (((adr A_p0).add ((x60).toNat * 3)).add 2), (iv ((rdD p0 x60 z_Row_groutworkref02).North))), (11, ((adr ((H59 (w64 (x35 + 1)).toNat).1)).add (((rdD p0 x60 z_Row_groutworkref02).North).toNat * 1)), (bv (rdD (rdD l58 (w64 (x35 + 1)) []) ((rdD p0 x60 z_Row_groutworkref02).North) false)))] (fun fb => by kernel_rfl) rfl ⟨nrow_adr (rowO.rd (hS73.own 1).1) h74.1 h74.2, nrow_adr (hS73.rd 0).1 h75.1 h75.2, rowR.adr (rowO.rd (rowsO.at (hS73.own 2).1 h74.1 h74.2)) h76.1 h76.2, trivial⟩ rfl ?_
       refine WL.done rfl ?_
       refine WX.next ?_
       obtain ⟨x80, hx81, hl70⟩ := bind_some hl70
       refine WC.cutN (T := (List (List Bool)) × (Option Addr) × Nat × HF) (fun t => [(0, (sv A_p0 p0 c_p0)), (1, (iv p1)), (2, (iv p2)), (3, (iv p3)), (4, (iv p4)), (10, (pt g5)), (12, (sv t.2.1 t.1 t.2.2.1)), (13, (iv x35)), (14, (iv x60))]) (fun t w1 => St NoS w w1 [rowR encN_Row_groutworkref02 A_p0 c_p0 (tag H_p0 p0), nestO subN_Row_groutworkref02 H_p0 p0] [blk g5 (.cells #[(iv 0), (iv 0), (.slice none 0 0)] 27 (0, 0)), rowO 95 (encSl Bool) t.2.1 t.2.2.1 (tag t.2.2.2 t.1), rowsO 4 encBool t.2.2.2 t.1] ∧ x80 = t.1) (fun Kx80 => ?_) ?_
       ·
        rcases br_some hx81 with ⟨h82, hx81⟩ | ⟨h82, hx81⟩
        ·refine WC.condT2 (fun fb => by kernel_rfl) h82 ?_
         obtain ⟨h85, hx81⟩ := as_some hx81
         obtain ⟨h86, hx81⟩ := as_some hx81
         refine WC.regionD ([(3, ((adr A55).add ((x35).toNat * 1)), (sv ((H59 x35.toNat).1) (rdD l58 x35 []) ((H59 x35.toNat).2))), (8, (((adr A_p0).add ((x60).toNat * 3)).add 1), (iv ((rdD p0 x60 z_Row_groutworkref02).South)))], [0, 1, 2, 3, 4, 5, 6, 7, 8, 9], [[], [], [0, 1], [0, 1, 2], [], [], [4, 5], [4, 5, 6], [4, 5, 6, 7], [0, 1, 2, 3, 4, 5, 6, 7, 8], [0, 1, 2, 3, 4, 5, 6, 7, 8, 9]]) [[0, 1, 2, 3, 4, 5, 6, 7, 8, 9, 10]] (by kernel_rfl) (by kernel_rfl) (NoPanic.block (NoPanic.seq (NoPanic.seq (NoPanic.block (NoPanic.block (NoPanic.seq (NoPanic.seq (NoPanic.block (NoPanic.seq (NoPanic.body)))))))))) ?_
         have hS84 := hS73.drew
         revert hS84
         generalize World.drew w72 = w83
         intro hS84
         refine ⟨⟨nrow_cell (rowO.rd (hS84.own 1).1) [] h85.1 h85.2 0 rfl, nrow_cell (hS84.rd 0).1 z_Row_groutworkref02 h75.1 h75.2 1 rfl, trivial⟩, forallC ?_ (forallN)⟩
         refine segF 10 [.v (sv ((H59 x35.toNat).1) (rdD l58 x35 []) ((H59 x35.toNat).2)), .v (iv ((rdD p0 x60 z_Row_groutworkref02).South))] [0, 1, 2, 3, 4, 10, 12, 13, 14, 75] [(0, (sv A_p0 p0 c_p0)), (1, (iv p1)), (2, (iv p2)), (3, (iv p3)), (4, (iv p4)), (10, (pt g5)), (12, (sv A55 l58 c57)), (13, (iv x35)), (14, (iv x60)), (75, (.pointer (some ((adr ((H59 x35.toNat).1)).add (((rdD p0 x60 z_Row_groutworkref02).South).toNat * 1)))))] [.idx A55 x35 l58.length, .idx A_p0 x60 p0.length, .idx ((H59 x35.toNat).1) ((rdD p0 x60 z_Row_groutworkref02).South) (rdD l58 x35 []).length] [0, 1] [(3, ((adr A55).add ((x35).toNat * 1)), (sv ((H59 x35.toNat).1) (rdD l58 x35 []) ((H59 x35.toNat).2))), (8, (((adr A_p0).add ((x60).toNat * 3)).add 1), (iv ((rdD p0 x60 z_Row_groutworkref02).South)))] (fun fb => by kernel_rfl) rfl ⟨nrow_adr (rowO.rd (hS84.own 1).1) h85.1 h85.2, nrow_adr (hS84.rd 0).1 h75.1 h75.2, rowR.adr (rowO.rd (rowsO.at (hS84.own 2).1 h85.1 h85.2)) h86.1 h86.2, trivial⟩ rfl ?_
         refine WL.storeRR hS84 2 rfl h85.1 h85.2 ((rdD p0 x60 z_Row_groutworkref02).South) (true) (false) [(0, (bv true))] (fun fb => by kernel_rfl) h86.1 h86.2 (by kernel_rfl) rfl [0, 1] (by decide) (by decide) (fun w87 hS88 => ?_)
         have hS89 : St NoS w w87 [rowR encN_Row_groutworkref02 A_p0 c_p0 (tag H_p0 p0), nestO subN_Row_groutworkref02 H_p0 p0] [rowO 95 (encSl Bool) A55 c57 (tag H59 (l58.set x35.toNat ((rdD l58 x35 []).set ((rdD p0 x60 z_Row_groutworkref02).South).toNat true))), rowsO 4 encBool H59 (l58.set x35.toNat ((rdD l58 x35 []).set ((rdD p0 x60 z_Row_groutworkref02).South).toNat true)), blk g5 (.cells #[(iv 0), (iv 0), (.slice none 0 0)] 27 (0, 0))] := hS88.slRow 2 rfl (rdD_at (d := []) h85.1 h85.2) ((rdD l58 x35 []).set ((rdD p0 x60 z_Row_groutworkref02).South).toNat true) (by simp only [List.length_set]) [0, 1] (by decide) (by decide)
         refine ⟨trivial, ?_⟩
         refine WL.reE [0, 1, 2, 3, 4, 10, 12, 13, 14] [(0, (.slice A_p0 p0.length c_p0)), (1, (iv p1)), (2, (iv p2)), (3, (iv p3)), (4, (iv p4)), (10, (pt g5)), (12, (.slice A55 l58.length c57)), (13, (iv x35)), (14, (iv x60))] [(0, (.slice A_p0 p0.length c_p0)), (1, (iv p1)), (2, (iv p2)), (3, (iv p3)), (4, (iv p4)), (10, (pt g5)), (12, (.slice A55 (l58.set x35.toNat ((rdD l58 x35 []).set ((rdD p0 x60 z_Row_groutworkref02).South).toNat true)).length c57)), (13, (iv x35)), (14, (iv x60))] rfl (by simp only [List.length_set]) ?_
         refine WL.done rfl ?_
         injection hx81 with hx81
         exact WX.to Kx80 (l58.set x35.toNat ((rdD l58 x35 []).set ((rdD p0 x60 z_Row_groutworkref02).South).toNat true), A55, c57, H59) [0, 1, 2, 3, 4, 10, 12, 13, 14] rfl ⟨(hS89.subR [0, 1]).sub [2, 0, 1] (by decide), hx81.symm⟩
        refine WC.condF2 (fun fb => by kernel_rfl) h82 ?_
        refine WC.skip ?_
        injection hx81 with hx81
        exact WX.to Kx80 (l58, A55, c57, H59) [0, 1, 2, 3, 4, 10, 12, 13, 14] rfl ⟨(hS73.subR [0, 1]).sub [0, 1, 2] (by decide), hx81.symm⟩
       rintro ⟨y93, A77, c78, H79⟩ w90 ⟨hS91, hq92⟩
       subst hq92
       refine WX.blockN (WX.next ?_)
       refine WC.region ?_
       refine seg 3 [] [0, 1, 2, 3, 4, 10, 12, 13, 14] [(0, (sv A_p0 p0 c_p0)), (1, (iv p1)), (2, (iv p2)), (3, (iv p3)), (4, (iv p4)), (10, (pt g5)), (12, (sv A77 x80 c78)), (13, (iv x35)), (14, (iv (w64 (x60 + 1))))] [] (fun fb => by kernel_rfl) rfl trivial ?_
       refine WL.done rfl ?_
       exact WX.again k67 (Nat.lt_succ_self _) ((x80, w64 (x60 + 1)), A77, c78, H79) [0, 1, 2, 3, 4, 10, 12, 13, 14] rfl ⟨(hS91.subR [0, 1]).sub [0, 1, 2] (by decide), hl70⟩
      refine WC.condF2 (fun fb => by kernel_rfl) h71 ?_
      refine WC.exit ?_
      injection hl70 with hl70
      exact WX.thenX (WX.thenX (WX.blockHere (WX.to Kx65 (l58, A55, c57, H59) [0, 1, 2, 3, 4, 10, 12, 13] rfl ⟨(hS69.subR [0, 1]).sub [0, 1, 2] (by decide), hl70.symm⟩)))
    rintro ⟨y97, A61, c62, H63⟩ w94 ⟨hS95, hq96⟩
    subst hq96
    refine WX.blockN (WX.next ?_)
    refine WC.region ?_
    refine seg 3 [] [0, 1, 2, 3, 4, 10, 12, 13] [(0, (sv A_p0 p0 c_p0)), (1, (iv p1)), (2, (iv p2)), (3, (iv p3)), (4, (iv p4)), (10, (pt g5)), (12, (sv A61 x65 c62)), (13, (iv (w64 (x35 - 1))))] [] (fun fb => by kernel_rfl) rfl trivial ?_
    refine WL.done rfl ?_
    exact WX.again k41 (Nat.lt_succ_self _) ((x65, w64 (x35 - 1)), A61, c62, H63) [0, 1, 2, 3, 4, 10, 12, 13] rfl ⟨(hS95.subR [0, 1]).sub [0, 1, 2] (by decide), hl44⟩
   refine WC.condF2 (fun fb => by kernel_rfl) h45 ?_
   refine WC.exit ?_
   injection hl44 with hl44
   exact WX.thenX (WX.thenX (WX.blockHere (WX.to Kx39 (l33, A31, c32, H34) [0, 1, 3, 4, 10, 12] rfl ⟨(hS43.subR [0, 1]).sub [0, 1, 2] (by decide), hl44.symm⟩)))
 rintro ⟨y101, A36, c37, H38⟩ w98 ⟨hS99, hq100⟩
 subst hq100
 refine WX.next ?_
 refine WC.seq ?_
 refine WC.seq ?_
 obtain ⟨h104, hf⟩ := as_some hf
 obtain ⟨h105, hf⟩ := as_some hf
 refine WC.regionD ([(2, ((adr A36).add (((1 : Int)).toNat * 1)), (sv ((H38 (1 : Int).toNat).1) (rdD x39 (1 : Int) []) ((H38 (1 : Int).toNat).2))), (7, (((adr A_p0).add ((p1).toNat * 3)).add 2), (iv ((rdD p0 p1 z_Row_groutworkref02).North))), (9, ((adr ((H38 (1 : Int).toNat).1)).add (((rdD p0 p1 z_Row_groutworkref02).North).toNat * 1)), (bv (rdD (rdD x39 (1 : Int) []) ((rdD p0 p1 z_Row_groutworkref02).North) false)))], [0, 1, 2, 3, 4, 5, 6, 7, 8, 9, 10], [[], [0], [0, 1], [], [], [3, 4], [3, 4, 5], [3, 4, 5, 6], [0, 1, 2, 3, 4, 5, 6, 7], [0, 1, 2, 3, 4, 5, 6, 7, 8], [0, 1, 2, 3, 4, 5, 6, 7, 8, 9]]) [[0, 1, 2, 3, 4, 5, 6, 7, 8, 9, 10]] (by kernel_rfl) (by kernel_rfl) (NoPanic.seq (NoPanic.seq (NoPanic.body))) ?_
 have hS103 := hS99.drew
 revert hS103
 generalize World.drew w98 = w102
 intro hS103
 refine ⟨⟨nrow_cell (rowO.rd (hS103.own 1).1) [] h104.1 h104.2 0 rfl, nrow_cell (hS103.rd 0).1 z_Row_groutworkref02 h26.1 h26.2 2 rfl, rowR.cell (rowO.rd (rowsO.at (hS103.own 2).1 h104.1 h104.2)) false h105.1 h105.2 0 rfl, trivial⟩, forallC ?_ (forallN)⟩
 refine segF 11 [.v (sv ((H38 (1 : Int).toNat).1) (rdD x39 (1 : Int) []) ((H38 (1 : Int).toNat).2)), .v (iv ((rdD p0 p1 z_Row_groutworkref02).North)), .v (bv (rdD (rdD x39 (1 : Int) []) ((rdD p0 p1 z_Row_groutworkref02).North) false))] [0, 1, 3, 4, 10, 12, 86] [(0, (sv A_p0 p0 c_p0)), (1, (iv p1)), (3, (iv p3)), (4, (iv p4)), (10, (pt g5)), (12, (sv A36 x39 c37)), (86, (bv (!(rdD (rdD x39 (1 : Int) []) ((rdD p0 p1 z_Row_groutworkref02).North) false))))] [.idx A36 (1 : Int) x39.length, .idx A_p0 p1 p0.length, .idx ((H38 (1 : Int).toNat).1) ((rdD p0 p1 z_Row_groutworkref02).North) (rdD x39 (1 : Int) []).length] [0, 1, 2] [(2, ((adr A36).add (((1 : Int)).toNat * 1)), (sv ((H38 (1 : Int).toNat).1) (rdD x39 (1 : Int) []) ((H38 (1 : Int).toNat).2))), (7, (((adr A_p0).add ((p1).toNat * 3)).add 2), (iv ((rdD p0 p1 z_Row_groutworkref02).North))), (9, ((adr ((H38 (1 : Int).toNat).1)).add (((rdD p0 p1 z_Row_groutworkref02).North).toNat * 1)), (bv (rdD (rdD x39 (1 : Int) []) ((rdD p0 p1 z_Row_groutworkref02).North) false)))] (fun fb => by kernel_rfl) rfl ⟨nrow_adr (rowO.rd (hS103.own 1).1) h104.1 h104.2, nrow_adr (hS103.rd 0).1 h26.1 h26.2, rowR.adr (rowO.rd (rowsO.at (hS103.own 2).1 h104.1 h104.2)) h105.1 h105.2, trivial⟩ rfl ?_
 refine WL.done rfl ?_
 refine WX.next ?_
 rcases br_some hf with ⟨h106, hf⟩ | ⟨h106, hf⟩
 ·refine WC.condT2 (fun fb => by kernel_rfl) h106 ?_
  refine WC.seq ?_
  refine WC.region ?_
  refine seg 1 [] [10, 87] [(10, (pt g5)), (87, (.agg #[(iv 0), (iv 0), (.slice none 0 0)]))] [] (fun fb => by kernel_rfl) rfl trivial ?_
  refine WL.store hS103 0 rfl [(0, (iv 0)), (1, (iv 0)), (2, (.slice none 0 0))] #[(iv 0), (iv 0), (.slice none 0 0)] (fun fb => by kernel_rfl) (by kernel_rfl) rfl [1, 2] (by decide) (by decide) (fun w107 hS108 => ?_)
  refine ⟨trivial, ?_⟩
  refine seg 3 [] [10, 11] [(10, (pt g5)), (11, (bv false))] [] (fun fb => by kernel_rfl) rfl trivial ?_
  refine WL.done rfl ?_
  refine WX.next ?_
  refine WC.ret ?_
  have hS109 := hS108.nilrow 3 encInt
  injection hf with hf
  subst hf
  exact WX.thenR (WX.ret_ [.v (iv 0), .v (iv 0), .v (.slice none 0 0)] (.tuple #[(.agg #[(iv 0), (iv 0), (sv none ([] : List Int) 0)]), (bv false)]) [.cell ⟨g5, 0, none⟩ (iv 0), .cell ⟨g5, 1, none⟩ (iv 0), .cell ⟨g5, 2, none⟩ (.slice none 0 0)] (fun fb => by kernel_rfl) ⟨hS108.cell 0 rfl 0 rfl, hS108.cell 0 rfl 1 rfl, hS108.cell 0 rfl 2 rfl, trivial⟩ ⟨_, rfl, none, 0, rfl, (hS109.sub [0] (by decide)).noR⟩)
 refine WC.condF2 (fun fb => by kernel_rfl) h106 ?_
 refine WC.skip ?_
 refine WX.next ?_
 refine WC.seq ?_
 refine WC.region ?_
 refine seg 2 [] [0, 1, 4, 10, 12, 88, 89] [(0, (sv A_p0 p0 c_p0)), (1, (iv p1)), (4, (iv p4)), (10, (pt g5)), (12, (sv A36 x39 c37)), (88, (iv p3)), (89, (iv p4))] [] (fun fb => by kernel_rfl) rfl trivial ?_
 refine WL.new hS103 90 [] (fun g => (.slice (some ⟨g, 0, none⟩) 0 0)) (.cells #[] 3 (0, 0)) [] (fun fb g => by kernel_rfl) trivial (fun g110 w111 hS112 => ?_)
 refine ⟨trivial, ?_⟩
 have hS113 : St NoS w w111 [rowR encN_Row_groutworkref02 A_p0 c_p0 (tag H_p0 p0), nestO subN_Row_groutworkref02 H_p0 p0] [rowO 3 encInt (some ⟨g110, 0, none⟩) 0 ([] : List Int), blk g5 (.cells #[(iv 0), (iv 0), (.slice none 0 0)] 27 (0, 0)), rowO 95 (encSl Bool) A36 c37 (tag H38 x39), rowsO 4 encBool H38 x39] := hS112.map1 0 _ (fun h => rowO.ofBlk h rfl (Nat.le_of_ble_eq_true (by kernel_rfl))) (fun _ h => by obtain ⟨_, h1, h2⟩ := h; injection h1 with h1; subst h1; exact h2) [1, 2, 3] (by decide) (by decide)
 refine seg 8 [.v (sv ((H_p0 p1.toNat 0).1) ((rdD p0 p1 z_Row_groutworkref02).Cells) ((H_p0 p1.toNat 0).2))] [0, 1, 4, 10, 12, 88, 89, 90, 95] [(0, (sv A_p0 p0 c_p0)), (1, (iv p1)), (4, (iv p4)), (10, (pt g5)), (12, (sv A36 x39 c37)), (88, (iv p3)), (89, (iv p4)), (90, (sv (some ⟨g110, 0, none⟩) ([] : List Int) 0)), (95, (sv ((H_p0 p1.toNat 0).1) ((rdD p0 p1 z_Row_groutworkref02).Cells) ((H_p0 p1.toNat 0).2)))] [.idx A_p0 p1 p0.length, .cell ((adr A_p0).add ((p1).toNat * 3)) (sv ((H_p0 p1.toNat 0).1) ((rdD p0 p1 z_Row_groutworkref02).Cells) ((H_p0 p1.toNat 0).2))] (fun fb => by kernel_rfl) rfl ⟨nrow_adr (hS113.rd 0).1 h26.1 h26.2, nrow_cell (hS113.rd 0).1 z_Row_groutworkref02 h26.1 h26.2 0 rfl, trivial⟩ ?_
 obtain ⟨h114, hf⟩ := as_some hf
 refine WL.append hS113 0 (d := 96) (tS := 25) (z := (iv 0)) (bytes := 8) (c2 := (H_p0 p1.toNat 0).2) rfl (fun fb => by kernel_rfl) (nestO.at (hS113.rd 1).1 z_Row_groutworkref02 h26.1 h26.2) (by kernel_rfl) (by kernel_rfl) rfl (by decide) h114 (by decide) [1, 2, 3] (by decide) (by decide) (fun A115 c116 w117 hS118 => ?_)
 refine ⟨trivial, ?_⟩
 refine seg 10 [] [0, 1, 4, 10, 12, 97] [(0, (sv A_p0 p0 c_p0)), (1, (iv p1)), (4, (iv p4)), (10, (pt g5)), (12, (sv A36 x39 c37)), (97, (.agg #[(iv p3), (iv p4), (sv A115 (([] : List Int) ++ ((rdD p0 p1 z_Row_groutworkref02).Cells)) c116)]))] [] (fun fb => by kernel_rfl) rfl trivial ?_
 refine WL.new hS118 15 [] (fun g => (pt g)) (.cells #[(iv 0), (iv 0), (.slice none 0 0)] 27 (0, 0)) [] (fun fb g => by kernel_rfl) trivial (fun g119 w120 hS121 => ?_)
 refine ⟨trivial, ?_⟩
 refine WL.store hS121 0 rfl [(0, (iv p3)), (1, (iv p4)), (2, (sv A115 (([] : List Int) ++ ((rdD p0 p1 z_Row_groutworkref02).Cells)) c116))] #[(iv p3), (iv p4), (sv A115 (([] : List Int) ++ ((rdD p0 p1 z_Row_groutworkref02).Cells)) c116)] (fun fb => by kernel_rfl) (by kernel_rfl) rfl [1, 2, 3, 4] (by decide) (by decide) (fun w122 hS123 => ?_)
 refine ⟨trivial, ?_⟩
 refine WL.done rfl ?_
 refine WX.next ?_
 refine WC.seq ?_
 refine WC.region ?_
 refine seg 6 [.v (iv ((rdD p0 p1 z_Row_groutworkref02).North))] [0, 4, 10, 12, 15, 16] [(0, (sv A_p0 p0 c_p0)), (4, (iv p4)), (10, (pt g5)), (12, (sv A36 x39 c37)), (15, (pt g119)), (16, (iv ((rdD p0 p1 z_Row_groutworkref02).North)))] [.idx A_p0 p1 p0.length, .cell (((adr A_p0).add ((p1).toNat * 3)).add 2) (iv ((rdD p0 p1 z_Row_groutworkref02).North))] (fun fb => by kernel_rfl) rfl ⟨nrow_adr (hS123.rd 0).1 h26.1 h26.2, nrow_cell (hS123.rd 0).1 z_Row_groutworkref02 h26.1 h26.2 2 rfl, trivial⟩ ?_
 refine WL.done rfl ?_
 refine WX.next ?_
 refine WC.seq ?_
 refine WC.seq ?_
 refine WC.region ?_
 refine seg 1 [] [0, 4, 10, 12, 15, 16, 17] [(0, (sv A_p0 p0 c_p0)), (4, (iv p4)), (10, (pt g5)), (12, (sv A36 x39 c37)), (15, (pt g119)), (16, (iv ((rdD p0 p1 z_Row_groutworkref02).North))), (17, (iv 1))] [] (fun fb => by kernel_rfl) rfl trivial ?_
 refine WL.done rfl ?_
 refine WX.next ?_
 obtain ⟨x131, hx132, hf⟩ := bind_some hf
 refine WC.cutN (T := (List Int) × (Option Addr) × Nat) (fun t => [(10, (pt g5)), (15, (pt g119))]) (fun t w1 => St NoS w w1 [rowR encN_Row_groutworkref02 A_p0 c_p0 (tag H_p0 p0), nestO subN_Row_groutworkref02 H_p0 p0] [blk g5 (.cells #[(iv 0), (iv 0), (.slice none 0 0)] 27 (0, 0)), blk g119 (.cells #[(iv p3), (iv p4), (sv t.2.1 t.1 t.2.2)] 27 (0, 0)), rowO 3 encInt t.2.1 t.2.2 t.1] ∧ x131 = t.1) (fun Kx131 => ?_) ?_
 ·
  refine WC.block ?_
  refine WC.loop (T := ((List Int) × Int × Int) × (Option Addr) × Nat) (fun t => [(0, (sv A_p0 p0 c_p0)), (4, (iv p4)), (10, (pt g5)), (12, (sv A36 x39 c37)), (15, (pt g119)), (16, (iv t.1.2.1)), (17, (iv t.1.2.2))]) (fun n t w1 => St NoS w w1 [rowR encN_Row_groutworkref02 A_p0 c_p0 (tag H_p0 p0), nestO subN_Row_groutworkref02 H_p0 p0] [blk g5 (.cells #[(iv 0), (iv 0), (.slice none 0 0)] 27 (0, 0)), rowO 95 (encSl Bool) A36 c37 (tag H38 x39), rowsO 4 encBool H38 x39, blk g119 (.cells #[(iv p3), (iv p4), (sv t.2.1 t.1.1 t.2.2)] 27 (0, 0)), rowO 3 encInt t.2.1 t.2.2 t.1.1] ∧ ref03_from.l2 n t.1.1 t.1.2.1 t.1.2.2 p0 p4 x39 = some x131) k ((([] : List Int) ++ ((rdD p0 p1 z_Row_groutworkref02).Cells), (rdD p0 p1 z_Row_groutworkref02).North, 1), A115, c116) [0, 4, 10, 12, 15, 16, 17] rfl ⟨(hS123.subR [0, 1]).sub [2, 3, 4, 0, 1] (by decide), hx132⟩ ?_
  rintro k133 ⟨⟨l126, x127, x128⟩, A124, c125⟩ w134 ⟨hS135, hl136⟩
  cases k133 with
  | zero => rw [ref03_from.l2] at hl136; cases hl136
  | succ k133 =>
   rw [ref03_from.l2] at hl136
   refine WC.seq ?_
   refine WC.seq ?_
   refine WC.region ?_
   refine seg 3 [] [0, 4, 10, 12, 15, 16, 17, 105] [(0, (sv A_p0 p0 c_p0)), (4, (iv p4)), (10, (pt g5)), (12, (sv A36 x39 c37)), (15, (pt g119)), (16, (iv x127)), (17, (iv x128)), (105, (bv (decide (x128 < p4))))] [] (fun fb => by kernel_rfl) rfl trivial ?_
   refine WL.done rfl ?_
   refine WX.next ?_
   rcases br_some hl136 with ⟨h137, hl136⟩ | ⟨h137, hl136⟩
   ·refine WC.condT2 (fun fb => by kernel_rfl) h137 ?_
    refine WC.skip ?_
    refine WX.next ?_
    refine WC.seq ?_
    refine WC.block ?_
    refine WC.seq ?_
    refine WC.region ?_
    refine seg 1 [] [0, 4, 10, 12, 15, 16, 17, 18] [(0, (sv A_p0 p0 c_p0)), (4, (iv p4)), (10, (pt g5)), (12, (sv A36 x39 c37)), (15, (pt g119)), (16, (iv x127)), (17, (iv x128)), (18, (iv 0))] [] (fun fb => by kernel_rfl) rfl trivial ?_
    refine WL.done rfl ?_
    refine WX.next ?_
    obtain ⟨x141, hx142, hl136⟩ := bind_some hl136
    refine WC.cutN (T := ((List Int) × Int) × (Option Addr) × Nat) (fun t => [(0, (sv A_p0 p0 c_p0)), (4, (iv p4)), (10, (pt g5)), (12, (sv A36 x39 c37)), (15, (pt g119)), (16, (iv t.1.2)), (17, (iv x128))]) (fun t w1 => St NoS w w1 [rowR encN_Row_groutworkref02 A_p0 c_p0 (tag H_p0 p0), nestO subN_Row_groutworkref02 H_p0 p0] [blk g5 (.cells #[(iv 0), (iv 0), (.slice none 0 0)] 27 (0, 0)), rowO 95 (encSl Bool) A36 c37 (tag H38 x39), rowsO 4 encBool H38 x39, blk g119 (.cells #[(iv p3), (iv p4), (sv t.2.1 t.1.1 t.2.2)] 27 (0, 0)), rowO 3 encInt t.2.1 t.2.2 t.1.1] ∧ x141 = t.1) (fun Kx141 => ?_) ?_
    ·
     refine WC.block ?_
     refine WC.loop (T := Int) (fun t => [(0, (sv A_p0 p0 c_p0)), (4, (iv p4)), (10, (pt g5)), (12, (sv A36 x39 c37)), (15, (pt g119)), (16, (iv x127)), (17, (iv x128)), (18, (iv t))]) (fun n t w1 => St NoS w w1 [rowR encN_Row_groutworkref02 A_p0 c_p0 (tag H_p0 p0), nestO subN_Row_groutworkref02 H_p0 p0] [blk g5 (.cells #[(iv 0), (iv 0), (.slice none 0 0)] 27 (0, 0)), rowO 95 (encSl Bool) A36 c37 (tag H38 x39), rowsO 4 encBool H38 x39, blk g119 (.cells #[(iv p3), (iv p4), (sv A124 l126 c125)] 27 (0, 0)), rowO 3 encInt A124 c125 l126] ∧ ref03_from.l3 n t p0 x39 l126 x127 x128 = some x141) k133 0 [0, 4, 10, 12, 15, 16, 17, 18] rfl ⟨(hS135.subR [0, 1]).sub [0, 1, 2, 3, 4] (by decide), hx142⟩ ?_
     rintro k143 x138 w144 ⟨hS145, hl146⟩
     cases k143 with
     | zero => rw [ref03_from.l3] at hl146; cases hl146
     | succ k143 =>
      rw [ref03_from.l3] at hl146
      refine WC.seq ?_
      refine WC.seq ?_
      refine WC.region ?_
      refine seg 4 [] [0, 4, 10, 12, 15, 16, 17, 18, 111] [(0, (sv A_p0 p0 c_p0)), (4, (iv p4)), (10, (pt g5)), (12, (sv A36 x39 c37)), (15, (pt g119)), (16, (iv x127)), (17, (iv x128)), (18, (iv x138)), (111, (bv (decide (x138 < (p0.length : Int)))))] [] (fun fb => by kernel_rfl) rfl trivial ?_
      refine WL.done rfl ?_
      refine WX.next ?_
      rcases br_some hl146 with ⟨h147, hl146⟩ | ⟨h147, hl146⟩
      ·refine WC.condT2 (fun fb => by kernel_rfl) h147 ?_
       refine WC.skip ?_
       refine WX.next ?_
       refine WC.seq ?_
       refine WC.block ?_
       refine WC.seq ?_
       obtain ⟨x148, hx149, hl146⟩ := bind_some hl146
       refine WC.cutN (T := Bool) (fun t => [(0, (sv A_p0 p0 c_p0)), (4, (iv p4)), (10, (pt g5)), (12, (sv A36 x39 c37)), (15, (pt g119)), (16, (iv x127)), (17, (iv x128)), (18, (iv x138)), (134, (bv t))]) (fun t w1 => St NoS w w1 [rowR encN_Row_groutworkref02 A_p0 c_p0 (tag H_p0 p0), nestO subN_Row_groutworkref02 H_p0 p0] [blk g5 (.cells #[(iv 0), (iv 0), (.slice none 0 0)] 27 (0, 0)), rowO 95 (encSl Bool) A36 c37 (tag H38 x39), rowsO 4 encBool H38 x39, blk g119 (.cells #[(iv p3), (iv p4), (sv A124 l126 c125)] 27 (0, 0)), rowO 3 encInt A124 c125 l126] ∧ x148 = t) (fun Kx148 => ?_) ?_
       ·
        rcases br_some hx149 with ⟨h150, hx149⟩ | ⟨h150, hx149⟩
        ·
         obtain ⟨h153, hx149⟩ := as_some hx149
         obtain ⟨h154, hx149⟩ := as_some hx149
         obtain ⟨h155, hx149⟩ := as_some hx149
         refine WC.regionD ([(4, (((adr A_p0).add ((x138).toNat * 3)).add 1), (iv ((rdD p0 x138 z_Row_groutworkref02).South))), (12, ((adr A36).add ((w64 (x128 + 1)).toNat * 1)), (sv ((H38 (w64 (x128 + 1)).toNat).1) (rdD x39 (w64 (x128 + 1)) []) ((H38 (w64 (x128 + 1)).toNat).2))), (17, (((adr A_p0).add ((x138).toNat * 3)).add 2), (iv ((rdD p0 x138 z_Row_groutworkref02).North))), (19, ((adr ((H38 (w64 (x128 + 1)).toNat).1)).add (((rdD p0 x138 z_Row_groutworkref02).North).toNat * 1)), (bv (rdD (rdD x39 (w64 (x128 + 1)) []) ((rdD p0 x138 z_Row_groutworkref02).North) false)))], [0, 1, 2, 3, 4, 5, 6, 7, 8, 9, 10, 11, 12, 13, 14, 15, 16, 17, 18, 19, 20], [[], [], [0, 1], [0, 1, 2], [0, 1, 2, 3], [], [0, 1, 2, 3, 4, 5], [0, 1, 2, 3, 4, 5, 6], [0, 1, 2, 3, 4, 5, 6, 7], [0, 1, 2, 3, 4, 5, 6, 7], [0, 1, 2, 3, 4, 5, 6, 7, 9], [0, 1, 2, 3, 4, 5, 6, 7, 8, 9, 10], [0, 1, 2, 3, 4, 5, 6, 7, 8, 9, 10, 11], [0, 1, 2, 3, 4, 5, 6, 7], [0, 1, 2, 3, 4, 5, 6, 7], [0, 1, 2, 3, 4, 5, 6, 7, 13, 14], [0, 1, 2, 3, 4, 5, 6, 7, 13, 14, 15], [0, 1, 2, 3, 4, 5, 6, 7, 13, 14, 15, 16], [0, 1, 2, 3, 4, 5, 6, 7, 8, 9, 10, 11, 12, 13, 14, 15, 16, 17], [0, 1, 2, 3, 4, 5, 6, 7, 8, 9, 10, 11, 12, 13, 14, 15, 16, 17, 18], [0, 1, 2, 3, 4, 5, 6, 7, 8, 9, 10, 11, 12, 13, 14, 15, 16, 17, 18, 19]]) [[0, 1, 2, 3, 4, 5, 6, 7, 8, 9, 10, 11, 12, 13, 14, 15, 16, 17, 18, 19, 20]] (by kernel_rfl) (by kernel_rfl) (NoPanic.seq (NoPanic.block (NoPanic.seq (NoPanic.seq (NoPanic.block (NoPanic.block (NoPanic.seq (NoPanic.seq (NoPanic.block (NoPanic.seq (NoPanic.body))))))))))) ?_
         have hS152 := hS145.drew
         revert hS152
         generalize World.drew w144 = w151
         intro hS152
         refine ⟨⟨nrow_cell (hS152.rd 0).1 z_Row_groutworkref02 h153.1 h153.2 1 rfl, nrow_cell (rowO.rd (hS152.own 1).1) [] h154.1 h154.2 0 rfl, nrow_cell (hS152.rd 0).1 z_Row_groutworkref02 h153.1 h153.2 2 rfl, rowR.cell (rowO.rd (rowsO.at (hS152.own 2).1 h154.1 h154.2)) false h155.1 h155.2 0 rfl, trivial⟩, forallC ?_ (forallN)⟩
         refine segF 8 [.v (iv ((rdD p0 x138 z_Row_groutworkref02).South))] [0, 4, 10, 12, 15, 16, 17, 18, 121] [(0, (sv A_p0 p0 c_p0)), (4, (iv p4)), (10, (pt g5)), (12, (sv A36 x39 c37)), (15, (pt g119)), (16, (iv x127)), (17, (iv x128)), (18, (iv x138)), (121, (bv (((rdD p0 x138 z_Row_groutworkref02).South) == x127)))] [.idx A_p0 x138 p0.length] [0] [(4, (((adr A_p0).add ((x138).toNat * 3)).add 1), (iv ((rdD p0 x138 z_Row_groutworkref02).South)))] (fun fb => by kernel_rfl) rfl ⟨nrow_adr (hS152.rd 0).1 h153.1 h153.2, trivial⟩ rfl ?_
         refine WL.setB 121 h150 rfl ?_
         refine segF 21 [.v (sv ((H38 (w64 (x128 + 1)).toNat).1) (rdD x39 (w64 (x128 + 1)) []) ((H38 (w64 (x128 + 1)).toNat).2)), .v (iv ((rdD p0 x138 z_Row_groutworkref02).North)), .v (bv (rdD (rdD x39 (w64 (x128 + 1)) []) ((rdD p0 x138 z_Row_groutworkref02).North) false))] [0, 4, 10, 12, 15, 16, 17, 18, 134] [(0, (sv A_p0 p0 c_p0)), (4, (iv p4)), (10, (pt g5)), (12, (sv A36 x39 c37)), (15, (pt g119)), (16, (iv x127)), (17, (iv x128)), (18, (iv x138)), (134, (bv (rdD (rdD x39 (w64 (x128 + 1)) []) ((rdD p0 x138 z_Row_groutworkref02).North) false)))] [.idx A36 (w64 (x128 + 1)) x39.length, .idx A_p0 x138 p0.length, .idx ((H38 (w64 (x128 + 1)).toNat).1) ((rdD p0 x138 z_Row_groutworkref02).North) (rdD x39 (w64 (x128 + 1)) []).length] [1, 2, 3] [(12, ((adr A36).add ((w64 (x128 + 1)).toNat * 1)), (sv ((H38 (w64 (x128 + 1)).toNat).1) (rdD x39 (w64 (x128 + 1)) []) ((H38 (w64 (x128 + 1)).toNat).2))), (17, (((adr A_p0).add ((x138).toNat * 3)).add 2), (iv ((rdD p0 x138 z_Row_groutworkref02).North))), (19, ((adr ((H38 (w64 (x128 + 1)).toNat).1)).add (((rdD p0 x138 z_Row_groutworkref02).North).toNat * 1)), (bv (rdD (rdD x39 (w64 (x128 + 1)) []) ((rdD p0 x138 z_Row_groutworkref02).North) false)))] (fun fb => by kernel_rfl) rfl ⟨nrow_adr (rowO.rd (hS152.own 1).1) h154.1 h154.2, nrow_adr (hS152.rd 0).1 h153.1 h153.2, rowR.adr (rowO.rd (rowsO.at (hS152.own 2).1 h154.1 h154.2)) h155.1 h155.2, trivial⟩ rfl ?_
         refine WL.done rfl ?_
         injection hx149 with hx149
         exact WX.to Kx148 (rdD (rdD x39 (w64 (x128 + 1)) []) ((rdD p0 x138 z_Row_groutworkref02).North) false) [0, 4, 10, 12, 15, 16, 17, 18, 134] rfl ⟨(hS152.subR [0, 1]).sub [0, 1, 2, 3, 4] (by decide), hx149.symm⟩
        obtain ⟨h158, hx149⟩ := as_some hx149
        refine WC.regionD ([(4, (((adr A_p0).add ((x138).toNat * 3)).add 1), (iv ((rdD p0 x138 z_Row_groutworkref02).South)))], [0, 1, 2, 3, 4, 5, 6, 7, 8, 9, 10, 11, 12, 13, 14, 15, 16, 17, 18, 19, 20], [[], [], [0, 1], [0, 1, 2], [0, 1, 2, 3], [], [0, 1, 2, 3, 4, 5], [0, 1, 2, 3, 4, 5, 6], [0, 1, 2, 3, 4, 5, 6, 7], [0, 1, 2, 3, 4, 5, 6, 7], [0, 1, 2, 3, 4, 5, 6, 7, 9], [0, 1, 2, 3, 4, 5, 6, 7, 8, 9, 10], [0, 1, 2, 3, 4, 5, 6, 7, 8, 9, 10, 11], [0, 1, 2, 3, 4, 5, 6, 7], [0, 1, 2, 3, 4, 5, 6, 7], [0, 1, 2, 3, 4, 5, 6, 7, 13, 14], [0, 1, 2, 3, 4, 5, 6, 7, 13, 14, 15], [0, 1, 2, 3, 4, 5, 6, 7, 13, 14, 15, 16], [0, 1, 2, 3, 4, 5, 6, 7, 8, 9, 10, 11, 12, 13, 14, 15, 16, 17], [0, 1, 2, 3, 4, 5, 6, 7, 8, 9, 10, 11, 12, 13, 14, 15, 16, 17, 18], [0, 1, 2, 3, 4, 5, 6, 7, 8, 9, 10, 11, 12, 13, 14, 15, 16, 17, 18, 19]]) [[0, 1, 2, 3, 4, 5, 6, 7, 8, 9, 10, 11, 12, 13, 14, 15, 16, 17, 18, 19, 20]] (by kernel_rfl) (by kernel_rfl) (NoPanic.seq (NoPanic.block (NoPanic.seq (NoPanic.seq (NoPanic.block (NoPanic.block (NoPanic.seq (NoPanic.seq (NoPanic.block (NoPanic.seq (NoPanic.body))))))))))) ?_
        have hS157 := hS145.drew
        revert hS157
        generalize World.drew w144 = w156
        intro hS157
        refine ⟨⟨nrow_cell (hS157.rd 0).1 z_Row_groutworkref02 h158.1 h158.2 1 rfl, trivial⟩, forallC ?_ (forallN)⟩
        refine segF 8 [.v (iv ((rdD p0 x138 z_Row_groutworkref02).South))] [0, 4, 10, 12, 15, 16, 17, 18, 121] [(0, (sv A_p0 p0 c_p0)), (4, (iv p4)), (10, (pt g5)), (12, (sv A36 x39 c37)), (15, (pt g119)), (16, (iv x127)), (17, (iv x128)), (18, (iv x138)), (121, (bv (((rdD p0 x138 z_Row_groutworkref02).South) == x127)))] [.idx A_p0 x138 p0.length] [0] [(4, (((adr A_p0).add ((x138).toNat * 3)).add 1), (iv ((rdD p0 x138 z_Row_groutworkref02).South)))] (fun fb => by kernel_rfl) rfl ⟨nrow_adr (hS157.rd 0).1 h158.1 h158.2, trivial⟩ rfl ?_
        refine WL.setB 121 h150 rfl ?_
        refine seg 21 [] [0, 4, 10, 12, 15, 16, 17, 18, 134] [(0, (sv A_p0 p0 c_p0)), (4, (iv p4)), (10, (pt g5)), (12, (sv A36 x39 c37)), (15, (pt g119)), (16, (iv x127)), (17, (iv x128)), (18, (iv x138)), (134, (bv false))] [] (fun fb => by kernel_rfl) rfl trivial ?_
        refine WL.done rfl ?_
        injection hx149 with hx149
        exact WX.to Kx148 false [0, 4, 10, 12, 15, 16, 17, 18, 134] rfl ⟨(hS157.subR [0, 1]).sub [0, 1, 2, 3, 4] (by decide), hx149.symm⟩
       rintro y162 w159 ⟨hS160, hq161⟩
       subst hq161
       refine WX.next ?_
       rcases br_some hl146 with ⟨h163, hl146⟩ | ⟨h163, hl146⟩
       ·refine WC.condT2 (fun fb => by kernel_rfl) h163 ?_
        refine WC.seq ?_
        obtain ⟨h166, hl146⟩ := as_some hl146
        refine WC.regionD ([(1, ⟨g119, 2, none⟩, (sv A124 l126 c125)), (6, ((adr A_p0).add ((x138).toNat * 3)), (sv ((H_p0 x138.toNat 0).1) ((rdD p0 x138 z_Row_groutworkref02).Cells) ((H_p0 x138.toNat 0).2)))], [0, 1, 2, 3, 4, 5, 6, 8], [[], [0], [], [], [2, 3], [2, 3, 4], [2, 3, 4, 5], [0, 1, 2, 3, 4, 5, 6], [0, 1, 2, 3, 4, 5, 6, 7], [0, 1, 2, 3, 4, 5, 6, 7, 8]]) [[0, 1, 2, 3, 4, 5, 6, 7, 8, 9]] (by kernel_rfl) (by kernel_rfl) (NoPanic.seq (NoPanic.block (NoPanic.seq (NoPanic.seq (NoPanic.block (NoPanic.block (NoPanic.seq (NoPanic.seq (NoPanic.block (NoPanic.seq (NoPanic.body))))))))))) ?_
        have hS165 := hS160.drew
        revert hS165
        generalize World.drew w159 = w164
        intro hS165
        refine ⟨⟨hS165.cell 3 rfl 2 rfl, nrow_cell (hS165.rd 0).1 z_Row_groutworkref02 h166.1 h166.2 0 rfl, trivial⟩, forallC ?_ (forallN)⟩
        refine segF 7 [.v (sv A124 l126 c125), .v (sv ((H_p0 x138.toNat 0).1) ((rdD p0 x138 z_Row_groutworkref02).Cells) ((H_p0 x138.toNat 0).2))] [0, 4, 10, 12, 15, 17, 18, 136, 141] [(0, (sv A_p0 p0 c_p0)), (4, (iv p4)), (10, (pt g5)), (12, (sv A36 x39 c37)), (15, (pt g119)), (17, (iv x128)), (18, (iv x138)), (136, (sv A124 l126 c125)), (141, (sv ((H_p0 x138.toNat 0).1) ((rdD p0 x138 z_Row_groutworkref02).Cells) ((H_p0 x138.toNat 0).2)))] [.idx A_p0 x138 p0.length] [0, 1] [(1, ⟨g119, 2, none⟩, (sv A124 l126 c125)), (6, ((adr A_p0).add ((x138).toNat * 3)), (sv ((H_p0 x138.toNat 0).1) ((rdD p0 x138 z_Row_groutworkref02).Cells) ((H_p0 x138.toNat 0).2)))] (fun fb => by kernel_rfl) rfl ⟨nrow_adr (hS165.rd 0).1 h166.1 h166.2, trivial⟩ rfl ?_
        obtain ⟨h167, hl146⟩ := as_some hl146
        refine WL.append hS165 4 (d := 142) (tS := 25) (z := (iv 0)) (bytes := 8) (c2 := (H_p0 x138.toNat 0).2) rfl (fun fb => by kernel_rfl) (nestO.at (hS165.rd 1).1 z_Row_groutworkref02 h166.1 h166.2) (by kernel_rfl) (by kernel_rfl) rfl (by decide) h167 (by decide) [0, 1, 2, 3] (by decide) (by decide) (fun A168 c169 w170 hS171 => ?_)
        refine ⟨trivial, ?_⟩
        refine seg 9 [] [0, 4, 10, 12, 15, 17, 18, 142, 143] [(0, (sv A_p0 p0 c_p0)), (4, (iv p4)), (10, (pt g5)), (12, (sv A36 x39 c37)), (15, (pt g119)), (17, (iv x128)), (18, (iv x138)), (142, (sv A168 (l126 ++ ((rdD p0 x138 z_Row_groutworkref02).Cells)) c169)), (143, (.pointer (some ⟨g119, 2, none⟩)))] [] (fun fb => by kernel_rfl) rfl trivial ?_
        refine WL.store hS171 4 rfl [(2, (sv A168 (l126 ++ ((rdD p0 x138 z_Row_groutworkref02).Cells)) c169))] #[(iv p3), (iv p4), (sv A168 (l126 ++ ((rdD p0 x138 z_Row_groutworkref02).Cells)) c169)] (fun fb => by kernel_rfl) (by kernel_rfl) rfl [0, 1, 2, 3] (by decide) (by decide) (fun w172 hS173 => ?_)
        refine ⟨trivial, ?_⟩
        refine WL.done rfl ?_
        refine WX.next ?_
        refine WC.seq ?_
        refine WC.region ?_
        refine seg 6 [.v (iv ((rdD p0 x138 z_Row_groutworkref02).North))] [0, 4, 10, 12, 15, 16, 17] [(0, (sv A_p0 p0 c_p0)), (4, (iv p4)), (10, (pt g5)), (12, (sv A36 x39 c37)), (15, (pt g119)), (16, (iv ((rdD p0 x138 z_Row_groutworkref02).North))), (17, (iv x128))] [.idx A_p0 x138 p0.length, .cell (((adr A_p0).add ((x138).toNat * 3)).add 2) (iv ((rdD p0 x138 z_Row_groutworkref02).North))] (fun fb => by kernel_rfl) rfl ⟨nrow_adr (hS173.rd 0).1 h166.1 h166.2, nrow_cell (hS173.rd 0).1 z_Row_groutworkref02 h166.1 h166.2 2 rfl, trivial⟩ ?_
        refine WL.done rfl ?_
        refine WX.next ?_
        refine WC.exit ?_
        injection hl146 with hl146
        exact WX.blockPast (by decide) (WX.thenX (WX.thenX (WX.blockHere (WX.to Kx141 ((l126 ++ ((rdD p0 x138 z_Row_groutworkref02).Cells), (rdD p0 x138 z_Row_groutworkref02).North), A168, c169) [0, 4, 10, 12, 15, 16, 17] rfl ⟨(hS173.subR [0, 1]).sub [2, 3, 4, 0, 1] (by decide), hl146.symm⟩))))
       refine WC.condF2 (fun fb => by kernel_rfl) h163 ?_
       refine WC.skip ?_
       refine WX.blockN (WX.next ?_)
       refine WC.region ?_
       refine seg 3 [] [0, 4, 10, 12, 15, 16, 17, 18] [(0, (sv A_p0 p0 c_p0)), (4, (iv p4)), (10, (pt g5)), (12, (sv A36 x39 c37)), (15, (pt g119)), (16, (iv x127)), (17, (iv x128)), (18, (iv (w64 (x138 + 1))))] [] (fun fb => by kernel_rfl) rfl trivial ?_
       refine WL.done rfl ?_
       exact WX.again k143 (Nat.lt_succ_self _) (w64 (x138 + 1)) [0, 4, 10, 12, 15, 16, 17, 18] rfl ⟨(hS160.subR [0, 1]).sub [0, 1, 2, 3, 4] (by decide), hl146⟩
      refine WC.condF2 (fun fb => by kernel_rfl) h147 ?_
      refine WC.exit ?_
      injection hl146 with hl146
      exact WX.thenX (WX.thenX (WX.blockHere (WX.to Kx141 ((l126, x127), A124, c125) [0, 4, 10, 12, 15, 16, 17] rfl ⟨(hS145.subR [0, 1]).sub [0, 1, 2, 3, 4] (by decide), hl146.symm⟩)))
    rintro ⟨y177, A139, c140⟩ w174 ⟨hS175, hq176⟩
    subst hq176
    refine WX.blockN (WX.next ?_)
    refine WC.region ?_
    refine seg 3 [] [0, 4, 10, 12, 15, 16, 17] [(0, (sv A_p0 p0 c_p0)), (4, (iv p4)), (10, (pt g5)), (12, (sv A36 x39 c37)), (15, (pt g119)), (16, (iv x141.2)), (17, (iv (w64 (x128 + 1))))] [] (fun fb => by kernel_rfl) rfl trivial ?_
    refine WL.done rfl ?_
    exact WX.again k133 (Nat.lt_succ_self _) ((x141.1, x141.2, w64 (x128 + 1)), A139, c140) [0, 4, 10, 12, 15, 16, 17] rfl ⟨(hS175.subR [0, 1]).sub [0, 1, 2, 3, 4] (by decide), hl136⟩
   refine WC.condF2 (fun fb => by kernel_rfl) h137 ?_
   refine WC.exit ?_
   injection hl136 with hl136
   exact WX.thenX (WX.thenX (WX.blockHere (WX.to Kx131 (l126, A124, c125) [10, 15] rfl ⟨(hS135.subR [0, 1]).sub [0, 3, 4] (by decide), hl136.symm⟩)))
 rintro ⟨y181, A129, c130⟩ w178 ⟨hS179, hq180⟩
 subst hq180
 refine WX.next ?_
 refine WC.seq ?_
 refine WC.region ?_
 refine seg 1 [.v (iv p3), .v (iv p4), .v (sv A129 x131 c130)] [10, 149] [(10, (pt g5)), (149, (.agg #[(iv p3), (iv p4), (sv A129 x131 c130)]))] [.cell ⟨g119, 0, none⟩ (iv p3), .cell ⟨g119, 1, none⟩ (iv p4), .cell ⟨g119, 2, none⟩ (sv A129 x131 c130)] (fun fb => by kernel_rfl) rfl ⟨hS179.cell 1 rfl 0 rfl, hS179.cell 1 rfl 1 rfl, hS179.cell 1 rfl 2 rfl, trivial⟩ ?_
 refine WL.store hS179 0 rfl [(0, (iv p3)), (1, (iv p4)), (2, (sv A129 x131 c130))] #[(iv p3), (iv p4), (sv A129 x131 c130)] (fun fb => by kernel_rfl) (by kernel_rfl) rfl [1, 2] (by decide) (by decide) (fun w182 hS183 => ?_)
 refine ⟨trivial, ?_⟩
 refine seg 3 [] [10, 11] [(10, (pt g5)), (11, (bv true))] [] (fun fb => by kernel_rfl) rfl trivial ?_
 refine WL.done rfl ?_
 refine WX.next ?_
 refine WC.ret ?_
 injection hf with hf
 subst hf
 exact WX.ret_ [.v (iv p3), .v (iv p4), .v (sv A129 x131 c130)] (.tuple #[(.agg #[(iv p3), (iv p4), (sv A129 x131 c130)]), (bv true)]) [.cell ⟨g5, 0, none⟩ (iv p3), .cell ⟨g5, 1, none⟩ (iv p4), .cell ⟨g5, 2, none⟩ (sv A129 x131 c130)] (fun fb => by kernel_rfl) ⟨hS183.cell 0 rfl 0 rfl, hS183.cell 0 rfl 1 rfl, hS183.cell 0 rfl 2 rfl, trivial⟩ ⟨_, rfl, A129, c130, rfl, (hS183.sub [2] (by decide)).noR⟩
theorem ref03_Find_calls (k : Nat) (p0 : List Tile) (p1 : Int) (p2 : Int) (A_p0 : Option Addr) (c_p0 : Nat) (r : Pattern × Bool) (w : World) (hR0 : RO NoS w (rowR enc_Tile A_p0 c_p0 p0)) (hf : ref03_Find k p0 p1 p2 = some r) :
  CallsR Tryd.prog 20 #[(sv A_p0 p0 c_p0), (iv p1), (iv p2)] w (fun v w' => ∃ (A1_ : Option Addr), ∃ (c1_ : Nat), v = (.tuple #[(.agg #[(iv r.1.Width), (iv r.1.Height), (sv A1_ r.1.Cells c1_)]), (bv r.2)]) ∧ St NoS w w' [] [rowO 3 encInt A1_ c1_ r.1.Cells]) := by
 have hS : St NoS w w [rowR enc_Tile A_p0 c_p0 p0] [] := St.init (ro_cons hR0 (ro_nil _ _))
 refine enter 39 Tryd.func20 rfl Tryd.ntmps20 rfl ?_
 unfold ref03_Find at hf
 refine WC.seq ?_
 refine WC.region ?_
 refine WL.new hS 6 [] (fun g => (pt g)) (.cells #[(iv 0), (iv 0), (.slice none 0 0)] 27 (0, 0)) [] (fun fb g => by kernel_rfl) trivial (fun g4 w5 hS6 => ?_)
 refine ⟨trivial, ?_⟩
 refine seg 2 [] [0, 1, 2, 6] [(0, (sv A_p0 p0 c_p0)), (1, (iv p1)), (2, (iv p2)), (6, (pt g4))] [] (fun fb => by kernel_rfl) rfl trivial ?_
 refine WL.done rfl ?_
 refine WX.next ?_
 refine WC.seq ?_
 refine WC.region ?_
 refine seg 2 [] [0, 1, 2, 6, 13, 14] [(0, (sv A_p0 p0 c_p0)), (1, (iv p1)), (2, (iv p2)), (6, (pt g4)), (13, (sv A_p0 p0 c_p0)), (14, (iv p1))] [] (fun fb => by kernel_rfl) rfl trivial ?_
 obtain ⟨t7, ht8, hf⟩ := bind_some hf
 refine WL.call (some 15) 55 #[(sv A_p0 p0 c_p0), (iv p1)] (fun fb => by kernel_rfl) (ref03_round_calls _ p0 p1 A_p0 c_p0 t7 _ (hS6.rd 0) ht8) (fun v w9 hR10 => ?_)
 obtain ⟨A12, c13, H14, rfl, hk_⟩ := hR10
 have hS11 : St NoS w w9 [rowR enc_Tile A_p0 c_p0 p0] [rowO 88 encN_Row_groutworkref02 A12 c13 (tag H14 t7), poolO [nestO subN_Row_groutworkref02 H14 t7], blk g4 (.cells #[(iv 0), (iv 0), (.slice none 0 0)] 27 (0, 0))] := hS6.call hk_ [] [0] (fun g hg => hg.elim) (by simp) (by decide)
 refine ⟨trivial, ?_⟩
 refine seg 4 [] [0, 1, 2, 6, 8] [(0, (sv A_p0 p0 c_p0)), (1, (iv p1)), (2, (iv p2)), (6, (pt g4)), (8, (sv A12 t7 c13))] [] (fun fb => by kernel_rfl) rfl trivial ?_
 refine WL.done rfl ?_
 refine WX.next ?_
 refine WC.seq ?_
 refine WC.region ?_
 refine seg 1 [] [1, 2, 6, 8, 16] [(1, (iv p1)), (2, (iv p2)), (6, (pt g4)), (8, (sv A12 t7 c13)), (16, (sv A_p0 p0 c_p0))] [] (fun fb => by kernel_rfl) rfl trivial ?_
 obtain ⟨t15, ht16, hf⟩ := bind_some hf
 refine WL.call (some 17) 38 #[(sv A_p0 p0 c_p0)] (fun fb => by kernel_rfl) (ref02_Colours_calls _ p0 A_p0 c_p0 t15 _ (hS11.rd 0) ht16) (fun v w17 hR18 => ?_)
 obtain ⟨A21, c22, rfl, hk_⟩ := hR18
 have hS19 : St NoS w w17 [rowR enc_Tile A_p0 c_p0 p0] [rowO 3 encInt A21 c22 t15, rowO 88 encN_Row_groutworkref02 A12 c13 (tag H14 t7), poolO [nestO subN_Row_groutworkref02 H14 t7], blk g4 (.cells #[(iv 0), (iv 0), (.slice none 0 0)] 27 (0, 0))] := hS11.call hk_ [] [0, 1, 2] (fun g hg => hg.elim) (by simp) (by decide)
 refine ⟨trivial, ?_⟩
 refine seg 4 [] [1, 2, 6, 8, 18, 19] [(1, (iv p1)), (2, (iv p2)), (6, (pt g4)), (8, (sv A12 t7 c13)), (18, (iv (t15.length : Int))), (19, (iv p1))] [] (fun fb => by kernel_rfl) rfl trivial ?_
 obtain ⟨t23, ht24, hf⟩ := bind_some hf
 refine WL.call (some 20) 24 #[(iv (t15.length : Int)), (iv p1)] (fun fb => by kernel_rfl) (ref02_Power_calls _ (t15.length : Int) p1 t23 _ ht24) (fun v w25 hR26 => ?_)
 obtain ⟨rfl, hk_⟩ := hR26
 have hS27 := hS19.keepN hk_
 refine ⟨trivial, ?_⟩
 refine seg 6 [] [1, 2, 6, 8, 9] [(1, (iv p1)), (2, (iv p2)), (6, (pt g4)), (8, (sv A12 t7 c13)), (9, (iv t23))] [] (fun fb => by kernel_rfl) rfl trivial ?_
 refine WL.done rfl ?_
 refine WX.next ?_
 refine WC.seq ?_
 refine WC.seq ?_
 refine WC.region ?_
 refine seg 1 [] [1, 2, 6, 8, 9, 10] [(1, (iv p1)), (2, (iv p2)), (6, (pt g4)), (8, (sv A12 t7 c13)), (9, (iv t23)), (10, (iv 0))] [] (fun fb => by kernel_rfl) rfl trivial ?_
 refine WL.done rfl ?_
 refine WX.next ?_
 obtain ⟨x29, hx30, hf⟩ := bind_some hf
 refine WC.cutN (T := Unit) (fun t => [(6, (pt g4))]) (fun t w1 => St NoS w w1 [rowR enc_Tile A_p0 c_p0 p0] [blk g4 (.cells #[(iv 0), (iv 0), (.slice none 0 0)] 27 (0, 0))] ∧ x29 = .inr t) (fun Kx29 => ?_) ?_
 ·
  refine WC.block ?_
  refine WC.loop (T := Int) (fun t => [(1, (iv p1)), (2, (iv p2)), (6, (pt g4)), (8, (sv A12 t7 c13)), (9, (iv t23)), (10, (iv t))]) (fun n t w1 => St NoS w w1 [rowR enc_Tile A_p0 c_p0 p0] [blk g4 (.cells #[(iv 0), (iv 0), (.slice none 0 0)] 27 (0, 0)), rowO 88 encN_Row_groutworkref02 A12 c13 (tag H14 t7), poolO [nestO subN_Row_groutworkref02 H14 t7]] ∧ ref03_Find.l0 n t p1 p2 t7 t23 = some x29) k 0 [1, 2, 6, 8, 9, 10] rfl ⟨(hS27.subR [0]).sub [3, 1, 2] (by decide), hx30⟩ ?_
  rintro k31 x28 w32 ⟨hS33, hl34⟩
  cases k31 with
  | zero => rw [ref03_Find.l0] at hl34; cases hl34
  | succ k31 =>
   rw [ref03_Find.l0] at hl34
   refine WC.seq ?_
   refine WC.seq ?_
   refine WC.region ?_
   refine seg 4 [] [1, 2, 6, 8, 9, 10, 24] [(1, (iv p1)), (2, (iv p2)), (6, (pt g4)), (8, (sv A12 t7 c13)), (9, (iv t23)), (10, (iv x28)), (24, (bv (decide (x28 < (t7.length : Int)))))] [] (fun fb => by kernel_rfl) rfl trivial ?_
   refine WL.done rfl ?_
   refine WX.next ?_
   rcases br_some hl34 with ⟨h35, hl34⟩ | ⟨h35, hl34⟩
   ·refine WC.condT2 (fun fb => by kernel_rfl) h35 ?_
    refine WC.skip ?_
    refine WX.next ?_
    refine WC.seq ?_
    refine WC.block ?_
    refine WC.seq ?_
    refine WC.region ?_
    refine seg 5 [] [1, 2, 6, 8, 9, 10, 28, 29, 30, 31, 32] [(1, (iv p1)), (2, (iv p2)), (6, (pt g4)), (8, (sv A12 t7 c13)), (9, (iv t23)), (10, (iv x28)), (28, (sv A12 t7 c13)), (29, (iv x28)), (30, (iv t23)), (31, (iv p1)), (32, (iv p2))] [] (fun fb => by kernel_rfl) rfl trivial ?_
    obtain ⟨t36, ht37, hl34⟩ := bind_some hl34
    refine WL.call (some 33) 56 #[(sv A12 t7 c13), (iv x28), (iv t23), (iv p1), (iv p2)] (fun fb => by kernel_rfl) (ref03_from_calls _ t7 x28 t23 p1 p2 A12 c13 H14 t36 _ (hS33.ow 1).ofO (poolO.ro (hS33.ow 2) 0) ht37) (fun v w38 hR39 => ?_)
    obtain ⟨A41, c42, rfl, hk_⟩ := hR39
    have hS40 : St NoS w w38 [rowR enc_Tile A_p0 c_p0 p0] [rowO 3 encInt A41 c42 t36.1.Cells, blk g4 (.cells #[(iv 0), (iv 0), (.slice none 0 0)] 27 (0, 0)), rowO 88 encN_Row_groutworkref02 A12 c13 (tag H14 t7), poolO [nestO subN_Row_groutworkref02 H14 t7]] := hS33.call hk_ [] [0, 1, 2] (fun g hg => hg.elim) (by simp) (by decide)
    refine ⟨trivial, ?_⟩
    refine seg 9 [] [1, 2, 6, 8, 9, 10, 34, 35] [(1, (iv p1)), (2, (iv p2)), (6, (pt g4)), (8, (sv A12 t7 c13)), (9, (iv t23)), (10, (iv x28)), (34, (.agg #[(iv t36.1.Width), (iv t36.1.Height), (sv A41 t36.1.Cells c42)])), (35, (bv t36.2))] [] (fun fb => by kernel_rfl) rfl trivial ?_
    refine WL.new hS40 11 [] (fun g => (pt g)) (.cells #[(iv 0), (iv 0), (.slice none 0 0)] 27 (0, 0)) [] (fun fb g => by kernel_rfl) trivial (fun g43 w44 hS45 => ?_)
    refine ⟨trivial, ?_⟩
    refine WL.store hS45 0 rfl [(0, (iv t36.1.Width)), (1, (iv t36.1.Height)), (2, (sv A41 t36.1.Cells c42))] #[(iv t36.1.Width), (iv t36.1.Height), (sv A41 t36.1.Cells c42)] (fun fb => by kernel_rfl) (by kernel_rfl) rfl [1, 2, 3, 4] (by decide) (by decide) (fun w46 hS47 => ?_)
    refine ⟨trivial, ?_⟩
    refine seg 12 [] [1, 2, 6, 8, 9, 10, 11, 12] [(1, (iv p1)), (2, (iv p2)), (6, (pt g4)), (8, (sv A12 t7 c13)), (9, (iv t23)), (10, (iv x28)), (11, (pt g43)), (12, (bv t36.2))] [] (fun fb => by kernel_rfl) rfl trivial ?_
    refine WL.done rfl ?_
    refine WX.next ?_
    refine WC.seq ?_
    refine WC.region ?_
    refine seg 1 [] [1, 2, 6, 8, 9, 10, 11, 36] [(1, (iv p1)), (2, (iv p2)), (6, (pt g4)), (8, (sv A12 t7 c13)), (9, (iv t23)), (10, (iv x28)), (11, (pt g43)), (36, (bv t36.2))] [] (fun fb => by kernel_rfl) rfl trivial ?_
    refine WL.done rfl ?_
    refine WX.next ?_
    rcases br_some hl34 with ⟨h48, hl34⟩ | ⟨h48, hl34⟩
    ·refine WC.condT2 (fun fb => by kernel_rfl) h48 ?_
     refine WC.seq ?_
     refine WC.region ?_
     refine seg 1 [.v (iv t36.1.Width), .v (iv t36.1.Height), .v (sv A41 t36.1.Cells c42)] [6, 37] [(6, (pt g4)), (37, (.agg #[(iv t36.1.Width), (iv t36.1.Height), (sv A41 t36.1.Cells c42)]))] [.cell ⟨g43, 0, none⟩ (iv t36.1.Width), .cell ⟨g43, 1, none⟩ (iv t36.1.Height), .cell ⟨g43, 2, none⟩ (sv A41 t36.1.Cells c42)] (fun fb => by kernel_rfl) rfl ⟨hS47.cell 0 rfl 0 rfl, hS47.cell 0 rfl 1 rfl, hS47.cell 0 rfl 2 rfl, trivial⟩ ?_
     refine WL.store hS47 2 rfl [(0, (iv t36.1.Width)), (1, (iv t36.1.Height)), (2, (sv A41 t36.1.Cells c42))] #[(iv t36.1.Width), (iv t36.1.Height), (sv A41 t36.1.Cells c42)] (fun fb => by kernel_rfl) (by kernel_rfl) rfl [0, 1, 3, 4] (by decide) (by decide) (fun w49 hS50 => ?_)
     refine ⟨trivial, ?_⟩
     refine seg 3 [] [6, 7] [(6, (pt g4)), (7, (bv true))] [] (fun fb => by kernel_rfl) rfl trivial ?_
     refine WL.done rfl ?_
     refine WX.next ?_
     refine WC.ret ?_
     injection hl34 with hl34
     subst hl34
     injection hf with hf
     subst hf
     exact WX.blockR (WX.thenR (WX.thenR (WX.blockR (WX.thenR (WX.ret_ [.v (iv t36.1.Width), .v (iv t36.1.Height), .v (sv A41 t36.1.Cells c42)] (.tuple #[(.agg #[(iv t36.1.Width), (iv t36.1.Height), (sv A41 t36.1.Cells c42)]), (bv true)]) [.cell ⟨g4, 0, none⟩ (iv t36.1.Width), .cell ⟨g4, 1, none⟩ (iv t36.1.Height), .cell ⟨g4, 2, none⟩ (sv A41 t36.1.Cells c42)] (fun fb => by kernel_rfl) ⟨hS50.cell 0 rfl 0 rfl, hS50.cell 0 rfl 1 rfl, hS50.cell 0 rfl 2 rfl, trivial⟩ ⟨_, rfl, A41, c42, rfl, (hS50.sub [2] (by decide)).noR⟩)))))
    refine WC.condF2 (fun fb => by kernel_rfl) h48 ?_
    refine WC.skip ?_
    refine WX.blockN (WX.next ?_)
    refine WC.region ?_
    refine seg 3 [] [1, 2, 6, 8, 9, 10] [(1, (iv p1)), (2, (iv p2)), (6, (pt g4)), (8, (sv A12 t7 c13)), (9, (iv t23)), (10, (iv (w64 (x28 + 1))))] [] (fun fb => by kernel_rfl) rfl trivial ?_
    refine WL.done rfl ?_
    exact WX.again k31 (Nat.lt_succ_self _) (w64 (x28 + 1)) [1, 2, 6, 8, 9, 10] rfl ⟨(hS47.subR [0]).sub [2, 3, 4] (by decide), hl34⟩
   refine WC.condF2 (fun fb => by kernel_rfl) h35 ?_
   refine WC.exit ?_
   injection hl34 with hl34
   exact WX.thenX (WX.thenX (WX.blockHere (WX.to Kx29 () [6] rfl ⟨(hS33.subR [0]).sub [0] (by decide), hl34.symm⟩)))
 rintro y54 w51 ⟨hS52, hq53⟩
 subst hq53
 have hf := sum_inr hf
 refine WX.next ?_
 refine WC.seq ?_
 refine WC.region ?_
 refine seg 1 [] [6, 38] [(6, (pt g4)), (38, (.agg #[(iv 0), (iv 0), (.slice none 0 0)]))] [] (fun fb => by kernel_rfl) rfl trivial ?_
 refine WL.store hS52 0 rfl [(0, (iv 0)), (1, (iv 0)), (2, (.slice none 0 0))] #[(iv 0), (iv 0), (.slice none 0 0)] (fun fb => by kernel_rfl) (by kernel_rfl) rfl [] (by decide) (by decide) (fun w55 hS56 => ?_)
 refine ⟨trivial, ?_⟩
 refine seg 3 [] [6, 7] [(6, (pt g4)), (7, (bv false))] [] (fun fb => by kernel_rfl) rfl trivial ?_
 refine WL.done rfl ?_
 refine WX.next ?_
 refine WC.ret ?_
 have hS57 := hS56.nilrow 3 encInt
 injection hf with hf
 subst hf
 exact WX.ret_ [.v (iv 0), .v (iv 0), .v (.slice none 0 0)] (.tuple #[(.agg #[(iv 0), (iv 0), (sv none ([] : List Int) 0)]), (bv false)]) [.cell ⟨g4, 0, none⟩ (iv 0), .cell ⟨g4, 1, none⟩ (iv 0), .cell ⟨g4, 2, none⟩ (.slice none 0 0)] (fun fb => by kernel_rfl) ⟨hS56.cell 0 rfl 0 rfl, hS56.cell 0 rfl 1 rfl, hS56.cell 0 rfl 2 rfl, trivial⟩ ⟨_, rfl, none, 0, rfl, (hS57.sub [0] (by decide)).noR⟩
theorem ref03_Least_calls (k : Nat) (p0 : List Tile) (p1 : Int) (A_p0 : Option Addr) (c_p0 : Nat) (r : Pattern × Bool) (w : World) (hR0 : RO NoS w (rowR enc_Tile A_p0 c_p0 p0)) (hf : ref03_Least k p0 p1 = some r) :
  CallsR Tryd.prog 23 #[(sv A_p0 p0 c_p0), (iv p1)] w (fun v w' => ∃ (A1_ : Option Addr), ∃ (c1_ : Nat), v = (.tuple #[(.agg #[(iv r.1.Width), (iv r.1.Height), (sv A1_ r.1.Cells c1_)]), (bv r.2)]) ∧ St NoS w w' [] [rowO 3 encInt A1_ c1_ r.1.Cells]) := by
 have hS : St NoS w w [rowR enc_Tile A_p0 c_p0 p0] [] := St.init (ro_cons hR0 (ro_nil _ _))
 refine enter 45 Tryd.func23 rfl Tryd.ntmps23 rfl ?_
 unfold ref03_Least at hf
 refine WC.seq ?_
 refine WC.region ?_
 refine WL.new hS 4 [] (fun g => (pt g)) (.cells #[(iv 0), (iv 0), (.slice none 0 0)] 27 (0, 0)) [] (fun fb g => by kernel_rfl) trivial (fun g4 w5 hS6 => ?_)
 refine ⟨trivial, ?_⟩
 refine seg 2 [] [0, 1, 4] [(0, (sv A_p0 p0 c_p0)), (1, (iv p1)), (4, (pt g4))] [] (fun fb => by kernel_rfl) rfl trivial ?_
 refine WL.done rfl ?_
 refine WX.next ?_
 refine WC.seq ?_
 refine WC.seq ?_
 refine WC.region ?_
 refine seg 1 [] [0, 1, 4, 6] [(0, (sv A_p0 p0 c_p0)), (1, (iv p1)), (4, (pt g4)), (6, (iv 1))] [] (fun fb => by kernel_rfl) rfl trivial ?_
 refine WL.done rfl ?_
 refine WX.next ?_
 obtain ⟨x8, hx9, hf⟩ := bind_some hf
 refine WC.cutN (T := Unit) (fun t => [(4, (pt g4))]) (fun t w1 => St NoS w w1 [rowR enc_Tile A_p0 c_p0 p0] [blk g4 (.cells #[(iv 0), (iv 0), (.slice none 0 0)] 27 (0, 0))] ∧ x8 = .inr t) (fun Kx8 => ?_) ?_
 ·
  refine WC.block ?_
  refine WC.loop (T := Int) (fun t => [(0, (sv A_p0 p0 c_p0)), (1, (iv p1)), (4, (pt g4)), (6, (iv t))]) (fun n t w1 => St NoS w w1 [rowR enc_Tile A_p0 c_p0 p0] [blk g4 (.cells #[(iv 0), (iv 0), (.slice none 0 0)] 27 (0, 0))] ∧ ref03_Least.l0 n t p0 p1 = some x8) k 1 [0, 1, 4, 6] rfl ⟨(hS6.subR [0]).sub [0] (by decide), hx9⟩ ?_
  rintro k10 x7 w11 ⟨hS12, hl13⟩
  cases k10 with
  | zero => rw [ref03_Least.l0] at hl13; cases hl13
  | succ k10 =>
   rw [ref03_Least.l0] at hl13
   refine WC.seq ?_
   refine WC.seq ?_
   refine WC.region ?_
   refine seg 5 [] [0, 1, 4, 6, 14] [(0, (sv A_p0 p0 c_p0)), (1, (iv p1)), (4, (pt g4)), (6, (iv x7)), (14, (bv (decide (x7 ≤ w64 (p1 * p1)))))] [] (fun fb => by kernel_rfl) rfl trivial ?_
   refine WL.done rfl ?_
   refine WX.next ?_
   rcases br_some hl13 with ⟨h14, hl13⟩ | ⟨h14, hl13⟩
   ·refine WC.condT2 (fun fb => by kernel_rfl) h14 ?_
    refine WC.skip ?_
    refine WX.next ?_
    refine WC.seq ?_
    refine WC.block ?_
    refine WC.seq ?_
    refine WC.region ?_
    refine seg 1 [] [0, 1, 4, 6, 7] [(0, (sv A_p0 p0 c_p0)), (1, (iv p1)), (4, (pt g4)), (6, (iv x7)), (7, (iv 1))] [] (fun fb => by kernel_rfl) rfl trivial ?_
    refine WL.done rfl ?_
    refine WX.next ?_
    obtain ⟨x16, hx17, hl13⟩ := bind_some hl13
    refine WC.cutN (T := Unit) (fun t => [(0, (sv A_p0 p0 c_p0)), (1, (iv p1)), (4, (pt g4)), (6, (iv x7))]) (fun t w1 => St NoS w w1 [rowR enc_Tile A_p0 c_p0 p0] [blk g4 (.cells #[(iv 0), (iv 0), (.slice none 0 0)] 27 (0, 0))] ∧ x16 = .inr t) (fun Kx16 => ?_) ?_
    ·
     refine WC.block ?_
     refine WC.loop (T := Int) (fun t => [(0, (sv A_p0 p0 c_p0)), (1, (iv p1)), (4, (pt g4)), (6, (iv x7)), (7, (iv t))]) (fun n t w1 => St NoS w w1 [rowR enc_Tile A_p0 c_p0 p0] [blk g4 (.cells #[(iv 0), (iv 0), (.slice none 0 0)] 27 (0, 0))] ∧ ref03_Least.l1 n t p0 p1 x7 = some x16) k10 1 [0, 1, 4, 6, 7] rfl ⟨(hS12.subR [0]).sub [0] (by decide), hx17⟩ ?_
     rintro k18 x15 w19 ⟨hS20, hl21⟩
     cases k18 with
     | zero => rw [ref03_Least.l1] at hl21; cases hl21
     | succ k18 =>
      rw [ref03_Least.l1] at hl21
      refine WC.seq ?_
      refine WC.seq ?_
      refine WC.region ?_
      refine seg 3 [] [0, 1, 4, 6, 7, 19] [(0, (sv A_p0 p0 c_p0)), (1, (iv p1)), (4, (pt g4)), (6, (iv x7)), (7, (iv x15)), (19, (bv (decide (x15 ≤ p1))))] [] (fun fb => by kernel_rfl) rfl trivial ?_
      refine WL.done rfl ?_
      refine WX.next ?_
      rcases br_some hl21 with ⟨h22, hl21⟩ | ⟨h22, hl21⟩
      ·refine WC.condT2 (fun fb => by kernel_rfl) h22 ?_
       refine WC.skip ?_
       refine WX.next ?_
       refine WC.seq ?_
       obtain ⟨x24, hx25, hl21⟩ := bind_some hl21
       refine WC.cutN (T := Unit) (fun t => [(0, (sv A_p0 p0 c_p0)), (1, (iv p1)), (4, (pt g4)), (6, (iv x7)), (7, (iv x15))]) (fun t w1 => St NoS w w1 [rowR enc_Tile A_p0 c_p0 p0] [blk g4 (.cells #[(iv 0), (iv 0), (.slice none 0 0)] 27 (0, 0))] ∧ x24 = .inr t) (fun Kx24 => ?_) ?_
       ·
        refine WC.block ?_
        refine WC.seq ?_
        refine WC.seq ?_
        refine WC.region ?_
        refine seg 2 [] [0, 1, 4, 6, 7, 22, 23] [(0, (sv A_p0 p0 c_p0)), (1, (iv p1)), (4, (pt g4)), (6, (iv x7)), (7, (iv x15)), (22, (iv x7)), (23, (iv x15))] [] (fun fb => by kernel_rfl) rfl trivial ?_
        obtain ⟨h26, hx25⟩ := as_some hx25
        refine seg 5 [] [0, 1, 4, 6, 7, 26] [(0, (sv A_p0 p0 c_p0)), (1, (iv p1)), (4, (pt g4)), (6, (iv x7)), (7, (iv x15)), (26, (bv ((Int.tmod x7 x15) != 0)))] [.ne x15] (fun fb => by kernel_rfl) rfl ⟨h26, trivial⟩ ?_
        refine WL.cutV (T := Bool) 11 (fun t => [(32, (bv t)), (0, (sv A_p0 p0 c_p0)), (1, (iv p1)), (4, (pt g4)), (6, (iv x7)), (7, (iv x15))]) (fun t => (((Int.tmod x7 x15) != 0) || (decide (w64 (Int.tdiv x7 x15) > p1))) = t) (fun K => ?_) ?_
        ·
         rcases Bool.eq_false_or_eq_true ((Int.tmod x7 x15) != 0) with h27 | h27
         ·
          refine WL.setB 26 h27 rfl ?_
          refine seg 11 [] [0, 1, 4, 6, 7, 32] [(0, (sv A_p0 p0 c_p0)), (1, (iv p1)), (4, (pt g4)), (6, (iv x7)), (7, (iv x15)), (32, (bv true))] [] (fun fb => by kernel_rfl) rfl trivial ?_
          exact WL.toV K true [32, 0, 1, 4, 6, 7] rfl (by first | (rw [h27]; done) | (rw [h27]; rfl))
         refine WL.setB 26 h27 rfl ?_
         refine seg 11 [] [0, 1, 4, 6, 7, 32] [(0, (sv A_p0 p0 c_p0)), (1, (iv p1)), (4, (pt g4)), (6, (iv x7)), (7, (iv x15)), (32, (bv (decide (w64 (Int.tdiv x7 x15) > p1))))] [.ne x15] (fun fb => by kernel_rfl) rfl ⟨h26, trivial⟩ ?_
         exact WL.toV K (decide (w64 (Int.tdiv x7 x15) > p1)) [32, 0, 1, 4, 6, 7] rfl (by first | (rw [h27]; done) | (rw [h27]; rfl))
        rintro b28 rfl
        refine WL.done rfl ?_
        refine WX.next ?_
        rcases br_some hx25 with ⟨h29, hx25⟩ | ⟨h29, hx25⟩
        ·refine WC.condT2 (fun fb => by kernel_rfl) h29 ?_
         refine WC.exit ?_
         injection hx25 with hx25
         exact WX.thenX (WX.blockHere (WX.to Kx24 () [0, 1, 4, 6, 7] rfl ⟨(hS20.subR [0]).sub [0] (by decide), hx25.symm⟩))
        refine WC.condF2 (fun fb => by kernel_rfl) h29 ?_
        refine WC.skip ?_
        refine WX.next ?_
        refine WC.seq ?_
        refine WC.region ?_
        refine seg 5 [] [0, 1, 4, 6, 7, 34, 35, 38] [(0, (sv A_p0 p0 c_p0)), (1, (iv p1)), (4, (pt g4)), (6, (iv x7)), (7, (iv x15)), (34, (sv A_p0 p0 c_p0)), (35, (iv x15)), (38, (iv (w64 (Int.tdiv x7 x15))))] [.ne x15] (fun fb => by kernel_rfl) rfl ⟨h26, trivial⟩ ?_
        obtain ⟨t30, ht31, hx25⟩ := bind_some hx25
        refine WL.call (some 39) 20 #[(sv A_p0 p0 c_p0), (iv x15), (iv (w64 (Int.tdiv x7 x15)))] (fun fb => by kernel_rfl) (ref03_Find_calls _ p0 x15 (w64 (Int.tdiv x7 x15)) A_p0 c_p0 t30 _ (hS20.rd 0) ht31) (fun v w32 hR33 => ?_)
        obtain ⟨A35, c36, rfl, hk_⟩ := hR33
        have hS34 : St NoS w w32 [rowR enc_Tile A_p0 c_p0 p0] [rowO 3 encInt A35 c36 t30.1.Cells, blk g4 (.cells #[(iv 0), (iv 0), (.slice none 0 0)] 27 (0, 0))] := hS20.call hk_ [] [0] (fun g hg => hg.elim) (by simp) (by decide)
        refine ⟨trivial, ?_⟩
        refine seg 9 [] [0, 1, 4, 6, 7, 40, 41] [(0, (sv A_p0 p0 c_p0)), (1, (iv p1)), (4, (pt g4)), (6, (iv x7)), (7, (iv x15)), (40, (.agg #[(iv t30.1.Width), (iv t30.1.Height), (sv A35 t30.1.Cells c36)])), (41, (bv t30.2))] [] (fun fb => by kernel_rfl) rfl trivial ?_
        refine WL.new hS34 8 [] (fun g => (pt g)) (.cells #[(iv 0), (iv 0), (.slice none 0 0)] 27 (0, 0)) [] (fun fb g => by kernel_rfl) trivial (fun g37 w38 hS39 => ?_)
        refine ⟨trivial, ?_⟩
        refine WL.store hS39 0 rfl [(0, (iv t30.1.Width)), (1, (iv t30.1.Height)), (2, (sv A35 t30.1.Cells c36))] #[(iv t30.1.Width), (iv t30.1.Height), (sv A35 t30.1.Cells c36)] (fun fb => by kernel_rfl) (by kernel_rfl) rfl [1, 2] (by decide) (by decide) (fun w40 hS41 => ?_)
        refine ⟨trivial, ?_⟩
        refine seg 12 [] [0, 1, 4, 6, 7, 8, 9] [(0, (sv A_p0 p0 c_p0)), (1, (iv p1)), (4, (pt g4)), (6, (iv x7)), (7, (iv x15)), (8, (pt g37)), (9, (bv t30.2))] [] (fun fb => by kernel_rfl) rfl trivial ?_
        refine WL.done rfl ?_
        refine WX.next ?_
        refine WC.seq ?_
        refine WC.region ?_
        refine seg 1 [] [0, 1, 4, 6, 7, 8, 42] [(0, (sv A_p0 p0 c_p0)), (1, (iv p1)), (4, (pt g4)), (6, (iv x7)), (7, (iv x15)), (8, (pt g37)), (42, (bv t30.2))] [] (fun fb => by kernel_rfl) rfl trivial ?_
        refine WL.done rfl ?_
        refine WX.next ?_
        rcases br_some hx25 with ⟨h42, hx25⟩ | ⟨h42, hx25⟩
        ·refine WC.condT2 (fun fb => by kernel_rfl) h42 ?_
         refine WC.seq ?_
         refine WC.region ?_
         refine seg 1 [.v (iv t30.1.Width), .v (iv t30.1.Height), .v (sv A35 t30.1.Cells c36)] [4, 43] [(4, (pt g4)), (43, (.agg #[(iv t30.1.Width), (iv t30.1.Height), (sv A35 t30.1.Cells c36)]))] [.cell ⟨g37, 0, none⟩ (iv t30.1.Width), .cell ⟨g37, 1, none⟩ (iv t30.1.Height), .cell ⟨g37, 2, none⟩ (sv A35 t30.1.Cells c36)] (fun fb => by kernel_rfl) rfl ⟨hS41.cell 0 rfl 0 rfl, hS41.cell 0 rfl 1 rfl, hS41.cell 0 rfl 2 rfl, trivial⟩ ?_
         refine WL.store hS41 2 rfl [(0, (iv t30.1.Width)), (1, (iv t30.1.Height)), (2, (sv A35 t30.1.Cells c36))] #[(iv t30.1.Width), (iv t30.1.Height), (sv A35 t30.1.Cells c36)] (fun fb => by kernel_rfl) (by kernel_rfl) rfl [0, 1] (by decide) (by decide) (fun w43 hS44 => ?_)
         refine ⟨trivial, ?_⟩
         refine seg 3 [] [4, 5] [(4, (pt g4)), (5, (bv true))] [] (fun fb => by kernel_rfl) rfl trivial ?_
         refine WL.done rfl ?_
         refine WX.next ?_
         refine WC.ret ?_
         injection hx25 with hx25
         subst hx25
         injection hl21 with hl21
         subst hl21
         injection hl13 with hl13
         subst hl13
         injection hf with hf
         subst hf
         exact WX.blockR (WX.thenR (WX.thenR (WX.blockR (WX.blockR (WX.thenR (WX.thenR (WX.blockR (WX.thenR (WX.ret_ [.v (iv t30.1.Width), .v (iv t30.1.Height), .v (sv A35 t30.1.Cells c36)] (.tuple #[(.agg #[(iv t30.1.Width), (iv t30.1.Height), (sv A35 t30.1.Cells c36)]), (bv true)]) [.cell ⟨g4, 0, none⟩ (iv t30.1.Width), .cell ⟨g4, 1, none⟩ (iv t30.1.Height), .cell ⟨g4, 2, none⟩ (sv A35 t30.1.Cells c36)] (fun fb => by kernel_rfl) ⟨hS44.cell 0 rfl 0 rfl, hS44.cell 0 rfl 1 rfl, hS44.cell 0 rfl 2 rfl, trivial⟩ ⟨_, rfl, A35, c36, rfl, (hS44.sub [2] (by decide)).noR⟩)))))))))
        refine WC.condF2 (fun fb => by kernel_rfl) h42 ?_
        refine WC.skip ?_
        injection hx25 with hx25
        exact WX.blockN (WX.to Kx24 () [0, 1, 4, 6, 7] rfl ⟨(hS41.subR [0]).sub [2] (by decide), hx25.symm⟩)
       rintro y48 w45 ⟨hS46, hq47⟩
       subst hq47
       have hl21 := sum_inr hl21
       refine WX.next ?_
       refine WC.region ?_
       refine seg 3 [] [0, 1, 4, 6, 7] [(0, (sv A_p0 p0 c_p0)), (1, (iv p1)), (4, (pt g4)), (6, (iv x7)), (7, (iv (w64 (x15 + 1))))] [] (fun fb => by kernel_rfl) rfl trivial ?_
       refine WL.done rfl ?_
       exact WX.again k18 (Nat.lt_succ_self _) (w64 (x15 + 1)) [0, 1, 4, 6, 7] rfl ⟨(hS46.subR [0]).sub [0] (by decide), hl21⟩
      refine WC.condF2 (fun fb => by kernel_rfl) h22 ?_
      refine WC.exit ?_
      injection hl21 with hl21
      exact WX.thenX (WX.thenX (WX.blockHere (WX.to Kx16 () [0, 1, 4, 6] rfl ⟨(hS20.subR [0]).sub [0] (by decide), hl21.symm⟩)))
    rintro y52 w49 ⟨hS50, hq51⟩
    subst hq51
    have hl13 := sum_inr hl13
    refine WX.blockN (WX.next ?_)
    refine WC.region ?_
    refine seg 3 [] [0, 1, 4, 6] [(0, (sv A_p0 p0 c_p0)), (1, (iv p1)), (4, (pt g4)), (6, (iv (w64 (x7 + 1))))] [] (fun fb => by kernel_rfl) rfl trivial ?_
    refine WL.done rfl ?_
    exact WX.again k10 (Nat.lt_succ_self _) (w64 (x7 + 1)) [0, 1, 4, 6] rfl ⟨(hS50.subR [0]).sub [0] (by decide), hl13⟩
   refine WC.condF2 (fun fb => by kernel_rfl) h14 ?_
   refine WC.exit ?_
   injection hl13 with hl13
   exact WX.thenX (WX.thenX (WX.blockHere (WX.to Kx8 () [4] rfl ⟨(hS12.subR [0]).sub [0] (by decide), hl13.symm⟩)))
 rintro y56 w53 ⟨hS54, hq55⟩
 subst hq55
 have hf := sum_inr hf
 refine WX.next ?_
 refine WC.seq ?_
 refine WC.region ?_
 refine seg 1 [] [4, 44] [(4, (pt g4)), (44, (.agg #[(iv 0), (iv 0), (.slice none 0 0)]))] [] (fun fb => by kernel_rfl) rfl trivial ?_
 refine WL.store hS54 0 rfl [(0, (iv 0)), (1, (iv 0)), (2, (.slice none 0 0))] #[(iv 0), (iv 0), (.slice none 0 0)] (fun fb => by kernel_rfl) (by kernel_rfl) rfl [] (by decide) (by decide) (fun w57 hS58 => ?_)
 refine ⟨trivial, ?_⟩
 refine seg 3 [] [4, 5] [(4, (pt g4)), (5, (bv false))] [] (fun fb => by kernel_rfl) rfl trivial ?_
 refine WL.done rfl ?_
 refine WX.next ?_
 refine WC.ret ?_
 have hS59 := hS58.nilrow 3 encInt
 injection hf with hf
 subst hf
 exact WX.ret_ [.v (iv 0), .v (iv 0), .v (.slice none 0 0)] (.tuple #[(.agg #[(iv 0), (iv 0), (sv none ([] : List Int) 0)]), (bv false)]) [.cell ⟨g4, 0, none⟩ (iv 0), .cell ⟨g4, 1, none⟩ (iv 0), .cell ⟨g4, 2, none⟩ (.slice none 0 0)] (fun fb => by kernel_rfl) ⟨hS58.cell 0 rfl 0 rfl, hS58.cell 0 rfl 1 rfl, hS58.cell 0 rfl 2 rfl, trivial⟩ ⟨_, rfl, none, 0, rfl, (hS59.sub [0] (by decide)).noR⟩
theorem law03_is_calls (k : Nat) (p0 : Pattern) (p1 : Int) (p2 : Pattern) (p3 : Bool) (A_p0_Cells : Option Addr) (c_p0_Cells : Nat) (A_p2_Cells : Option Addr) (c_p2_Cells : Nat) (r : Bool) (w : World) (hR0 : RO NoS w (rowR encInt A_p0_Cells c_p0_Cells p0.Cells)) (hR1 : RO NoS w (rowR encInt A_p2_Cells c_p2_Cells p2.Cells)) (hf : law03_is k p0 p1 p2 p3 = some r) :
  CallsR Tryd.prog 21 #[(.agg #[(iv p0.Width), (iv p0.Height), (sv A_p0_Cells p0.Cells c_p0_Cells)]), (iv p1), (.agg #[(iv p2.Width), (iv p2.Height), (sv A_p2_Cells p2.Cells c_p2_Cells)]), (bv p3)] w (fun v w' => v = (bv r) ∧ Keeps NoS w w') := by
 have hS : St NoS w w [rowR encInt A_p0_Cells c_p0_Cells p0.Cells, rowR encInt A_p2_Cells c_p2_Cells p2.Cells] [] := St.init (ro_cons hR0 (ro_cons hR1 (ro_nil _ _)))
 refine enter 25 Tryd.func21 rfl Tryd.ntmps21 rfl ?_
 unfold law03_is at hf
 refine WC.seq ?_
 refine WC.region ?_
 refine WL.new hS 4 [] (fun g => (pt g)) (.cells #[(iv p0.Width), (iv p0.Height), (sv A_p0_Cells p0.Cells c_p0_Cells)] 27 (0, 0)) [] (fun fb g => by kernel_rfl) trivial (fun g4 w5 hS6 => ?_)
 refine ⟨trivial, ?_⟩
 refine WL.new hS6 6 [] (fun g => (pt g)) (.cells #[(iv p2.Width), (iv p2.Height), (sv A_p2_Cells p2.Cells c_p2_Cells)] 27 (0, 0)) [] (fun fb g => by kernel_rfl) trivial (fun g7 w8 hS9 => ?_)
 refine ⟨trivial, ?_⟩
 refine seg 3 [] [1, 3, 4, 6] [(1, (iv p1)), (3, (bv p3)), (4, (pt g4)), (6, (pt g7))] [] (fun fb => by kernel_rfl) rfl trivial ?_
 refine WL.done rfl ?_
 refine WX.next ?_
 refine WC.seq ?_
 refine WC.seq ?_
 refine WC.region ?_
 refine seg 2 [] [1, 4, 6, 10] [(1, (iv p1)), (4, (pt g4)), (6, (pt g7)), (10, (bv (!p3)))] [] (fun fb => by kernel_rfl) rfl trivial ?_
 refine WL.done rfl ?_
 refine WX.next ?_
 rcases br_some hf with ⟨h10, hf⟩ | ⟨h10, hf⟩
 ·refine WC.condT2 (fun fb => by kernel_rfl) h10 ?_
  refine WC.seq ?_
  refine WC.region ?_
  refine seg 3 [] [4, 13] [(4, (pt g4)), (13, (bv (p1 == 6)))] [] (fun fb => by kernel_rfl) rfl trivial ?_
  obtain ⟨x11, hx12, hf⟩ := bind_some hf
  refine WL.cutW (T := Bool) 7 (fun t => [(17, (bv t))]) (fun t w1 => (St NoS w w1 [rowR encInt A_p0_Cells c_p0_Cells p0.Cells, rowR encInt A_p2_Cells c_p2_Cells p2.Cells] [] ∧ x11 = t) ∧ CellsOK [] w1) (fun K => ?_) ?_
  ·
   rcases br_some hx12 with ⟨h13, hx12⟩ | ⟨h13, hx12⟩
   ·
    refine WL.setB 13 h13 rfl ?_
    refine seg 5 [.v (iv p0.Width), .v (iv p0.Height), .v (sv A_p0_Cells p0.Cells c_p0_Cells)] [13, 14, 15] [(13, (bv true)), (14, (.agg #[(iv p0.Width), (iv p0.Height), (sv A_p0_Cells p0.Cells c_p0_Cells)])), (15, (.agg #[(iv 0), (iv 0), (.slice none 0 0)]))] [.cell ⟨g4, 0, none⟩ (iv p0.Width), .cell ⟨g4, 1, none⟩ (iv p0.Height), .cell ⟨g4, 2, none⟩ (sv A_p0_Cells p0.Cells c_p0_Cells)] (fun fb => by kernel_rfl) rfl ⟨hS9.cell 1 rfl 0 rfl, hS9.cell 1 rfl 1 rfl, hS9.cell 1 rfl 2 rfl, trivial⟩ ?_
    obtain ⟨t14, ht15, hx12⟩ := bind_some hx12
    refine WL.call (some 16) 32 #[(.agg #[(iv p0.Width), (iv p0.Height), (sv A_p0_Cells p0.Cells c_p0_Cells)]), (.agg #[(iv 0), (iv 0), (.slice none 0 0)])] (fun fb => by kernel_rfl) (ref01_SamePattern_calls _ p0 (Pattern.mk 0 0 ([] : List Int)) A_p0_Cells c_p0_Cells none 0 t14 _ (hS9.rd 0) (RO.nilR _ _ _) ht15) (fun v w16 hR17 => ?_)
    obtain ⟨rfl, hk_⟩ := hR17
    have hS18 := hS9.keepN hk_
    refine ⟨trivial, ?_⟩
    refine seg 7 [] [17] [(17, (bv t14))] [] (fun fb => by kernel_rfl) rfl trivial ?_
    injection hx12 with hx12
    exact WL.to K t14 [17] rfl ⟨⟨(hS18.subR [0, 1]).sub [] (by decide), hx12.symm⟩, trivial⟩
   refine WL.setB 13 h13 rfl ?_
   refine seg 7 [] [17] [(17, (bv false))] [] (fun fb => by kernel_rfl) rfl trivial ?_
   injection hx12 with hx12
   exact WL.to K false [17] rfl ⟨⟨(hS9.subR [0, 1]).sub [] (by decide), hx12.symm⟩, trivial⟩
  rintro y19 w22 ⟨⟨hS23, hq20⟩, hF24⟩
  subst hq20
  refine seg 8 [] [8] [(8, (bv x11))] [] (fun fb => by kernel_rfl) rfl trivial ?_
  refine WL.done rfl ?_
  refine WX.next ?_
  refine WC.ret ?_
  injection hf with hf
  subst hf
  exact WX.thenR (WX.ret_ [] (bv x11) [] (fun fb => by kernel_rfl) trivial ⟨_, rfl, rfl, hS23.keep⟩)
 refine WC.condF2 (fun fb => by kernel_rfl) h10 ?_
 refine WC.skip ?_
 refine WX.next ?_
 refine WC.seq ?_
 refine WC.region ?_
 refine seg 3 [] [4, 6, 20] [(4, (pt g4)), (6, (pt g7)), (20, (bv (p1 == 0)))] [] (fun fb => by kernel_rfl) rfl trivial ?_
 obtain ⟨x25, hx26, hf⟩ := bind_some hf
 refine WL.cutW (T := Bool) 7 (fun t => [(24, (bv t))]) (fun t w1 => (St NoS w w1 [rowR encInt A_p0_Cells c_p0_Cells p0.Cells, rowR encInt A_p2_Cells c_p2_Cells p2.Cells] [] ∧ x25 = t) ∧ CellsOK [] w1) (fun K => ?_) ?_
 ·
  rcases br_some hx26 with ⟨h27, hx26⟩ | ⟨h27, hx26⟩
  ·
   refine WL.setB 20 h27 rfl ?_
   refine seg 5 [.v (iv p0.Width), .v (iv p0.Height), .v (sv A_p0_Cells p0.Cells c_p0_Cells), .v (iv p2.Width), .v (iv p2.Height), .v (sv A_p2_Cells p2.Cells c_p2_Cells)] [20, 21, 22] [(20, (bv true)), (21, (.agg #[(iv p0.Width), (iv p0.Height), (sv A_p0_Cells p0.Cells c_p0_Cells)])), (22, (.agg #[(iv p2.Width), (iv p2.Height), (sv A_p2_Cells p2.Cells c_p2_Cells)]))] [.cell ⟨g4, 0, none⟩ (iv p0.Width), .cell ⟨g4, 1, none⟩ (iv p0.Height), .cell ⟨g4, 2, none⟩ (sv A_p0_Cells p0.Cells c_p0_Cells), .cell ⟨g7, 0, none⟩ (iv p2.Width), .cell ⟨g7, 1, none⟩ (iv p2.Height), .cell ⟨g7, 2, none⟩ (sv A_p2_Cells p2.Cells c_p2_Cells)] (fun fb => by kernel_rfl) rfl ⟨hS9.cell 1 rfl 0 rfl, hS9.cell 1 rfl 1 rfl, hS9.cell 1 rfl 2 rfl, hS9.cell 0 rfl 0 rfl, hS9.cell 0 rfl 1 rfl, hS9.cell 0 rfl 2 rfl, trivial⟩ ?_
   obtain ⟨t28, ht29, hx26⟩ := bind_some hx26
   refine WL.call (some 23) 32 #[(.agg #[(iv p0.Width), (iv p0.Height), (sv A_p0_Cells p0.Cells c_p0_Cells)]), (.agg #[(iv p2.Width), (iv p2.Height), (sv A_p2_Cells p2.Cells c_p2_Cells)])] (fun fb => by kernel_rfl) (ref01_SamePattern_calls _ p0 p2 A_p0_Cells c_p0_Cells A_p2_Cells c_p2_Cells t28 _ (hS9.rd 0) (hS9.rd 1) ht29) (fun v w30 hR31 => ?_)
   obtain ⟨rfl, hk_⟩ := hR31
   have hS32 := hS9.keepN hk_
   refine ⟨trivial, ?_⟩
   refine seg 7 [] [24] [(24, (bv t28))] [] (fun fb => by kernel_rfl) rfl trivial ?_
   injection hx26 with hx26
   exact WL.to K t28 [24] rfl ⟨⟨(hS32.subR [0, 1]).sub [] (by decide), hx26.symm⟩, trivial⟩
  refine WL.setB 20 h27 rfl ?_
  refine seg 7 [] [24] [(24, (bv false))] [] (fun fb => by kernel_rfl) rfl trivial ?_
  injection hx26 with hx26
  exact WL.to K false [24] rfl ⟨⟨(hS9.subR [0, 1]).sub [] (by decide), hx26.symm⟩, trivial⟩
 rintro y33 w35 ⟨⟨hS36, hq34⟩, hF37⟩
 subst hq34
 refine seg 8 [] [8] [(8, (bv x25))] [] (fun fb => by kernel_rfl) rfl trivial ?_
 refine WL.done rfl ?_
 refine WX.next ?_
 refine WC.ret ?_
 injection hf with hf
 subst hf
 exact WX.ret_ [] (bv x25) [] (fun fb => by kernel_rfl) trivial ⟨_, rfl, rfl, hS36.keep⟩
theorem law03_TorusLeast_calls (k : Nat) (p0 : List Tile) (p1 : Int) (A_p0 : Option Addr) (c_p0 : Nat) (mG : Int) (r : Bool) (w : World) (hR0 : RO NoS w (rowR enc_Tile A_p0 c_p0 p0)) (hR1 : RO NoS w (cel ⟨2, 0, none⟩ (iv mG))) (hf : law03_TorusLeast k p0 p1 = some r) :
  CallsR Tryd.prog 4 #[(sv A_p0 p0 c_p0), (iv p1)] w (fun v w' => v = (bv r) ∧ Keeps NoS w w') := by
 have hS : St NoS w w [rowR enc_Tile A_p0 c_p0 p0, cel ⟨2, 0, none⟩ (iv mG)] [] := St.init (ro_cons hR0 (ro_cons hR1 (ro_nil _ _)))
 refine enter 84 Tryd.func4 rfl Tryd.ntmps4 rfl ?_
 unfold law03_TorusLeast at hf
 refine WC.seq ?_
 refine WC.region ?_
 refine seg 1 [] [0, 1] [(0, (sv A_p0 p0 c_p0)), (1, (iv p1))] [] (fun fb => by kernel_rfl) rfl trivial ?_
 refine WL.done rfl ?_
 refine WX.next ?_
 refine WC.seq ?_
 refine WC.seq ?_
 refine WC.region ?_
 refine seg 3 [] [0, 1, 13] [(0, (sv A_p0 p0 c_p0)), (1, (iv p1)), (13, (bv (decide ((p0.length : Int) > 1100))))] [] (fun fb => by kernel_rfl) rfl trivial ?_
 refine WL.done rfl ?_
 refine WX.next ?_
 rcases br_some hf with ⟨h1, hf⟩ | ⟨h1, hf⟩
 ·refine WC.condT2 (fun fb => by kernel_rfl) h1 ?_
  refine WC.seq ?_
  refine WC.region ?_
  obtain ⟨t5, ht6, hf⟩ := bind_some hf
  refine WL.call (some 14) 14 #[] (fun fb => by kernel_rfl) (law03_awake_calls _ mG t5 _ (hS.rd 1) ht6) (fun v w7 hR8 => ?_)
  obtain ⟨rfl, hk_⟩ := hR8
  have hS9 := hS.keepN hk_
  refine ⟨trivial, ?_⟩
  refine seg 2 [] [4] [(4, (bv t5))] [] (fun fb => by kernel_rfl) rfl trivial ?_
  refine WL.done rfl ?_
  refine WX.next ?_
  refine WC.ret ?_
  injection hf with hf
  subst hf
  exact WX.thenR (WX.ret_ [] (bv t5) [] (fun fb => by kernel_rfl) trivial ⟨_, rfl, rfl, hS9.keep⟩)
 refine WC.condF2 (fun fb => by kernel_rfl) h1 ?_
 refine WC.skip ?_
 refine WX.next ?_
 refine WC.seq ?_
 refine WC.seq ?_
 refine WC.region ?_
 refine seg 1 [] [0, 1, 15] [(0, (sv A_p0 p0 c_p0)), (1, (iv p1)), (15, (sv A_p0 p0 c_p0))] [] (fun fb => by kernel_rfl) rfl trivial ?_
 obtain ⟨t10, ht11, hf⟩ := bind_some hf
 refine WL.call (some 16) 15 #[(sv A_p0 p0 c_p0)] (fun fb => by kernel_rfl) (ref01_Valid_calls _ p0 A_p0 c_p0 t10 _ (hS.rd 0) ht11) (fun v w12 hR13 => ?_)
 obtain ⟨rfl, hk_⟩ := hR13
 have hS14 := hS.keepN hk_
 refine ⟨trivial, ?_⟩
 refine seg 4 [] [0, 1, 18] [(0, (sv A_p0 p0 c_p0)), (1, (iv p1)), (18, (bv (!t10)))] [] (fun fb => by kernel_rfl) rfl trivial ?_
 refine WL.cutV (T := Bool) 7 (fun t => [(21, (bv t)), (0, (sv A_p0 p0 c_p0)), (1, (iv p1))]) (fun t => ((!t10) || (decide (p1 < 1))) = t) (fun K => ?_) ?_
 ·
  rcases Bool.eq_false_or_eq_true (!t10) with h15 | h15
  ·
   refine WL.setB 18 h15 rfl ?_
   refine seg 7 [] [0, 1, 21] [(0, (sv A_p0 p0 c_p0)), (1, (iv p1)), (21, (bv true))] [] (fun fb => by kernel_rfl) rfl trivial ?_
   exact WL.toV K true [21, 0, 1] rfl (by first | (rw [h15]; done) | (rw [h15]; rfl))
  refine WL.setB 18 h15 rfl ?_
  refine seg 7 [] [0, 1, 21] [(0, (sv A_p0 p0 c_p0)), (1, (iv p1)), (21, (bv (decide (p1 < 1))))] [] (fun fb => by kernel_rfl) rfl trivial ?_
  exact WL.toV K (decide (p1 < 1)) [21, 0, 1] rfl (by first | (rw [h15]; done) | (rw [h15]; rfl))
 rintro b16 rfl
 refine seg 8 [] [0, 1, 22] [(0, (sv A_p0 p0 c_p0)), (1, (iv p1)), (22, (bv ((!t10) || (decide (p1 < 1)))))] [] (fun fb => by kernel_rfl) rfl trivial ?_
 refine WL.cutV (T := Bool) 11 (fun t => [(25, (bv t)), (0, (sv A_p0 p0 c_p0)), (1, (iv p1))]) (fun t => (((!t10) || (decide (p1 < 1))) || (decide (p1 > 6))) = t) (fun K => ?_) ?_
 ·
  rcases Bool.eq_false_or_eq_true ((!t10) || (decide (p1 < 1))) with h17 | h17
  ·
   refine WL.setB 22 h17 rfl ?_
   refine seg 11 [] [0, 1, 25] [(0, (sv A_p0 p0 c_p0)), (1, (iv p1)), (25, (bv true))] [] (fun fb => by kernel_rfl) rfl trivial ?_
   exact WL.toV K true [25, 0, 1] rfl (by first | (rw [h17]; done) | (rw [h17]; rfl))
  refine WL.setB 22 h17 rfl ?_
  refine seg 11 [] [0, 1, 25] [(0, (sv A_p0 p0 c_p0)), (1, (iv p1)), (25, (bv (decide (p1 > 6))))] [] (fun fb => by kernel_rfl) rfl trivial ?_
  exact WL.toV K (decide (p1 > 6)) [25, 0, 1] rfl (by first | (rw [h17]; done) | (rw [h17]; rfl))
 rintro b18 rfl
 refine WL.done rfl ?_
 refine WX.next ?_
 rcases br_some hf with ⟨h19, hf⟩ | ⟨h19, hf⟩
 ·refine WC.condT2 (fun fb => by kernel_rfl) h19 ?_
  refine WC.seq ?_
  refine WC.region ?_
  refine seg 2 [] [0, 27, 28] [(0, (sv A_p0 p0 c_p0)), (27, (sv A_p0 p0 c_p0)), (28, (iv p1))] [] (fun fb => by kernel_rfl) rfl trivial ?_
  obtain ⟨t20, ht21, hf⟩ := bind_some hf
  refine WL.call (some 29) 22 #[(sv A_p0 p0 c_p0), (iv p1)] (fun fb => by kernel_rfl) (torus_Least_calls _ p0 p1 A_p0 c_p0 t20 _ (hS14.rd 0) ht21) (fun v w22 hR23 => ?_)
  obtain ⟨A25, c26, rfl, hk_⟩ := hR23
  have hS24 : St NoS w w22 [rowR enc_Tile A_p0 c_p0 p0, cel ⟨2, 0, none⟩ (iv mG)] [rowO 3 encInt A25 c26 t20.1.Cells] := hS14.call hk_ [] [] (fun g hg => hg.elim) (by simp) (by decide)
  refine ⟨trivial, ?_⟩
  refine seg 6 [] [0, 30, 31] [(0, (sv A_p0 p0 c_p0)), (30, (.agg #[(iv t20.1.Width), (iv t20.1.Height), (sv A25 t20.1.Cells c26)])), (31, (iv t20.2))] [] (fun fb => by kernel_rfl) rfl trivial ?_
  refine WL.new hS24 5 [] (fun g => (pt g)) (.cells #[(iv 0), (iv 0), (.slice none 0 0)] 27 (0, 0)) [] (fun fb g => by kernel_rfl) trivial (fun g27 w28 hS29 => ?_)
  refine ⟨trivial, ?_⟩
  refine WL.store hS29 0 rfl [(0, (iv t20.1.Width)), (1, (iv t20.1.Height)), (2, (sv A25 t20.1.Cells c26))] #[(iv t20.1.Width), (iv t20.1.Height), (sv A25 t20.1.Cells c26)] (fun fb => by kernel_rfl) (by kernel_rfl) rfl [1] (by decide) (by decide) (fun w30 hS31 => ?_)
  refine ⟨trivial, ?_⟩
  refine seg 9 [] [0, 5, 6] [(0, (sv A_p0 p0 c_p0)), (5, (pt g27)), (6, (iv t20.2))] [] (fun fb => by kernel_rfl) rfl trivial ?_
  refine WL.done rfl ?_
  refine WX.next ?_
  refine WC.seq ?_
  refine WC.seq ?_
  refine WC.region ?_
  refine seg 1 [] [5, 6, 32] [(5, (pt g27)), (6, (iv t20.2)), (32, (sv A_p0 p0 c_p0))] [] (fun fb => by kernel_rfl) rfl trivial ?_
  obtain ⟨t32, ht33, hf⟩ := bind_some hf
  refine WL.call (some 33) 15 #[(sv A_p0 p0 c_p0)] (fun fb => by kernel_rfl) (ref01_Valid_calls _ p0 A_p0 c_p0 t32 _ (hS31.rd 0) ht33) (fun v w34 hR35 => ?_)
  obtain ⟨rfl, hk_⟩ := hR35
  have hS36 := hS31.keepN hk_
  refine ⟨trivial, ?_⟩
  refine seg 3 [] [5, 6, 34] [(5, (pt g27)), (6, (iv t20.2)), (34, (bv (!t32)))] [] (fun fb => by kernel_rfl) rfl trivial ?_
  refine WL.done rfl ?_
  refine WX.next ?_
  rcases br_some hf with ⟨h37, hf⟩ | ⟨h37, hf⟩
  ·refine WC.condT2 (fun fb => by kernel_rfl) h37 ?_
   refine WC.seq ?_
   refine WC.region ?_
   refine seg 2 [.v (iv t20.1.Width), .v (iv t20.1.Height), .v (sv A25 t20.1.Cells c26)] [35, 36] [(35, (.agg #[(iv t20.1.Width), (iv t20.1.Height), (sv A25 t20.1.Cells c26)])), (36, (iv t20.2))] [.cell ⟨g27, 0, none⟩ (iv t20.1.Width), .cell ⟨g27, 1, none⟩ (iv t20.1.Height), .cell ⟨g27, 2, none⟩ (sv A25 t20.1.Cells c26)] (fun fb => by kernel_rfl) rfl ⟨hS36.cell 0 rfl 0 rfl, hS36.cell 0 rfl 1 rfl, hS36.cell 0 rfl 2 rfl, trivial⟩ ?_
   obtain ⟨t38, ht39, hf⟩ := bind_some hf
   refine WL.call (some 37) 17 #[(.agg #[(iv t20.1.Width), (iv t20.1.Height), (sv A25 t20.1.Cells c26)]), (iv t20.2), (iv 1)] (fun fb => by kernel_rfl) (law03_no_calls _ t20.1 t20.2 1 A25 c26 t38 _ (hS36.ow 1).ofO ht39) (fun v w40 hR41 => ?_)
   obtain ⟨rfl, hk_⟩ := hR41
   have hS42 := hS36.keepN hk_
   refine ⟨trivial, ?_⟩
   refine seg 4 [] [38] [(38, (bv t38))] [] (fun fb => by kernel_rfl) rfl trivial ?_
   obtain ⟨x43, hx44, hf⟩ := bind_some hf
   refine WL.cutW (T := Bool) 6 (fun t => [(40, (bv t))]) (fun t w1 => (St NoS w w1 [rowR enc_Tile A_p0 c_p0 p0, cel ⟨2, 0, none⟩ (iv mG)] [] ∧ x43 = t) ∧ CellsOK [] w1) (fun K => ?_) ?_
   ·
    rcases br_some hx44 with ⟨h45, hx44⟩ | ⟨h45, hx44⟩
    ·
     refine WL.setB 38 h45 rfl ?_
     obtain ⟨t46, ht47, hx44⟩ := bind_some hx44
     refine WL.call (some 39) 14 #[] (fun fb => by kernel_rfl) (law03_awake_calls _ mG t46 _ (hS42.rd 1) ht47) (fun v w48 hR49 => ?_)
     obtain ⟨rfl, hk_⟩ := hR49
     have hS50 := hS42.keepN hk_
     refine ⟨trivial, ?_⟩
     refine seg 6 [] [40] [(40, (bv t46))] [] (fun fb => by kernel_rfl) rfl trivial ?_
     injection hx44 with hx44
     exact WL.to K t46 [40] rfl ⟨⟨(hS50.subR [0, 1]).sub [] (by decide), hx44.symm⟩, trivial⟩
    refine WL.setB 38 h45 rfl ?_
    refine seg 6 [] [40] [(40, (bv false))] [] (fun fb => by kernel_rfl) rfl trivial ?_
    injection hx44 with hx44
    exact WL.to K false [40] rfl ⟨⟨(hS42.subR [0, 1]).sub [] (by decide), hx44.symm⟩, trivial⟩
   rintro y51 w53 ⟨⟨hS54, hq52⟩, hF55⟩
   subst hq52
   refine seg 7 [] [4] [(4, (bv x43))] [] (fun fb => by kernel_rfl) rfl trivial ?_
   refine WL.done rfl ?_
   refine WX.next ?_
   refine WC.ret ?_
   injection hf with hf
   subst hf
   exact WX.thenR (WX.thenR (WX.ret_ [] (bv x43) [] (fun fb => by kernel_rfl) trivial ⟨_, rfl, rfl, hS54.keep⟩))
  refine WC.condF2 (fun fb => by kernel_rfl) h37 ?_
  refine WC.skip ?_
  refine WX.next ?_
  refine WC.seq ?_
  refine WC.region ?_
  refine seg 2 [.v (iv t20.1.Width), .v (iv t20.1.Height), .v (sv A25 t20.1.Cells c26)] [41, 42] [(41, (.agg #[(iv t20.1.Width), (iv t20.1.Height), (sv A25 t20.1.Cells c26)])), (42, (iv t20.2))] [.cell ⟨g27, 0, none⟩ (iv t20.1.Width), .cell ⟨g27, 1, none⟩ (iv t20.1.Height), .cell ⟨g27, 2, none⟩ (sv A25 t20.1.Cells c26)] (fun fb => by kernel_rfl) rfl ⟨hS36.cell 0 rfl 0 rfl, hS36.cell 0 rfl 1 rfl, hS36.cell 0 rfl 2 rfl, trivial⟩ ?_
  obtain ⟨t56, ht57, hf⟩ := bind_some hf
  refine WL.call (some 43) 17 #[(.agg #[(iv t20.1.Width), (iv t20.1.Height), (sv A25 t20.1.Cells c26)]), (iv t20.2), (iv 2)] (fun fb => by kernel_rfl) (law03_no_calls _ t20.1 t20.2 2 A25 c26 t56 _ (hS36.ow 1).ofO ht57) (fun v w58 hR59 => ?_)
  obtain ⟨rfl, hk_⟩ := hR59
  have hS60 := hS36.keepN hk_
  refine ⟨trivial, ?_⟩
  refine seg 4 [] [44] [(44, (bv t56))] [] (fun fb => by kernel_rfl) rfl trivial ?_
  obtain ⟨x61, hx62, hf⟩ := bind_some hf
  refine WL.cutW (T := Bool) 6 (fun t => [(46, (bv t))]) (fun t w1 => (St NoS w w1 [rowR enc_Tile A_p0 c_p0 p0, cel ⟨2, 0, none⟩ (iv mG)] [] ∧ x61 = t) ∧ CellsOK [] w1) (fun K => ?_) ?_
  ·
   rcases br_some hx62 with ⟨h63, hx62⟩ | ⟨h63, hx62⟩
   ·
    refine WL.setB 44 h63 rfl ?_
    obtain ⟨t65, ht66, hx62⟩ := bind_some hx62
    refine WL.call (some 45) 14 #[] (fun fb => by kernel_rfl) (law03_awake_calls _ mG t65 _ (hS60.rd 1) ht66) (fun v w67 hR68 => ?_)
    obtain ⟨rfl, hk_⟩ := hR68
    have hS69 := hS60.keepN hk_
    refine ⟨trivial, ?_⟩
    refine seg 6 [] [46] [(46, (bv t65))] [] (fun fb => by kernel_rfl) rfl trivial ?_
    injection hx62 with hx62
    exact WL.to K t65 [46] rfl ⟨⟨(hS69.subR [0, 1]).sub [] (by decide), hx62.symm⟩, trivial⟩
   refine WL.setB 44 h63 rfl ?_
   refine seg 6 [] [46] [(46, (bv false))] [] (fun fb => by kernel_rfl) rfl trivial ?_
   injection hx62 with hx62
   exact WL.to K false [46] rfl ⟨⟨(hS60.subR [0, 1]).sub [] (by decide), hx62.symm⟩, trivial⟩
  rintro y70 w72 ⟨⟨hS73, hq71⟩, hF74⟩
  subst hq71
  refine seg 7 [] [4] [(4, (bv x61))] [] (fun fb => by kernel_rfl) rfl trivial ?_
  refine WL.done rfl ?_
  refine WX.next ?_
  refine WC.ret ?_
  injection hf with hf
  subst hf
  exact WX.thenR (WX.ret_ [] (bv x61) [] (fun fb => by kernel_rfl) trivial ⟨_, rfl, rfl, hS73.keep⟩)
 refine WC.condF2 (fun fb => by kernel_rfl) h19 ?_
 refine WC.skip ?_
 refine WX.next ?_
 refine WC.seq ?_
 refine WC.seq ?_
 refine WC.region ?_
 refine seg 2 [] [0, 1, 47, 48] [(0, (sv A_p0 p0 c_p0)), (1, (iv p1)), (47, (sv A_p0 p0 c_p0)), (48, (iv p1))] [] (fun fb => by kernel_rfl) rfl trivial ?_
 obtain ⟨t75, ht76, hf⟩ := bind_some hf
 refine WL.call (some 49) 18 #[(sv A_p0 p0 c_p0), (iv p1)] (fun fb => by kernel_rfl) (ref03_Heavy_calls _ p0 p1 A_p0 c_p0 t75 _ (hS14.rd 0) ht76) (fun v w77 hR78 => ?_)
 obtain ⟨rfl, hk_⟩ := hR78
 have hS79 := hS14.keepN hk_
 refine ⟨trivial, ?_⟩
 refine WL.done rfl ?_
 refine WX.next ?_
 rcases br_some hf with ⟨h80, hf⟩ | ⟨h80, hf⟩
 ·refine WC.condT2 (fun fb => by kernel_rfl) h80 ?_
  refine WC.seq ?_
  refine WC.region ?_
  obtain ⟨t81, ht82, hf⟩ := bind_some hf
  refine WL.call (some 50) 14 #[] (fun fb => by kernel_rfl) (law03_awake_calls _ mG t81 _ (hS79.rd 1) ht82) (fun v w83 hR84 => ?_)
  obtain ⟨rfl, hk_⟩ := hR84
  have hS85 := hS79.keepN hk_
  refine ⟨trivial, ?_⟩
  refine seg 2 [] [4] [(4, (bv t81))] [] (fun fb => by kernel_rfl) rfl trivial ?_
  refine WL.done rfl ?_
  refine WX.next ?_
  refine WC.ret ?_
  injection hf with hf
  subst hf
  exact WX.thenR (WX.ret_ [] (bv t81) [] (fun fb => by kernel_rfl) trivial ⟨_, rfl, rfl, hS85.keep⟩)
 refine WC.condF2 (fun fb => by kernel_rfl) h80 ?_
 refine WC.skip ?_
 refine WX.next ?_
 refine WC.seq ?_
 refine WC.region ?_
 refine seg 2 [] [0, 1, 52, 53] [(0, (sv A_p0 p0 c_p0)), (1, (iv p1)), (52, (sv A_p0 p0 c_p0)), (53, (iv p1))] [] (fun fb => by kernel_rfl) rfl trivial ?_
 obtain ⟨t86, ht87, hf⟩ := bind_some hf
 refine WL.call (some 54) 22 #[(sv A_p0 p0 c_p0), (iv p1)] (fun fb => by kernel_rfl) (torus_Least_calls _ p0 p1 A_p0 c_p0 t86 _ (hS79.rd 0) ht87) (fun v w88 hR89 => ?_)
 obtain ⟨A91, c92, rfl, hk_⟩ := hR89
 have hS90 : St NoS w w88 [rowR enc_Tile A_p0 c_p0 p0, cel ⟨2, 0, none⟩ (iv mG)] [rowO 3 encInt A91 c92 t86.1.Cells] := hS79.call hk_ [] [] (fun g hg => hg.elim) (by simp) (by decide)
 refine ⟨trivial, ?_⟩
 refine seg 6 [] [0, 1, 55, 56] [(0, (sv A_p0 p0 c_p0)), (1, (iv p1)), (55, (.agg #[(iv t86.1.Width), (iv t86.1.Height), (sv A91 t86.1.Cells c92)])), (56, (iv t86.2))] [] (fun fb => by kernel_rfl) rfl trivial ?_
 refine WL.new hS90 7 [] (fun g => (pt g)) (.cells #[(iv 0), (iv 0), (.slice none 0 0)] 27 (0, 0)) [] (fun fb g => by kernel_rfl) trivial (fun g93 w94 hS95 => ?_)
 refine ⟨trivial, ?_⟩
 refine WL.store hS95 0 rfl [(0, (iv t86.1.Width)), (1, (iv t86.1.Height)), (2, (sv A91 t86.1.Cells c92))] #[(iv t86.1.Width), (iv t86.1.Height), (sv A91 t86.1.Cells c92)] (fun fb => by kernel_rfl) (by kernel_rfl) rfl [1] (by decide) (by decide) (fun w96 hS97 => ?_)
 refine ⟨trivial, ?_⟩
 refine seg 9 [] [0, 1, 7, 8] [(0, (sv A_p0 p0 c_p0)), (1, (iv p1)), (7, (pt g93)), (8, (iv t86.2))] [] (fun fb => by kernel_rfl) rfl trivial ?_
 refine WL.done rfl ?_
 refine WX.next ?_
 refine WC.seq ?_
 refine WC.seq ?_
 refine WC.region ?_
 refine seg 3 [] [0, 1, 7, 8, 59] [(0, (sv A_p0 p0 c_p0)), (1, (iv p1)), (7, (pt g93)), (8, (iv t86.2)), (59, (bv (t86.2 == 4)))] [] (fun fb => by kernel_rfl) rfl trivial ?_
 obtain ⟨x98, hx99, hf⟩ := bind_some hf
 refine WL.cutW (T := Bool) 7 (fun t => [(0, (sv A_p0 p0 c_p0)), (1, (iv p1)), (7, (pt g93)), (8, (iv t86.2)), (63, (bv t))]) (fun t w1 => (St NoS w w1 [rowR enc_Tile A_p0 c_p0 p0, cel ⟨2, 0, none⟩ (iv mG)] [blk g93 (.cells #[(iv t86.1.Width), (iv t86.1.Height), (sv A91 t86.1.Cells c92)] 27 (0, 0)), rowO 3 encInt A91 c92 t86.1.Cells] ∧ x98 = t) ∧ CellsOK [] w1) (fun K => ?_) ?_
 ·
  rcases br_some hx99 with ⟨h100, hx99⟩ | ⟨h100, hx99⟩
  ·
   refine WL.setB 59 h100 rfl ?_
   refine seg 5 [] [0, 1, 7, 8, 59, 60, 61] [(0, (sv A_p0 p0 c_p0)), (1, (iv p1)), (7, (pt g93)), (8, (iv t86.2)), (59, (bv true)), (60, (sv A_p0 p0 c_p0)), (61, (iv p1))] [] (fun fb => by kernel_rfl) rfl trivial ?_
   obtain ⟨t101, ht102, hx99⟩ := bind_some hx99
   refine WL.call (some 62) 19 #[(sv A_p0 p0 c_p0), (iv p1)] (fun fb => by kernel_rfl) (ref02_Great_calls _ p0 p1 A_p0 c_p0 t101 _ (hS97.rd 0) ht102) (fun v w103 hR104 => ?_)
   obtain ⟨rfl, hk_⟩ := hR104
   have hS105 := hS97.keepN hk_
   refine ⟨trivial, ?_⟩
   refine seg 7 [] [0, 1, 7, 8, 63] [(0, (sv A_p0 p0 c_p0)), (1, (iv p1)), (7, (pt g93)), (8, (iv t86.2)), (63, (bv t101))] [] (fun fb => by kernel_rfl) rfl trivial ?_
   injection hx99 with hx99
   exact WL.to K t101 [0, 1, 7, 8, 63] rfl ⟨⟨(hS105.subR [0, 1]).sub [0, 1] (by decide), hx99.symm⟩, trivial⟩
  refine WL.setB 59 h100 rfl ?_
  refine seg 7 [] [0, 1, 7, 8, 63] [(0, (sv A_p0 p0 c_p0)), (1, (iv p1)), (7, (pt g93)), (8, (iv t86.2)), (63, (bv false))] [] (fun fb => by kernel_rfl) rfl trivial ?_
  injection hx99 with hx99
  exact WL.to K false [0, 1, 7, 8, 63] rfl ⟨⟨(hS97.subR [0, 1]).sub [0, 1] (by decide), hx99.symm⟩, trivial⟩
 rintro y106 w108 ⟨⟨hS109, hq107⟩, hF110⟩
 subst hq107
 refine WL.done rfl ?_
 refine WX.next ?_
 rcases br_some hf with ⟨h111, hf⟩ | ⟨h111, hf⟩
 ·refine WC.condT2 (fun fb => by kernel_rfl) h111 ?_
  refine WC.seq ?_
  refine WC.region ?_
  refine seg 2 [.v (iv t86.1.Width), .v (iv t86.1.Height), .v (sv A91 t86.1.Cells c92)] [64, 65] [(64, (.agg #[(iv t86.1.Width), (iv t86.1.Height), (sv A91 t86.1.Cells c92)])), (65, (iv t86.2))] [.cell ⟨g93, 0, none⟩ (iv t86.1.Width), .cell ⟨g93, 1, none⟩ (iv t86.1.Height), .cell ⟨g93, 2, none⟩ (sv A91 t86.1.Cells c92)] (fun fb => by kernel_rfl) rfl ⟨hS109.cell 0 rfl 0 rfl, hS109.cell 0 rfl 1 rfl, hS109.cell 0 rfl 2 rfl, trivial⟩ ?_
  obtain ⟨t112, ht113, hf⟩ := bind_some hf
  refine WL.call (some 66) 17 #[(.agg #[(iv t86.1.Width), (iv t86.1.Height), (sv A91 t86.1.Cells c92)]), (iv t86.2), (iv 4)] (fun fb => by kernel_rfl) (law03_no_calls _ t86.1 t86.2 4 A91 c92 t112 _ (hS109.ow 1).ofO ht113) (fun v w114 hR115 => ?_)
  obtain ⟨rfl, hk_⟩ := hR115
  have hS116 := hS109.keepN hk_
  refine ⟨trivial, ?_⟩
  refine seg 4 [] [67] [(67, (bv t112))] [] (fun fb => by kernel_rfl) rfl trivial ?_
  obtain ⟨x117, hx118, hf⟩ := bind_some hf
  refine WL.cutW (T := Bool) 6 (fun t => [(69, (bv t))]) (fun t w1 => (St NoS w w1 [rowR enc_Tile A_p0 c_p0 p0, cel ⟨2, 0, none⟩ (iv mG)] [] ∧ x117 = t) ∧ CellsOK [] w1) (fun K => ?_) ?_
  ·
   rcases br_some hx118 with ⟨h119, hx118⟩ | ⟨h119, hx118⟩
   ·
    refine WL.setB 67 h119 rfl ?_
    obtain ⟨t120, ht121, hx118⟩ := bind_some hx118
    refine WL.call (some 68) 14 #[] (fun fb => by kernel_rfl) (law03_awake_calls _ mG t120 _ (hS116.rd 1) ht121) (fun v w122 hR123 => ?_)
    obtain ⟨rfl, hk_⟩ := hR123
    have hS124 := hS116.keepN hk_
    refine ⟨trivial, ?_⟩
    refine seg 6 [] [69] [(69, (bv t120))] [] (fun fb => by kernel_rfl) rfl trivial ?_
    injection hx118 with hx118
    exact WL.to K t120 [69] rfl ⟨⟨(hS124.subR [0, 1]).sub [] (by decide), hx118.symm⟩, trivial⟩
   refine WL.setB 67 h119 rfl ?_
   refine seg 6 [] [69] [(69, (bv false))] [] (fun fb => by kernel_rfl) rfl trivial ?_
   injection hx118 with hx118
   exact WL.to K false [69] rfl ⟨⟨(hS116.subR [0, 1]).sub [] (by decide), hx118.symm⟩, trivial⟩
  rintro y125 w127 ⟨⟨hS128, hq126⟩, hF129⟩
  subst hq126
  refine seg 7 [] [4] [(4, (bv x117))] [] (fun fb => by kernel_rfl) rfl trivial ?_
  refine WL.done rfl ?_
  refine WX.next ?_
  refine WC.ret ?_
  injection hf with hf
  subst hf
  exact WX.thenR (WX.ret_ [] (bv x117) [] (fun fb => by kernel_rfl) trivial ⟨_, rfl, rfl, hS128.keep⟩)
 refine WC.condF2 (fun fb => by kernel_rfl) h111 ?_
 refine WC.skip ?_
 refine WX.next ?_
 refine WC.seq ?_
 refine WC.region ?_
 refine seg 2 [] [7, 8, 71, 72] [(7, (pt g93)), (8, (iv t86.2)), (71, (sv A_p0 p0 c_p0)), (72, (iv p1))] [] (fun fb => by kernel_rfl) rfl trivial ?_
 obtain ⟨t130, ht131, hf⟩ := bind_some hf
 refine WL.call (some 73) 23 #[(sv A_p0 p0 c_p0), (iv p1)] (fun fb => by kernel_rfl) (ref03_Least_calls _ p0 p1 A_p0 c_p0 t130 _ (hS109.rd 0) ht131) (fun v w132 hR133 => ?_)
 obtain ⟨A135, c136, rfl, hk_⟩ := hR133
 have hS134 : St NoS w w132 [rowR enc_Tile A_p0 c_p0 p0, cel ⟨2, 0, none⟩ (iv mG)] [rowO 3 encInt A135 c136 t130.1.Cells, blk g93 (.cells #[(iv t86.1.Width), (iv t86.1.Height), (.slice A91 t86.1.Cells.length c92)] 27 (0, 0)), rowO 3 encInt A91 c92 t86.1.Cells] := hS109.call hk_ [] [0, 1] (fun g hg => hg.elim) (by simp) (by decide)
 refine ⟨trivial, ?_⟩
 refine seg 6 [] [7, 8, 74, 75] [(7, (pt g93)), (8, (iv t86.2)), (74, (.agg #[(iv t130.1.Width), (iv t130.1.Height), (sv A135 t130.1.Cells c136)])), (75, (bv t130.2))] [] (fun fb => by kernel_rfl) rfl trivial ?_
 refine WL.new hS134 9 [] (fun g => (pt g)) (.cells #[(iv 0), (iv 0), (.slice none 0 0)] 27 (0, 0)) [] (fun fb g => by kernel_rfl) trivial (fun g137 w138 hS139 => ?_)
 refine ⟨trivial, ?_⟩
 refine WL.store hS139 0 rfl [(0, (iv t130.1.Width)), (1, (iv t130.1.Height)), (2, (sv A135 t130.1.Cells c136))] #[(iv t130.1.Width), (iv t130.1.Height), (sv A135 t130.1.Cells c136)] (fun fb => by kernel_rfl) (by kernel_rfl) rfl [1, 2, 3] (by decide) (by decide) (fun w140 hS141 => ?_)
 refine ⟨trivial, ?_⟩
 refine seg 9 [] [7, 8, 9, 10] [(7, (pt g93)), (8, (iv t86.2)), (9, (pt g137)), (10, (bv t130.2))] [] (fun fb => by kernel_rfl) rfl trivial ?_
 refine WL.done rfl ?_
 refine WX.next ?_
 refine WC.seq ?_
 refine WC.region ?_
 refine seg 4 [.v (iv t86.1.Width), .v (iv t86.1.Height), .v (sv A91 t86.1.Cells c92), .v (iv t130.1.Width), .v (iv t130.1.Height), .v (sv A135 t130.1.Cells c136)] [76, 77, 78, 79] [(76, (.agg #[(iv t86.1.Width), (iv t86.1.Height), (sv A91 t86.1.Cells c92)])), (77, (iv t86.2)), (78, (.agg #[(iv t130.1.Width), (iv t130.1.Height), (sv A135 t130.1.Cells c136)])), (79, (bv t130.2))] [.cell ⟨g93, 0, none⟩ (iv t86.1.Width), .cell ⟨g93, 1, none⟩ (iv t86.1.Height), .cell ⟨g93, 2, none⟩ (sv A91 t86.1.Cells c92), .cell ⟨g137, 0, none⟩ (iv t130.1.Width), .cell ⟨g137, 1, none⟩ (iv t130.1.Height), .cell ⟨g137, 2, none⟩ (sv A135 t130.1.Cells c136)] (fun fb => by kernel_rfl) rfl ⟨hS141.cell 2 rfl 0 rfl, hS141.cell 2 rfl 1 rfl, hS141.cell 2 rfl 2 rfl, hS141.cell 0 rfl 0 rfl, hS141.cell 0 rfl 1 rfl, hS141.cell 0 rfl 2 rfl, trivial⟩ ?_
 obtain ⟨t142, ht143, hf⟩ := bind_some hf
 refine WL.call (some 80) 21 #[(.agg #[(iv t86.1.Width), (iv t86.1.Height), (sv A91 t86.1.Cells c92)]), (iv t86.2), (.agg #[(iv t130.1.Width), (iv t130.1.Height), (sv A135 t130.1.Cells c136)]), (bv t130.2)] (fun fb => by kernel_rfl) (law03_is_calls _ t86.1 t86.2 t130.1 t130.2 A91 c92 A135 c136 t142 _ (hS141.ow 3).ofO (hS141.ow 1).ofO ht143) (fun v w144 hR145 => ?_)
 obtain ⟨rfl, hk_⟩ := hR145
 have hS146 := hS141.keepN hk_
 refine ⟨trivial, ?_⟩
 refine seg 6 [] [81] [(81, (bv t142))] [] (fun fb => by kernel_rfl) rfl trivial ?_
 obtain ⟨x147, hx148, hf⟩ := bind_some hf
 refine WL.cutW (T := Bool) 8 (fun t => [(83, (bv t))]) (fun t w1 => (St NoS w w1 [rowR enc_Tile A_p0 c_p0 p0, cel ⟨2, 0, none⟩ (iv mG)] [] ∧ x147 = t) ∧ CellsOK [] w1) (fun K => ?_) ?_
 ·
  rcases br_some hx148 with ⟨h149, hx148⟩ | ⟨h149, hx148⟩
  ·
   refine WL.setB 81 h149 rfl ?_
   obtain ⟨t150, ht151, hx148⟩ := bind_some hx148
   refine WL.call (some 82) 14 #[] (fun fb => by kernel_rfl) (law03_awake_calls _ mG t150 _ (hS146.rd 1) ht151) (fun v w152 hR153 => ?_)
   obtain ⟨rfl, hk_⟩ := hR153
   have hS154 := hS146.keepN hk_
   refine ⟨trivial, ?_⟩
   refine seg 8 [] [83] [(83, (bv t150))] [] (fun fb => by kernel_rfl) rfl trivial ?_
   injection hx148 with hx148
   exact WL.to K t150 [83] rfl ⟨⟨(hS154.subR [0, 1]).sub [] (by decide), hx148.symm⟩, trivial⟩
  refine WL.setB 81 h149 rfl ?_
  refine seg 8 [] [83] [(83, (bv false))] [] (fun fb => by kernel_rfl) rfl trivial ?_
  injection hx148 with hx148
  exact WL.to K false [83] rfl ⟨⟨(hS146.subR [0, 1]).sub [] (by decide), hx148.symm⟩, trivial⟩
 rintro y155 w157 ⟨⟨hS158, hq156⟩, hF159⟩
 subst hq156
 refine seg 9 [] [4] [(4, (bv x147))] [] (fun fb => by kernel_rfl) rfl trivial ?_
 refine WL.done rfl ?_
 refine WX.next ?_
 refine WC.ret ?_
 injection hf with hf
 subst hf
 exact WX.ret_ [] (bv x147) [] (fun fb => by kernel_rfl) trivial ⟨_, rfl, rfl, hS158.keep⟩
end Gp
