/- Walks: each function of the program computes its plain function. -/
import Derived.Test.YtjfmjfheeijfiaaDoorGx2
set_option linter.unusedVariables false
set_option linter.unusedSimpArgs false
set_option maxHeartbeats 4000000
namespace Gp
open Go Gw Go.Proofs
theorem ref03_from_calls (k : Nat) (p0 : List Row_groutworkref02) (p1 : Int) (p2 : Int) (p3 : Int) (p4 : Int) (A_p0 : Option Addr) (c_p0 : Nat) (H_p0 : Nat → HF) (r : Pattern × Bool) (w : World) (hR0 : RO NoS w (rowR encN_Row_groutworkref02 A_p0 c_p0 (tag H_p0 p0))) (hR1 : RO NoS w (nestO subN_Row_groutworkref02 H_p0 p0)) (hf : ref03_from k p0 p1 p2 p3 p4 = some r) :
  CallsR Tryd.prog 56 #[(.slice A_p0 p0.length c_p0), (iv p1), (iv p2), (iv p3), (iv p4)] w (fun v w' => ∃ (A1_ : Option Addr), ∃ (c1_ : Nat), v = (.tuple #[(.agg #[(iv r.1.Width), (iv r.1.Height), (.slice A1_ r.1.Cells.length c1_)]), (.bool r.2)]) ∧ St NoS w w' [] [rowO 3 encInt A1_ c1_ r.1.Cells]) := by
 have hS : St NoS w w [rowR encN_Row_groutworkref02 A_p0 c_p0 (tag H_p0 p0), nestO subN_Row_groutworkref02 H_p0 p0] [] := St.init (ro_cons hR0 (ro_cons hR1 (ro_nil _ _)))
 refine enter 150 Tryd.func56 rfl Tryd.ntmps56 rfl ?_
 unfold ref03_from at hf
 refine WC.seq ?_
 refine WC.region ?_
 refine WL.new hS 10 [] (fun g => (.pointer (some ⟨g, 0, none⟩))) (.cells #[(iv 0), (iv 0), (.slice none 0 0)] 27 (0, 0)) [] (fun fb g => by kernel_rfl) trivial (fun g17741 w17742 hS17743 => ?_)
 refine ⟨trivial, ?_⟩
 refine seg 2 [] [0, 1, 2, 3, 4, 10] [(0, (.slice A_p0 p0.length c_p0)), (1, (iv p1)), (2, (iv p2)), (3, (iv p3)), (4, (iv p4)), (10, (pt g17741))] [] (fun fb => by kernel_rfl) rfl trivial ?_
 refine WL.done rfl ?_
 refine WX.next ?_
 refine WC.seq ?_
 refine WC.region ?_
 refine seg 2 [] [0, 1, 2, 3, 4, 10, 20] [(0, (.slice A_p0 p0.length c_p0)), (1, (iv p1)), (2, (iv p2)), (3, (iv p3)), (4, (iv p4)), (10, (pt g17741)), (20, (iv (w64 (p4 + 1))))] [] (fun fb => by kernel_rfl) rfl trivial ?_
 obtain ⟨h17745, hf⟩ := as_some hf
 refine WL.make hS17743 (e := (encSl Bool)) (T := 95) (tS := 94) (z := (.slice none 0 0)) (bytes := 24) (d := 21) (((none, 0), []) : (Option Addr × Nat) × (List Bool)) (w64 (p4 + 1)) (fun fb => by kernel_rfl) (by kernel_rfl) (by kernel_rfl) rfl (by decide) h17745 (by decide) (fun g17746 w17747 hS17748 => ?_)
 refine ⟨trivial, ?_⟩
 have hS17749 : St NoS w w17747 [rowR encN_Row_groutworkref02 A_p0 c_p0 (tag H_p0 p0), nestO subN_Row_groutworkref02 H_p0 p0] [rowO 95 (encSl Bool) (some ⟨g17746, 0, none⟩) ((w64 (p4 + 1)).toNat) (tag hf0 (List.replicate (w64 (p4 + 1)).toNat ([] : List Bool))), blk g17741 (.cells #[(iv 0), (iv 0), (.slice none 0 0)] 27 (0, 0))] := by rw [show tag hf0 (List.replicate (w64 (p4 + 1)).toNat ([] : List Bool)) = _ from tag_rep (none, 0) [] _]; exact hS17748
 have hS17750 := hS17749.rowsNil 4 encBool (w64 (p4 + 1)).toNat
 refine WL.reE [0, 1, 2, 3, 4, 10, 21] [(0, (.slice A_p0 p0.length c_p0)), (1, (iv p1)), (2, (iv p2)), (3, (iv p3)), (4, (iv p4)), (10, (pt g17741)), (21, (.slice (some ⟨g17746, 0, none⟩) (List.replicate (w64 (p4 + 1)).toNat (((none, 0), []) : (Option Addr × Nat) × (List Bool))).length (w64 (p4 + 1)).toNat))] [(0, (.slice A_p0 p0.length c_p0)), (1, (iv p1)), (2, (iv p2)), (3, (iv p3)), (4, (iv p4)), (10, (pt g17741)), (21, (.slice (some ⟨g17746, 0, none⟩) (List.replicate (w64 (p4 + 1)).toNat ([] : List Bool)).length ((w64 (p4 + 1)).toNat)))] rfl (by simp only [List.length_replicate]) ?_
 refine seg 4 [] [0, 1, 2, 3, 4, 10, 12] [(0, (.slice A_p0 p0.length c_p0)), (1, (iv p1)), (2, (iv p2)), (3, (iv p3)), (4, (iv p4)), (10, (pt g17741)), (12, (.slice (some ⟨g17746, 0, none⟩) (List.replicate (w64 (p4 + 1)).toNat ([] : List Bool)).length ((w64 (p4 + 1)).toNat)))] [] (fun fb => by kernel_rfl) rfl trivial ?_
 refine WL.done rfl ?_
 refine WX.next ?_
 refine WC.seq ?_
 refine WC.region ?_
 refine seg 3 [] [0, 1, 2, 3, 4, 10, 12, 22, 23, 24] [(0, (.slice A_p0 p0.length c_p0)), (1, (iv p1)), (2, (iv p2)), (3, (iv p3)), (4, (iv p4)), (10, (pt g17741)), (12, (.slice (some ⟨g17746, 0, none⟩) (List.replicate (w64 (p4 + 1)).toNat ([] : List Bool)).length ((w64 (p4 + 1)).toNat))), (22, (.slice (some ⟨g17746, 0, none⟩) (List.replicate (w64 (p4 + 1)).toNat ([] : List Bool)).length ((w64 (p4 + 1)).toNat))), (23, (iv p4)), (24, (iv p2))] [] (fun fb => by kernel_rfl) rfl trivial ?_
 obtain ⟨h17751, hf⟩ := as_some hf
 refine WL.make hS17750 (e := encBool) (T := 4) (tS := 95) (z := (.bool false)) (bytes := 1) (d := 25) (false : Bool) p2 (fun fb => by kernel_rfl) (by kernel_rfl) (by kernel_rfl) rfl (by decide) h17751 (by decide) (fun g17752 w17753 hS17754 => ?_)
 refine ⟨trivial, ?_⟩
 obtain ⟨h17755, hf⟩ := as_some hf
 refine seg 5 [] [0, 1, 2, 3, 4, 10, 12, 25, 26] [(0, (.slice A_p0 p0.length c_p0)), (1, (iv p1)), (2, (iv p2)), (3, (iv p3)), (4, (iv p4)), (10, (pt g17741)), (12, (.slice (some ⟨g17746, 0, none⟩) (List.replicate (w64 (p4 + 1)).toNat ([] : List Bool)).length ((w64 (p4 + 1)).toNat))), (25, (.slice (some ⟨g17752, 0, none⟩) (List.replicate p2.toNat (false : Bool)).length p2.toNat)), (26, (.pointer (some ((adr (some ⟨g17746, 0, none⟩)).add ((p4).toNat * 1)))))] [.idx (some ⟨g17746, 0, none⟩) p4 (List.replicate (w64 (p4 + 1)).toNat ([] : List Bool)).length] (fun fb => by kernel_rfl) rfl ⟨nrow_adr (rowO.rd (hS17754.own 2).1) h17755.1 h17755.2, trivial⟩ ?_
 refine WL.storeRow hS17754 2 rfl (p4) (((some ⟨g17752, 0, none⟩), p2.toNat), (List.replicate p2.toNat (false : Bool))) ((none, 0), []) [(0, (.slice (some ⟨g17752, 0, none⟩) (List.replicate p2.toNat (false : Bool)).length p2.toNat))] (fun fb => by kernel_rfl) h17755.1 (by rw [tag_length]; exact h17755.2) (by kernel_rfl) (by kernel_rfl) [0, 1, 3] (by decide) (by decide) (fun w17756 hS17757 => ?_)
 have hS17758 : St NoS w w17756 [rowR encN_Row_groutworkref02 A_p0 c_p0 (tag H_p0 p0), nestO subN_Row_groutworkref02 H_p0 p0] [rowO 95 (encSl Bool) (some ⟨g17746, 0, none⟩) ((w64 (p4 + 1)).toNat) (tag (updH hf0 p4.toNat ((some ⟨g17752, 0, none⟩), p2.toNat)) ((List.replicate (w64 (p4 + 1)).toNat ([] : List Bool)).set p4.toNat (List.replicate p2.toNat (false : Bool)))), rowO 4 encBool (some ⟨g17752, 0, none⟩) p2.toNat (List.replicate p2.toNat (false : Bool)), rowsO 4 encBool hf0 (List.replicate (w64 (p4 + 1)).toNat ([] : List Bool)), blk g17741 (.cells #[(iv 0), (iv 0), (.slice none 0 0)] 27 (0, 0))] := by rw [tag_set]; exact hS17757
 have hS17759 : St NoS w w17756 [rowR encN_Row_groutworkref02 A_p0 c_p0 (tag H_p0 p0), nestO subN_Row_groutworkref02 H_p0 p0] [rowsO 4 encBool (updH hf0 p4.toNat ((some ⟨g17752, 0, none⟩), p2.toNat)) ((List.replicate (w64 (p4 + 1)).toNat ([] : List Bool)).set p4.toNat (List.replicate p2.toNat (false : Bool))), rowO 95 (encSl Bool) (some ⟨g17746, 0, none⟩) ((w64 (p4 + 1)).toNat) (tag (updH hf0 p4.toNat ((some ⟨g17752, 0, none⟩), p2.toNat)) ((List.replicate (w64 (p4 + 1)).toNat ([] : List Bool)).set p4.toNat (List.replicate p2.toNat (false : Bool)))), blk g17741 (.cells #[(iv 0), (iv 0), (.slice none 0 0)] 27 (0, 0))] := hS17758.rowsSet 2 1 rfl rfl (by decide) (p4.toNat) [0, 3] (by decide) (by decide)
 refine ⟨trivial, ?_⟩
 refine WL.reE [0, 1, 2, 3, 4, 10, 12] [(0, (.slice A_p0 p0.length c_p0)), (1, (iv p1)), (2, (iv p2)), (3, (iv p3)), (4, (iv p4)), (10, (pt g17741)), (12, (.slice (some ⟨g17746, 0, none⟩) (List.replicate (w64 (p4 + 1)).toNat ([] : List Bool)).length ((w64 (p4 + 1)).toNat)))] [(0, (.slice A_p0 p0.length c_p0)), (1, (iv p1)), (2, (iv p2)), (3, (iv p3)), (4, (iv p4)), (10, (pt g17741)), (12, (.slice (some ⟨g17746, 0, none⟩) ((List.replicate (w64 (p4 + 1)).toNat ([] : List Bool)).set p4.toNat (List.replicate p2.toNat (false : Bool))).length ((w64 (p4 + 1)).toNat)))] rfl (by simp only [List.length_set]) ?_
 refine WL.done rfl ?_
 refine WX.next ?_
 refine WC.seq ?_
 obtain ⟨h17771, hf⟩ := as_some hf
 obtain ⟨h17772, hf⟩ := as_some hf
 obtain ⟨h17773, hf⟩ := as_some hf
 refine WC.regionD ([(3, ((adr (some ⟨g17746, 0, none⟩)).add ((p4).toNat * 1)), (.slice (((updH hf0 p4.toNat ((some ⟨g17752, 0, none⟩), p2.toNat)) p4.toNat).1) (rdD ((List.replicate (w64 (p4 + 1)).toNat ([] : List Bool)).set p4.toNat (List.replicate p2.toNat (false : Bool))) p4 []).length (((updH hf0 p4.toNat ((some ⟨g17752, 0, none⟩), p2.toNat)) p4.toNat).2))), (8, (((adr A_p0).add ((p1).toNat * 3)).add 1), (iv ((rdD p0 p1 z_Row_groutworkref02).South)))], [0, 1, 2, 3, 4, 5, 6, 7, 8, 9], [[], [], [0, 1], [0, 1, 2], [], [], [4, 5], [4, 5, 6], [4, 5, 6, 7], [0, 1, 2, 3, 4, 5, 6, 7, 8], [0, 1, 2, 3, 4, 5, 6, 7, 8, 9]]) [[0, 1, 2, 3, 4, 5, 6, 7, 8, 9, 10]] (by kernel_rfl) (by kernel_rfl) (NoPanic.seq (NoPanic.body)) ?_
 have hS17767 := hS17759.drew
 revert hS17767
 generalize World.drew w17756 = w17766
 intro hS17767
 refine ⟨⟨nrow_cell (rowO.rd (hS17767.own 1).1) [] h17771.1 h17771.2 0 rfl, nrow_cell (hS17767.rd 0).1 z_Row_groutworkref02 h17772.1 h17772.2 1 rfl, trivial⟩, forallC ?_ (forallN)⟩
 refine segF 10 [.v (.slice (((updH hf0 p4.toNat ((some ⟨g17752, 0, none⟩), p2.toNat)) p4.toNat).1) (rdD ((List.replicate (w64 (p4 + 1)).toNat ([] : List Bool)).set p4.toNat (List.replicate p2.toNat (false : Bool))) p4 []).length (((updH hf0 p4.toNat ((some ⟨g17752, 0, none⟩), p2.toNat)) p4.toNat).2)), .v (iv ((rdD p0 p1 z_Row_groutworkref02).South))] [0, 1, 2, 3, 4, 10, 12, 36] [(0, (.slice A_p0 p0.length c_p0)), (1, (iv p1)), (2, (iv p2)), (3, (iv p3)), (4, (iv p4)), (10, (pt g17741)), (12, (.slice (some ⟨g17746, 0, none⟩) ((List.replicate (w64 (p4 + 1)).toNat ([] : List Bool)).set p4.toNat (List.replicate p2.toNat (false : Bool))).length ((w64 (p4 + 1)).toNat))), (36, (.pointer (some ((adr (((updH hf0 p4.toNat ((some ⟨g17752, 0, none⟩), p2.toNat)) p4.toNat).1)).add (((rdD p0 p1 z_Row_groutworkref02).South).toNat * 1)))))] [.idx (some ⟨g17746, 0, none⟩) p4 ((List.replicate (w64 (p4 + 1)).toNat ([] : List Bool)).set p4.toNat (List.replicate p2.toNat (false : Bool))).length, .idx A_p0 p1 p0.length, .idx (((updH hf0 p4.toNat ((some ⟨g17752, 0, none⟩), p2.toNat)) p4.toNat).1) ((rdD p0 p1 z_Row_groutworkref02).South) (rdD ((List.replicate (w64 (p4 + 1)).toNat ([] : List Bool)).set p4.toNat (List.replicate p2.toNat (false : Bool))) p4 []).length] [0, 1] [(3, ((adr (some ⟨g17746, 0, none⟩)).add ((p4).toNat * 1)), (.slice (((updH hf0 p4.toNat ((some ⟨g17752, 0, none⟩), p2.toNat)) p4.toNat).1) (rdD ((List.replicate (w64 (p4 + 1)).toNat ([] : List Bool)).set p4.toNat (List.replicate p2.toNat (false : Bool))) p4 []).length (((updH hf0 p4.toNat ((some ⟨g17752, 0, none⟩), p2.toNat)) p4.toNat).2))), (8, (((adr A_p0).add ((p1).toNat * 3)).add 1), (iv ((rdD p0 p1 z_Row_groutworkref02).South)))] (fun fb => by kernel_rfl) rfl ⟨nrow_adr (rowO.rd (hS17767.own 1).1) h17771.1 h17771.2, nrow_adr (hS17767.rd 0).1 h17772.1 h17772.2, rowR.adr (rowO.rd (rowsO.at (hS17767.own 0).1 h17771.1 h17771.2)) h17773.1 h17773.2, trivial⟩ rfl ?_
 refine WL.storeRR hS17767 0 rfl h17771.1 h17771.2 ((rdD p0 p1 z_Row_groutworkref02).South) (true) (false) [(0, (.bool true))] (fun fb => by kernel_rfl) h17773.1 h17773.2 (by kernel_rfl) rfl [1, 2] (by decide) (by decide) (fun w17774 hS17775 => ?_)
 have hS17776 : St NoS w w17774 [rowR encN_Row_groutworkref02 A_p0 c_p0 (tag H_p0 p0), nestO subN_Row_groutworkref02 H_p0 p0] [rowO 95 (encSl Bool) (some ⟨g17746, 0, none⟩) ((w64 (p4 + 1)).toNat) (tag (updH hf0 p4.toNat ((some ⟨g17752, 0, none⟩), p2.toNat)) (((List.replicate (w64 (p4 + 1)).toNat ([] : List Bool)).set p4.toNat (List.replicate p2.toNat (false : Bool))).set p4.toNat ((rdD ((List.replicate (w64 (p4 + 1)).toNat ([] : List Bool)).set p4.toNat (List.replicate p2.toNat (false : Bool))) p4 []).set ((rdD p0 p1 z_Row_groutworkref02).South).toNat true))), rowsO 4 encBool (updH hf0 p4.toNat ((some ⟨g17752, 0, none⟩), p2.toNat)) (((List.replicate (w64 (p4 + 1)).toNat ([] : List Bool)).set p4.toNat (List.replicate p2.toNat (false : Bool))).set p4.toNat ((rdD ((List.replicate (w64 (p4 + 1)).toNat ([] : List Bool)).set p4.toNat (List.replicate p2.toNat (false : Bool))) p4 []).set ((rdD p0 p1 z_Row_groutworkref02).South).toNat true)), blk g17741 (.cells #[(iv 0), (iv 0), (.slice none 0 0)] 27 (0, 0))] := hS17775.slRow 1 rfl (rdD_at (d := []) h17771.1 h17771.2) ((rdD ((List.replicate (w64 (p4 + 1)).toNat ([] : List Bool)).set p4.toNat (List.replicate p2.toNat (false : Bool))) p4 []).set ((rdD p0 p1 z_Row_groutworkref02).South).toNat true) (by simp only [List.length_set]) [0, 2] (by decide) (by decide)
 refine ⟨trivial, ?_⟩
 refine WL.reE [0, 1, 2, 3, 4, 10, 12] [(0, (.slice A_p0 p0.length c_p0)), (1, (iv p1)), (2, (iv p2)), (3, (iv p3)), (4, (iv p4)), (10, (pt g17741)), (12, (.slice (some ⟨g17746, 0, none⟩) ((List.replicate (w64 (p4 + 1)).toNat ([] : List Bool)).set p4.toNat (List.replicate p2.toNat (false : Bool))).length ((w64 (p4 + 1)).toNat)))] [(0, (.slice A_p0 p0.length c_p0)), (1, (iv p1)), (2, (iv p2)), (3, (iv p3)), (4, (iv p4)), (10, (pt g17741)), (12, (.slice (some ⟨g17746, 0, none⟩) (((List.replicate (w64 (p4 + 1)).toNat ([] : List Bool)).set p4.toNat (List.replicate p2.toNat (false : Bool))).set p4.toNat ((rdD ((List.replicate (w64 (p4 + 1)).toNat ([] : List Bool)).set p4.toNat (List.replicate p2.toNat (false : Bool))) p4 []).set ((rdD p0 p1 z_Row_groutworkref02).South).toNat true)).length ((w64 (p4 + 1)).toNat)))] rfl (by simp only [List.length_set]) ?_
 refine WL.done rfl ?_
 refine WX.next ?_
 refine WC.seq ?_
 refine WC.seq ?_
 refine WC.region ?_
 refine seg 3 [] [0, 1, 2, 3, 4, 10, 12, 13] [(0, (.slice A_p0 p0.length c_p0)), (1, (iv p1)), (2, (iv p2)), (3, (iv p3)), (4, (iv p4)), (10, (pt g17741)), (12, (.slice (some ⟨g17746, 0, none⟩) (((List.replicate (w64 (p4 + 1)).toNat ([] : List Bool)).set p4.toNat (List.replicate p2.toNat (false : Bool))).set p4.toNat ((rdD ((List.replicate (w64 (p4 + 1)).toNat ([] : List Bool)).set p4.toNat (List.replicate p2.toNat (false : Bool))) p4 []).set ((rdD p0 p1 z_Row_groutworkref02).South).toNat true)).length ((w64 (p4 + 1)).toNat))), (13, (iv (w64 (p4 - 1))))] [] (fun fb => by kernel_rfl) rfl trivial ?_
 refine WL.done rfl ?_
 refine WX.next ?_
 obtain ⟨x18171, hx18172, hf⟩ := bind_some hf
 refine WC.cutN (T := (List (List Bool)) × (Option Addr) × Nat × HF) (fun t => [(0, (.slice A_p0 p0.length c_p0)), (1, (iv p1)), (3, (iv p3)), (4, (iv p4)), (10, (pt g17741)), (12, (.slice t.2.1 t.1.length t.2.2.1))]) (fun t w1 => St NoS w w1 [rowR encN_Row_groutworkref02 A_p0 c_p0 (tag H_p0 p0), nestO subN_Row_groutworkref02 H_p0 p0] [blk g17741 (.cells #[(iv 0), (iv 0), (.slice none 0 0)] 27 (0, 0)), rowO 95 (encSl Bool) t.2.1 t.2.2.1 (tag t.2.2.2 t.1), rowsO 4 encBool t.2.2.2 t.1] ∧ x18171 = t.1) (fun Kx18171 => ?_) ?_
 ·
  refine WC.block ?_
  refine WC.loop (T := ((List (List Bool)) × Int) × (Option Addr) × Nat × HF) (fun t => [(0, (.slice A_p0 p0.length c_p0)), (1, (iv p1)), (2, (iv p2)), (3, (iv p3)), (4, (iv p4)), (10, (pt g17741)), (12, (.slice t.2.1 t.1.1.length t.2.2.1)), (13, (iv t.1.2))]) (fun n t w1 => St NoS w w1 [rowR encN_Row_groutworkref02 A_p0 c_p0 (tag H_p0 p0), nestO subN_Row_groutworkref02 H_p0 p0] [blk g17741 (.cells #[(iv 0), (iv 0), (.slice none 0 0)] 27 (0, 0)), rowO 95 (encSl Bool) t.2.1 t.2.2.1 (tag t.2.2.2 t.1.1), rowsO 4 encBool t.2.2.2 t.1.1] ∧ ref03_from.l0 n t.1.1 t.1.2 p0 p2 = some x18171) k ((((List.replicate (w64 (p4 + 1)).toNat ([] : List Bool)).set p4.toNat (List.replicate p2.toNat (false : Bool))).set p4.toNat ((rdD ((List.replicate (w64 (p4 + 1)).toNat ([] : List Bool)).set p4.toNat (List.replicate p2.toNat (false : Bool))) p4 []).set ((rdD p0 p1 z_Row_groutworkref02).South).toNat true), w64 (p4 - 1)), (some ⟨g17746, 0, none⟩), (w64 (p4 + 1)).toNat, (updH hf0 p4.toNat ((some ⟨g17752, 0, none⟩), p2.toNat))) [0, 1, 2, 3, 4, 10, 12, 13] rfl ⟨(hS17776.subR [0, 1]).sub [2, 0, 1] (by decide), hx18172⟩ ?_
  rintro k18173 ⟨⟨l18164, x18166⟩, A18162, c18163, H18165⟩ w18174 ⟨hS18175, hl18176⟩
  cases k18173 with
  | zero => rw [ref03_from.l0] at hl18176; cases hl18176
  | succ k18173 =>
   rw [ref03_from.l0] at hl18176
   refine WC.seq ?_
   refine WC.seq ?_
   refine WC.region ?_
   refine seg 2 [] [0, 1, 2, 3, 4, 10, 12, 13, 40] [(0, (.slice A_p0 p0.length c_p0)), (1, (iv p1)), (2, (iv p2)), (3, (iv p3)), (4, (iv p4)), (10, (pt g17741)), (12, (.slice A18162 l18164.length c18163)), (13, (iv x18166)), (40, (.bool (decide (x18166 > 0))))] [] (fun fb => by kernel_rfl) rfl trivial ?_
   refine WL.done rfl ?_
   refine WX.next ?_
   rcases br_some hl18176 with ⟨h18177, hl18176⟩ | ⟨h18177, hl18176⟩
   ·refine WC.condT2 (fun fb => by kernel_rfl) h18177 ?_
    refine WC.skip ?_
    refine WX.next ?_
    refine WC.seq ?_
    refine WC.block ?_
    refine WC.seq ?_
    refine WC.region ?_
    refine seg 3 [] [0, 1, 2, 3, 4, 10, 12, 13, 43, 44, 45] [(0, (.slice A_p0 p0.length c_p0)), (1, (iv p1)), (2, (iv p2)), (3, (iv p3)), (4, (iv p4)), (10, (pt g17741)), (12, (.slice A18162 l18164.length c18163)), (13, (iv x18166)), (43, (.slice A18162 l18164.length c18163)), (44, (iv x18166)), (45, (iv p2))] [] (fun fb => by kernel_rfl) rfl trivial ?_
    obtain ⟨h18178, hl18176⟩ := as_some hl18176
    refine WL.make hS18175 (e := encBool) (T := 4) (tS := 95) (z := (.bool false)) (bytes := 1) (d := 46) (false : Bool) p2 (fun fb => by kernel_rfl) (by kernel_rfl) (by kernel_rfl) rfl (by decide) h18178 (by decide) (fun g18179 w18180 hS18181 => ?_)
    refine ⟨trivial, ?_⟩
    obtain ⟨h18182, hl18176⟩ := as_some hl18176
    refine seg 5 [] [0, 1, 2, 3, 4, 10, 12, 13, 46, 47] [(0, (.slice A_p0 p0.length c_p0)), (1, (iv p1)), (2, (iv p2)), (3, (iv p3)), (4, (iv p4)), (10, (pt g17741)), (12, (.slice A18162 l18164.length c18163)), (13, (iv x18166)), (46, (.slice (some ⟨g18179, 0, none⟩) (List.replicate p2.toNat (false : Bool)).length p2.toNat)), (47, (.pointer (some ((adr A18162).add ((x18166).toNat * 1)))))] [.idx A18162 x18166 l18164.length] (fun fb => by kernel_rfl) rfl ⟨nrow_adr (rowO.rd (hS18181.own 2).1) h18182.1 h18182.2, trivial⟩ ?_
    refine WL.storeRow hS18181 2 rfl (x18166) (((some ⟨g18179, 0, none⟩), p2.toNat), (List.replicate p2.toNat (false : Bool))) ((none, 0), []) [(0, (.slice (some ⟨g18179, 0, none⟩) (List.replicate p2.toNat (false : Bool)).length p2.toNat))] (fun fb => by kernel_rfl) h18182.1 (by rw [tag_length]; exact h18182.2) (by kernel_rfl) (by kernel_rfl) [0, 1, 3] (by decide) (by decide) (fun w18183 hS18184 => ?_)
    have hS18185 : St NoS w w18183 [rowR encN_Row_groutworkref02 A_p0 c_p0 (tag H_p0 p0), nestO subN_Row_groutworkref02 H_p0 p0] [rowO 95 (encSl Bool) A18162 c18163 (tag (updH H18165 x18166.toNat ((some ⟨g18179, 0, none⟩), p2.toNat)) (l18164.set x18166.toNat (List.replicate p2.toNat (false : Bool)))), rowO 4 encBool (some ⟨g18179, 0, none⟩) p2.toNat (List.replicate p2.toNat (false : Bool)), blk g17741 (.cells #[(iv 0), (iv 0), (.slice none 0 0)] 27 (0, 0)), rowsO 4 encBool H18165 l18164] := by rw [tag_set]; exact hS18184
    have hS18186 : St NoS w w18183 [rowR encN_Row_groutworkref02 A_p0 c_p0 (tag H_p0 p0), nestO subN_Row_groutworkref02 H_p0 p0] [rowsO 4 encBool (updH H18165 x18166.toNat ((some ⟨g18179, 0, none⟩), p2.toNat)) (l18164.set x18166.toNat (List.replicate p2.toNat (false : Bool))), rowO 95 (encSl Bool) A18162 c18163 (tag (updH H18165 x18166.toNat ((some ⟨g18179, 0, none⟩), p2.toNat)) (l18164.set x18166.toNat (List.replicate p2.toNat (false : Bool)))), blk g17741 (.cells #[(iv 0), (iv 0), (.slice none 0 0)] 27 (0, 0))] := hS18185.rowsSet 3 1 rfl rfl (by decide) (x18166.toNat) [0, 2] (by decide) (by decide)
    refine ⟨trivial, ?_⟩
    refine WL.reE [0, 1, 2, 3, 4, 10, 12, 13] [(0, (.slice A_p0 p0.length c_p0)), (1, (iv p1)), (2, (iv p2)), (3, (iv p3)), (4, (iv p4)), (10, (pt g17741)), (12, (.slice A18162 l18164.length c18163)), (13, (iv x18166))] [(0, (.slice A_p0 p0.length c_p0)), (1, (iv p1)), (2, (iv p2)), (3, (iv p3)), (4, (iv p4)), (10, (pt g17741)), (12, (.slice A18162 (l18164.set x18166.toNat (List.replicate p2.toNat (false : Bool))).length c18163)), (13, (iv x18166))] rfl (by simp only [List.length_set]) ?_
    refine WL.done rfl ?_
    refine WX.next ?_
    refine WC.seq ?_
    refine WC.region ?_
    refine seg 1 [] [0, 1, 2, 3, 4, 10, 12, 13, 14] [(0, (.slice A_p0 p0.length c_p0)), (1, (iv p1)), (2, (iv p2)), (3, (iv p3)), (4, (iv p4)), (10, (pt g17741)), (12, (.slice A18162 (l18164.set x18166.toNat (List.replicate p2.toNat (false : Bool))).length c18163)), (13, (iv x18166)), (14, (iv 0))] [] (fun fb => by kernel_rfl) rfl trivial ?_
    refine WL.done rfl ?_
    refine WX.next ?_
    obtain ⟨x18305, hx18306, hl18176⟩ := bind_some hl18176
    refine WC.cutN (T := (List (List Bool)) × (Option Addr) × Nat × HF) (fun t => [(0, (.slice A_p0 p0.length c_p0)), (1, (iv p1)), (2, (iv p2)), (3, (iv p3)), (4, (iv p4)), (10, (pt g17741)), (12, (.slice t.2.1 t.1.length t.2.2.1)), (13, (iv x18166))]) (fun t w1 => St NoS w w1 [rowR encN_Row_groutworkref02 A_p0 c_p0 (tag H_p0 p0), nestO subN_Row_groutworkref02 H_p0 p0] [blk g17741 (.cells #[(iv 0), (iv 0), (.slice none 0 0)] 27 (0, 0)), rowO 95 (encSl Bool) t.2.1 t.2.2.1 (tag t.2.2.2 t.1), rowsO 4 encBool t.2.2.2 t.1] ∧ x18305 = t.1) (fun Kx18305 => ?_) ?_
    ·
     refine WC.block ?_
     refine WC.loop (T := ((List (List Bool)) × Int) × (Option Addr) × Nat × HF) (fun t => [(0, (.slice A_p0 p0.length c_p0)), (1, (iv p1)), (2, (iv p2)), (3, (iv p3)), (4, (iv p4)), (10, (pt g17741)), (12, (.slice t.2.1 t.1.1.length t.2.2.1)), (13, (iv x18166)), (14, (iv t.1.2))]) (fun n t w1 => St NoS w w1 [rowR encN_Row_groutworkref02 A_p0 c_p0 (tag H_p0 p0), nestO subN_Row_groutworkref02 H_p0 p0] [blk g17741 (.cells #[(iv 0), (iv 0), (.slice none 0 0)] 27 (0, 0)), rowO 95 (encSl Bool) t.2.1 t.2.2.1 (tag t.2.2.2 t.1.1), rowsO 4 encBool t.2.2.2 t.1.1] ∧ ref03_from.l1 n t.1.1 t.1.2 p0 x18166 = some x18305) k18173 ((l18164.set x18166.toNat (List.replicate p2.toNat (false : Bool)), 0), A18162, c18163, (updH H18165 x18166.toNat ((some ⟨g18179, 0, none⟩), p2.toNat))) [0, 1, 2, 3, 4, 10, 12, 13, 14] rfl ⟨(hS18186.subR [0, 1]).sub [2, 1, 0] (by decide), hx18306⟩ ?_
     rintro k18307 ⟨⟨l18298, x18300⟩, A18296, c18297, H18299⟩ w18308 ⟨hS18309, hl18310⟩
     cases k18307 with
     | zero => rw [ref03_from.l1] at hl18310; cases hl18310
     | succ k18307 =>
      rw [ref03_from.l1] at hl18310
      refine WC.seq ?_
      refine WC.seq ?_
      refine WC.region ?_
      refine seg 4 [] [0, 1, 2, 3, 4, 10, 12, 13, 14, 51] [(0, (.slice A_p0 p0.length c_p0)), (1, (iv p1)), (2, (iv p2)), (3, (iv p3)), (4, (iv p4)), (10, (pt g17741)), (12, (.slice A18296 l18298.length c18297)), (13, (iv x18166)), (14, (iv x18300)), (51, (.bool (decide (x18300 < (p0.length : Int)))))] [] (fun fb => by kernel_rfl) rfl trivial ?_
      refine WL.done rfl ?_
      refine WX.next ?_
      rcases br_some hl18310 with ⟨h18311, hl18310⟩ | ⟨h18311, hl18310⟩
      ·refine WC.condT2 (fun fb => by kernel_rfl) h18311 ?_
       refine WC.skip ?_
       refine WX.next ?_
       refine WC.seq ?_
       refine WC.block ?_
       refine WC.seq ?_
       obtain ⟨h18320, hl18310⟩ := as_some hl18310
       obtain ⟨h18321, hl18310⟩ := as_some hl18310
       obtain ⟨h18322, hl18310⟩ := as_some hl18310
       refine WC.regionD ([(4, ((adr A18296).add ((w64 (x18166 + 1)).toNat * 1)), (.slice ((H18299 (w64 (x18166 + 1)).toNat).1) (rdD l18298 (w64 (x18166 + 1)) []).length ((H18299 (w64 (x18166 + 1)).toNat).2))), (9, (((adr A_p0).add ((x18300).toNat * 3)).add 2), (iv ((rdD p0 x18300 z_Row_groutworkref02).North))), (11, ((adr ((H18299 (w64 (x18166 + 1)).toNat).1)).add (((rdD p0 x18300 z_Row_groutworkref02).North).toNat * 1)), (.bool (rdD (rdD l18298 (w64 (x18166 + 1)) []) ((rdD p0 x18300 z_Row_groutworkref02).North) false)))], [0, 1, 2, 3, 4, 5, 6, 7, 8, 9, 10, 11], [[], [], [1], [0, 1, 2], [0, 1, 2, 3], [], [], [5, 6], [5, 6, 7], [5, 6, 7, 8], [0, 1, 2, 3, 4, 5, 6, 7, 8, 9], [0, 1, 2, 3, 4, 5, 6, 7, 8, 9, 10]]) [[0, 1, 2, 3, 4, 5, 6, 7, 8, 9, 10, 11]] (by kernel_rfl) (by kernel_rfl) (NoPanic.seq (NoPanic.block (NoPanic.seq (NoPanic.seq (NoPanic.block (NoPanic.block (NoPanic.seq (NoPanic.seq (NoPanic.block (NoPanic.seq (NoPanic.body))))))))))) ?_
       have hS18316 := hS18309.drew
       revert hS18316
       generalize World.drew w18308 = w18315
       intro hS18316
       refine ⟨⟨nrow_cell (rowO.rd (hS18316.own 1).1) [] h18320.1 h18320.2 0 rfl, nrow_cell (hS18316.rd 0).1 z_Row_groutworkref02 h18321.1 h18321.2 2 rfl, rowR.cell (rowO.rd (rowsO.at (hS18316.own 2).1 h18320.1 h18320.2)) false h18322.1 h18322.2 0 rfl, trivial⟩, forallC ?_ (forallN)⟩
       refine segF 12 [.v (.slice ((H18299 (w64 (x18166 + 1)).toNat).1) (rdD l18298 (w64 (x18166 + 1)) []).length ((H18299 (w64 (x18166 + 1)).toNat).2)), .v (iv ((rdD p0 x18300 z_Row_groutworkref02).North)), .v (.bool (rdD (rdD l18298 (w64 (x18166 + 1)) []) ((rdD p0 x18300 z_Row_groutworkref02).North) false))] [0, 1, 2, 3, 4, 10, 12, 13, 14, 65] [(0, (.slice A_p0 p0.length c_p0)), (1, (iv p1)), (2, (iv p2)), (3, (iv p3)), (4, (iv p4)), (10, (pt g17741)), (12, (.slice A18296 l18298.length c18297)), (13, (iv x18166)), (14, (iv x18300)), (65, (.bool (rdD (rdD l18298 (w64 (x18166 + 1)) []) ((rdD p0 x18300 z_Row_groutworkref02).North) false)))] [.idx A18296 (w64 (x18166 + 1)) l18298.length, .idx A_p0 x18300 p0.length, .idx ((H18299 (w64 (x18166 + 1)).toNat).1) ((rdD p0 x18300 z_Row_groutworkref02).North) (rdD l18298 (w64 (x18166 + 1)) []).length] [0, 1, 2] [(4, ((adr A18296).add ((w64 (x18166 + 1)).toNat * 1)), (.slice ((H18299 (w64 (x18166 + 1)).toNat).1) (rdD l18298 (w64 (x18166 + 1)) []).length ((H18299 (w64 (x18166 + 1)).toNat).2))), (9, (((adr A_p0).add ((x18300).toNat * 3)).add 2), (iv ((rdD p0 x18300 z_Row_groutworkref02).North))), (11, ((adr ((H18299 (w64 (x18166 + 1)).toNat).1)).add (((rdD p0 x18300 z_Row_groutworkref02).North).toNat * 1)), (.bool (rdD (rdD l18298 (w64 (x18166 + 1)) []) ((rdD p0 x18300 z_Row_groutworkref02).North) false)))] (fun fb => by kernel_rfl) rfl ⟨nrow_adr (rowO.rd (hS18316.own 1).1) h18320.1 h18320.2, nrow_adr (hS18316.rd 0).1 h18321.1 h18321.2, rowR.adr (rowO.rd (rowsO.at (hS18316.own 2).1 h18320.1 h18320.2)) h18322.1 h18322.2, trivial⟩ rfl ?_
       refine WL.done rfl ?_
       refine WX.next ?_
       obtain ⟨x18342, hx18343, hl18310⟩ := bind_some hl18310
       refine WC.cutN (T := (List (List Bool)) × (Option Addr) × Nat × HF) (fun t => [(0, (.slice A_p0 p0.length c_p0)), (1, (iv p1)), (2, (iv p2)), (3, (iv p3)), (4, (iv p4)), (10, (pt g17741)), (12, (.slice t.2.1 t.1.length t.2.2.1)), (13, (iv x18166)), (14, (iv x18300))]) (fun t w1 => St NoS w w1 [rowR encN_Row_groutworkref02 A_p0 c_p0 (tag H_p0 p0), nestO subN_Row_groutworkref02 H_p0 p0] [blk g17741 (.cells #[(iv 0), (iv 0), (.slice none 0 0)] 27 (0, 0)), rowO 95 (encSl Bool) t.2.1 t.2.2.1 (tag t.2.2.2 t.1), rowsO 4 encBool t.2.2.2 t.1] ∧ x18342 = t.1) (fun Kx18342 => ?_) ?_
       ·
        rcases br_some hx18343 with ⟨h18344, hx18343⟩ | ⟨h18344, hx18343⟩
        ·refine WC.condT2 (fun fb => by kernel_rfl) h18344 ?_
         obtain ⟨h18354, hx18343⟩ := as_some hx18343
         obtain ⟨h18355, hx18343⟩ := as_some hx18343
         refine WC.regionD ([(3, ((adr A18296).add ((x18166).toNat * 1)), (.slice ((H18299 x18166.toNat).1) (rdD l18298 x18166 []).length ((H18299 x18166.toNat).2))), (8, (((adr A_p0).add ((x18300).toNat * 3)).add 1), (iv ((rdD p0 x18300 z_Row_groutworkref02).South)))], [0, 1, 2, 3, 4, 5, 6, 7, 8, 9], [[], [], [0, 1], [0, 1, 2], [], [], [4, 5], [4, 5, 6], [4, 5, 6, 7], [0, 1, 2, 3, 4, 5, 6, 7, 8], [0, 1, 2, 3, 4, 5, 6, 7, 8, 9]]) [[0, 1, 2, 3, 4, 5, 6, 7, 8, 9, 10]] (by kernel_rfl) (by kernel_rfl) (NoPanic.block (NoPanic.seq (NoPanic.seq (NoPanic.block (NoPanic.block (NoPanic.seq (NoPanic.seq (NoPanic.block (NoPanic.seq (NoPanic.body)))))))))) ?_
         have hS18351 := hS18316.drew
         revert hS18351
         generalize World.drew w18315 = w18350
         intro hS18351
         refine ⟨⟨nrow_cell (rowO.rd (hS18351.own 1).1) [] h18354.1 h18354.2 0 rfl, nrow_cell (hS18351.rd 0).1 z_Row_groutworkref02 h18321.1 h18321.2 1 rfl, trivial⟩, forallC ?_ (forallN)⟩
         refine segF 10 [.v (.slice ((H18299 x18166.toNat).1) (rdD l18298 x18166 []).length ((H18299 x18166.toNat).2)), .v (iv ((rdD p0 x18300 z_Row_groutworkref02).South))] [0, 1, 2, 3, 4, 10, 12, 13, 14, 75] [(0, (.slice A_p0 p0.length c_p0)), (1, (iv p1)), (2, (iv p2)), (3, (iv p3)), (4, (iv p4)), (10, (pt g17741)), (12, (.slice A18296 l18298.length c18297)), (13, (iv x18166)), (14, (iv x18300)), (75, (.pointer (some ((adr ((H18299 x18166.toNat).1)).add (((rdD p0 x18300 z_Row_groutworkref02).South).toNat * 1)))))] [.idx A18296 x18166 l18298.length, .idx A_p0 x18300 p0.length, .idx ((H18299 x18166.toNat).1) ((rdD p0 x18300 z_Row_groutworkref02).South) (rdD l18298 x18166 []).length] [0, 1] [(3, ((adr A18296).add ((x18166).toNat * 1)), (.slice ((H18299 x18166.toNat).1) (rdD l18298 x18166 []).length ((H18299 x18166.toNat).2))), (8, (((adr A_p0).add ((x18300).toNat * 3)).add 1), (iv ((rdD p0 x18300 z_Row_groutworkref02).South)))] (fun fb => by kernel_rfl) rfl ⟨nrow_adr (rowO.rd (hS18351.own 1).1) h18354.1 h18354.2, nrow_adr (hS18351.rd 0).1 h18321.1 h18321.2, rowR.adr (rowO.rd (rowsO.at (hS18351.own 2).1 h18354.1 h18354.2)) h18355.1 h18355.2, trivial⟩ rfl ?_
         refine WL.storeRR hS18351 2 rfl h18354.1 h18354.2 ((rdD p0 x18300 z_Row_groutworkref02).South) (true) (false) [(0, (.bool true))] (fun fb => by kernel_rfl) h18355.1 h18355.2 (by kernel_rfl) rfl [0, 1] (by decide) (by decide) (fun w18356 hS18357 => ?_)
         have hS18358 : St NoS w w18356 [rowR encN_Row_groutworkref02 A_p0 c_p0 (tag H_p0 p0), nestO subN_Row_groutworkref02 H_p0 p0] [rowO 95 (encSl Bool) A18296 c18297 (tag H18299 (l18298.set x18166.toNat ((rdD l18298 x18166 []).set ((rdD p0 x18300 z_Row_groutworkref02).South).toNat true))), rowsO 4 encBool H18299 (l18298.set x18166.toNat ((rdD l18298 x18166 []).set ((rdD p0 x18300 z_Row_groutworkref02).South).toNat true)), blk g17741 (.cells #[(iv 0), (iv 0), (.slice none 0 0)] 27 (0, 0))] := hS18357.slRow 2 rfl (rdD_at (d := []) h18354.1 h18354.2) ((rdD l18298 x18166 []).set ((rdD p0 x18300 z_Row_groutworkref02).South).toNat true) (by simp only [List.length_set]) [0, 1] (by decide) (by decide)
         refine ⟨trivial, ?_⟩
         refine WL.reE [0, 1, 2, 3, 4, 10, 12, 13, 14] [(0, (.slice A_p0 p0.length c_p0)), (1, (iv p1)), (2, (iv p2)), (3, (iv p3)), (4, (iv p4)), (10, (pt g17741)), (12, (.slice A18296 l18298.length c18297)), (13, (iv x18166)), (14, (iv x18300))] [(0, (.slice A_p0 p0.length c_p0)), (1, (iv p1)), (2, (iv p2)), (3, (iv p3)), (4, (iv p4)), (10, (pt g17741)), (12, (.slice A18296 (l18298.set x18166.toNat ((rdD l18298 x18166 []).set ((rdD p0 x18300 z_Row_groutworkref02).South).toNat true)).length c18297)), (13, (iv x18166)), (14, (iv x18300))] rfl (by simp only [List.length_set]) ?_
         refine WL.done rfl ?_
         injection hx18343 with hx18343
         exact WX.to Kx18342 (l18298.set x18166.toNat ((rdD l18298 x18166 []).set ((rdD p0 x18300 z_Row_groutworkref02).South).toNat true), A18296, c18297, H18299) [0, 1, 2, 3, 4, 10, 12, 13, 14] rfl ⟨(hS18358.subR [0, 1]).sub [2, 0, 1] (by decide), hx18343.symm⟩
        refine WC.condF2 (fun fb => by kernel_rfl) h18344 ?_
        refine WC.skip ?_
        injection hx18343 with hx18343
        exact WX.to Kx18342 (l18298, A18296, c18297, H18299) [0, 1, 2, 3, 4, 10, 12, 13, 14] rfl ⟨(hS18316.subR [0, 1]).sub [0, 1, 2] (by decide), hx18343.symm⟩
       rintro ⟨y18362, A18338, c18339, H18341⟩ w18359 ⟨hS18360, hq18361⟩
       subst hq18361
       refine WX.blockN (WX.next ?_)
       refine WC.region ?_
       refine seg 3 [] [0, 1, 2, 3, 4, 10, 12, 13, 14] [(0, (.slice A_p0 p0.length c_p0)), (1, (iv p1)), (2, (iv p2)), (3, (iv p3)), (4, (iv p4)), (10, (pt g17741)), (12, (.slice A18338 x18342.length c18339)), (13, (iv x18166)), (14, (iv (w64 (x18300 + 1))))] [] (fun fb => by kernel_rfl) rfl trivial ?_
       refine WL.done rfl ?_
       exact WX.again k18307 (Nat.lt_succ_self _) ((x18342, w64 (x18300 + 1)), A18338, c18339, H18341) [0, 1, 2, 3, 4, 10, 12, 13, 14] rfl ⟨(hS18360.subR [0, 1]).sub [0, 1, 2] (by decide), hl18310⟩
      refine WC.condF2 (fun fb => by kernel_rfl) h18311 ?_
      refine WC.exit ?_
      injection hl18310 with hl18310
      exact WX.thenX (WX.thenX (WX.blockHere (WX.to Kx18305 (l18298, A18296, c18297, H18299) [0, 1, 2, 3, 4, 10, 12, 13] rfl ⟨(hS18309.subR [0, 1]).sub [0, 1, 2] (by decide), hl18310.symm⟩)))
    rintro ⟨y18366, A18301, c18302, H18304⟩ w18363 ⟨hS18364, hq18365⟩
    subst hq18365
    refine WX.blockN (WX.next ?_)
    refine WC.region ?_
    refine seg 3 [] [0, 1, 2, 3, 4, 10, 12, 13] [(0, (.slice A_p0 p0.length c_p0)), (1, (iv p1)), (2, (iv p2)), (3, (iv p3)), (4, (iv p4)), (10, (pt g17741)), (12, (.slice A18301 x18305.length c18302)), (13, (iv (w64 (x18166 - 1))))] [] (fun fb => by kernel_rfl) rfl trivial ?_
    refine WL.done rfl ?_
    exact WX.again k18173 (Nat.lt_succ_self _) ((x18305, w64 (x18166 - 1)), A18301, c18302, H18304) [0, 1, 2, 3, 4, 10, 12, 13] rfl ⟨(hS18364.subR [0, 1]).sub [0, 1, 2] (by decide), hl18176⟩
   refine WC.condF2 (fun fb => by kernel_rfl) h18177 ?_
   refine WC.exit ?_
   injection hl18176 with hl18176
   exact WX.thenX (WX.thenX (WX.blockHere (WX.to Kx18171 (l18164, A18162, c18163, H18165) [0, 1, 3, 4, 10, 12] rfl ⟨(hS18175.subR [0, 1]).sub [0, 1, 2] (by decide), hl18176.symm⟩)))
 rintro ⟨y18370, A18167, c18168, H18170⟩ w18367 ⟨hS18368, hq18369⟩
 subst hq18369
 refine WX.next ?_
 refine WC.seq ?_
 refine WC.seq ?_
 obtain ⟨h18377, hf⟩ := as_some hf
 obtain ⟨h18378, hf⟩ := as_some hf
 refine WC.regionD ([(2, ((adr A18167).add (((1 : Int)).toNat * 1)), (.slice ((H18170 (1 : Int).toNat).1) (rdD x18171 (1 : Int) []).length ((H18170 (1 : Int).toNat).2))), (7, (((adr A_p0).add ((p1).toNat * 3)).add 2), (iv ((rdD p0 p1 z_Row_groutworkref02).North))), (9, ((adr ((H18170 (1 : Int).toNat).1)).add (((rdD p0 p1 z_Row_groutworkref02).North).toNat * 1)), (.bool (rdD (rdD x18171 (1 : Int) []) ((rdD p0 p1 z_Row_groutworkref02).North) false)))], [0, 1, 2, 3, 4, 5, 6, 7, 8, 9, 10], [[], [0], [0, 1], [], [], [3, 4], [3, 4, 5], [3, 4, 5, 6], [0, 1, 2, 3, 4, 5, 6, 7], [0, 1, 2, 3, 4, 5, 6, 7, 8], [0, 1, 2, 3, 4, 5, 6, 7, 8, 9]]) [[0, 1, 2, 3, 4, 5, 6, 7, 8, 9, 10]] (by kernel_rfl) (by kernel_rfl) (NoPanic.seq (NoPanic.seq (NoPanic.body))) ?_
 have hS18374 := hS18368.drew
 revert hS18374
 generalize World.drew w18367 = w18373
 intro hS18374
 refine ⟨⟨nrow_cell (rowO.rd (hS18374.own 1).1) [] h18377.1 h18377.2 0 rfl, nrow_cell (hS18374.rd 0).1 z_Row_groutworkref02 h17772.1 h17772.2 2 rfl, rowR.cell (rowO.rd (rowsO.at (hS18374.own 2).1 h18377.1 h18377.2)) false h18378.1 h18378.2 0 rfl, trivial⟩, forallC ?_ (forallN)⟩
 refine segF 11 [.v (.slice ((H18170 (1 : Int).toNat).1) (rdD x18171 (1 : Int) []).length ((H18170 (1 : Int).toNat).2)), .v (iv ((rdD p0 p1 z_Row_groutworkref02).North)), .v (.bool (rdD (rdD x18171 (1 : Int) []) ((rdD p0 p1 z_Row_groutworkref02).North) false))] [0, 1, 3, 4, 10, 12, 86] [(0, (.slice A_p0 p0.length c_p0)), (1, (iv p1)), (3, (iv p3)), (4, (iv p4)), (10, (pt g17741)), (12, (.slice A18167 x18171.length c18168)), (86, (.bool (!(rdD (rdD x18171 (1 : Int) []) ((rdD p0 p1 z_Row_groutworkref02).North) false))))] [.idx A18167 (1 : Int) x18171.length, .idx A_p0 p1 p0.length, .idx ((H18170 (1 : Int).toNat).1) ((rdD p0 p1 z_Row_groutworkref02).North) (rdD x18171 (1 : Int) []).length] [0, 1, 2] [(2, ((adr A18167).add (((1 : Int)).toNat * 1)), (.slice ((H18170 (1 : Int).toNat).1) (rdD x18171 (1 : Int) []).length ((H18170 (1 : Int).toNat).2))), (7, (((adr A_p0).add ((p1).toNat * 3)).add 2), (iv ((rdD p0 p1 z_Row_groutworkref02).North))), (9, ((adr ((H18170 (1 : Int).toNat).1)).add (((rdD p0 p1 z_Row_groutworkref02).North).toNat * 1)), (.bool (rdD (rdD x18171 (1 : Int) []) ((rdD p0 p1 z_Row_groutworkref02).North) false)))] (fun fb => by kernel_rfl) rfl ⟨nrow_adr (rowO.rd (hS18374.own 1).1) h18377.1 h18377.2, nrow_adr (hS18374.rd 0).1 h17772.1 h17772.2, rowR.adr (rowO.rd (rowsO.at (hS18374.own 2).1 h18377.1 h18377.2)) h18378.1 h18378.2, trivial⟩ rfl ?_
 refine WL.done rfl ?_
 refine WX.next ?_
 rcases br_some hf with ⟨h18379, hf⟩ | ⟨h18379, hf⟩
 ·refine WC.condT2 (fun fb => by kernel_rfl) h18379 ?_
  refine WC.seq ?_
  refine WC.region ?_
  refine seg 1 [] [10, 87] [(10, (pt g17741)), (87, (.agg #[(iv 0), (iv 0), (.slice none 0 0)]))] [] (fun fb => by kernel_rfl) rfl trivial ?_
  refine WL.store hS18374 0 rfl [(0, (iv 0)), (1, (iv 0)), (2, (.slice none 0 0))] #[(iv 0), (iv 0), (.slice none 0 0)] (fun fb => by kernel_rfl) (by kernel_rfl) rfl [1, 2] (by decide) (by decide) (fun w18380 hS18381 => ?_)
  refine ⟨trivial, ?_⟩
  refine seg 3 [] [10, 11] [(10, (pt g17741)), (11, (.bool false))] [] (fun fb => by kernel_rfl) rfl trivial ?_
  refine WL.done rfl ?_
  refine WX.next ?_
  refine WC.ret ?_
  have hS18382 := hS18381.nilrow 3 encInt
  injection hf with hf
  subst hf
  exact WX.thenR (WX.ret_ [.v (iv 0), .v (iv 0), .v (.slice none 0 0)] (.tuple #[(.agg #[(iv 0), (iv 0), (.slice none ([] : List Int).length 0)]), (.bool false)]) [.cell ⟨g17741, 0, none⟩ (iv 0), .cell ⟨g17741, 1, none⟩ (iv 0), .cell ⟨g17741, 2, none⟩ (.slice none 0 0)] (fun fb => by kernel_rfl) ⟨hS18381.cell 0 rfl 0 rfl, hS18381.cell 0 rfl 1 rfl, hS18381.cell 0 rfl 2 rfl, trivial⟩ ⟨_, rfl, none, 0, rfl, (hS18382.sub [0] (by decide)).noR⟩)
 refine WC.condF2 (fun fb => by kernel_rfl) h18379 ?_
 refine WC.skip ?_
 refine WX.next ?_
 refine WC.seq ?_
 refine WC.region ?_
 refine seg 2 [] [0, 1, 4, 10, 12, 88, 89] [(0, (.slice A_p0 p0.length c_p0)), (1, (iv p1)), (4, (iv p4)), (10, (pt g17741)), (12, (.slice A18167 x18171.length c18168)), (88, (iv p3)), (89, (iv p4))] [] (fun fb => by kernel_rfl) rfl trivial ?_
 refine WL.new hS18374 90 [] (fun g => (.slice (some ⟨g, 0, none⟩) 0 0)) (.cells #[] 3 (0, 0)) [] (fun fb g => by kernel_rfl) trivial (fun g18383 w18384 hS18385 => ?_)
 refine ⟨trivial, ?_⟩
 have hS18387 : St NoS w w18384 [rowR encN_Row_groutworkref02 A_p0 c_p0 (tag H_p0 p0), nestO subN_Row_groutworkref02 H_p0 p0] [rowO 3 encInt (some ⟨g18383, 0, none⟩) 0 ([] : List Int), blk g17741 (.cells #[(iv 0), (iv 0), (.slice none 0 0)] 27 (0, 0)), rowO 95 (encSl Bool) A18167 c18168 (tag H18170 x18171), rowsO 4 encBool H18170 x18171] := hS18385.map1 0 _ (fun h => rowO.ofBlk h rfl (Nat.le_of_ble_eq_true (by kernel_rfl))) (fun _ h => by obtain ⟨_, h1, h2⟩ := h; injection h1 with h1; subst h1; exact h2) [1, 2, 3] (by decide) (by decide)
 refine seg 8 [.v (.slice ((H_p0 p1.toNat 0).1) ((rdD p0 p1 z_Row_groutworkref02).Cells).length ((H_p0 p1.toNat 0).2))] [0, 1, 4, 10, 12, 88, 89, 90, 95] [(0, (.slice A_p0 p0.length c_p0)), (1, (iv p1)), (4, (iv p4)), (10, (pt g17741)), (12, (.slice A18167 x18171.length c18168)), (88, (iv p3)), (89, (iv p4)), (90, (.slice (some ⟨g18383, 0, none⟩) ([] : List Int).length 0)), (95, (.slice ((H_p0 p1.toNat 0).1) ((rdD p0 p1 z_Row_groutworkref02).Cells).length ((H_p0 p1.toNat 0).2)))] [.idx A_p0 p1 p0.length, .cell ((adr A_p0).add ((p1).toNat * 3)) (.slice ((H_p0 p1.toNat 0).1) ((rdD p0 p1 z_Row_groutworkref02).Cells).length ((H_p0 p1.toNat 0).2))] (fun fb => by kernel_rfl) rfl ⟨nrow_adr (hS18387.rd 0).1 h17772.1 h17772.2, nrow_cell (hS18387.rd 0).1 z_Row_groutworkref02 h17772.1 h17772.2 0 rfl, trivial⟩ ?_
 obtain ⟨h18388, hf⟩ := as_some hf
 refine WL.append hS18387 0 (d := 96) (tS := 25) (z := (iv 0)) (bytes := 8) (c2 := (H_p0 p1.toNat 0).2) rfl (fun fb => by kernel_rfl) (nestO.at (hS18387.rd 1).1 z_Row_groutworkref02 h17772.1 h17772.2) (by kernel_rfl) (by kernel_rfl) rfl (by decide) h18388 (by decide) [1, 2, 3] (by decide) (by decide) (fun A18389 c18390 w18391 hS18392 => ?_)
 refine ⟨trivial, ?_⟩
 refine seg 10 [] [0, 1, 4, 10, 12, 97] [(0, (.slice A_p0 p0.length c_p0)), (1, (iv p1)), (4, (iv p4)), (10, (pt g17741)), (12, (.slice A18167 x18171.length c18168)), (97, (.agg #[(iv p3), (iv p4), (.slice A18389 (([] : List Int) ++ ((rdD p0 p1 z_Row_groutworkref02).Cells)).length c18390)]))] [] (fun fb => by kernel_rfl) rfl trivial ?_
 refine WL.new hS18392 15 [] (fun g => (.pointer (some ⟨g, 0, none⟩))) (.cells #[(iv 0), (iv 0), (.slice none 0 0)] 27 (0, 0)) [] (fun fb g => by kernel_rfl) trivial (fun g18393 w18394 hS18395 => ?_)
 refine ⟨trivial, ?_⟩
 refine WL.store hS18395 0 rfl [(0, (iv p3)), (1, (iv p4)), (2, (.slice A18389 (([] : List Int) ++ ((rdD p0 p1 z_Row_groutworkref02).Cells)).length c18390))] #[(iv p3), (iv p4), (.slice A18389 (([] : List Int) ++ ((rdD p0 p1 z_Row_groutworkref02).Cells)).length c18390)] (fun fb => by kernel_rfl) (by kernel_rfl) rfl [1, 2, 3, 4] (by decide) (by decide) (fun w18397 hS18398 => ?_)
 refine ⟨trivial, ?_⟩
 refine WL.done rfl ?_
 refine WX.next ?_
 refine WC.seq ?_
 refine WC.region ?_
 refine seg 6 [.v (iv ((rdD p0 p1 z_Row_groutworkref02).North))] [0, 4, 10, 12, 15, 16] [(0, (.slice A_p0 p0.length c_p0)), (4, (iv p4)), (10, (pt g17741)), (12, (.slice A18167 x18171.length c18168)), (15, (pt g18393)), (16, (iv ((rdD p0 p1 z_Row_groutworkref02).North)))] [.idx A_p0 p1 p0.length, .cell (((adr A_p0).add ((p1).toNat * 3)).add 2) (iv ((rdD p0 p1 z_Row_groutworkref02).North))] (fun fb => by kernel_rfl) rfl ⟨nrow_adr (hS18398.rd 0).1 h17772.1 h17772.2, nrow_cell (hS18398.rd 0).1 z_Row_groutworkref02 h17772.1 h17772.2 2 rfl, trivial⟩ ?_
 refine WL.done rfl ?_
 refine WX.next ?_
 refine WC.seq ?_
 refine WC.seq ?_
 refine WC.region ?_
 refine seg 1 [] [0, 4, 10, 12, 15, 16, 17] [(0, (.slice A_p0 p0.length c_p0)), (4, (iv p4)), (10, (pt g17741)), (12, (.slice A18167 x18171.length c18168)), (15, (pt g18393)), (16, (iv ((rdD p0 p1 z_Row_groutworkref02).North))), (17, (iv 1))] [] (fun fb => by kernel_rfl) rfl trivial ?_
 refine WL.done rfl ?_
 refine WX.next ?_
 obtain ⟨x18836, hx18837, hf⟩ := bind_some hf
 refine WC.cutN (T := (List Int) × (Option Addr) × Nat) (fun t => [(10, (pt g17741)), (15, (pt g18393))]) (fun t w1 => St NoS w w1 [rowR encN_Row_groutworkref02 A_p0 c_p0 (tag H_p0 p0), nestO subN_Row_groutworkref02 H_p0 p0] [blk g17741 (.cells #[(iv 0), (iv 0), (.slice none 0 0)] 27 (0, 0)), blk g18393 (.cells #[(iv p3), (iv p4), (.slice t.2.1 t.1.length t.2.2)] 27 (0, 0)), rowO 3 encInt t.2.1 t.2.2 t.1] ∧ x18836 = t.1) (fun Kx18836 => ?_) ?_
 ·
  refine WC.block ?_
  refine WC.loop (T := ((List Int) × Int × Int) × (Option Addr) × Nat) (fun t => [(0, (.slice A_p0 p0.length c_p0)), (4, (iv p4)), (10, (pt g17741)), (12, (.slice A18167 x18171.length c18168)), (15, (pt g18393)), (16, (iv t.1.2.1)), (17, (iv t.1.2.2))]) (fun n t w1 => St NoS w w1 [rowR encN_Row_groutworkref02 A_p0 c_p0 (tag H_p0 p0), nestO subN_Row_groutworkref02 H_p0 p0] [blk g17741 (.cells #[(iv 0), (iv 0), (.slice none 0 0)] 27 (0, 0)), rowO 95 (encSl Bool) A18167 c18168 (tag H18170 x18171), rowsO 4 encBool H18170 x18171, blk g18393 (.cells #[(iv p3), (iv p4), (.slice t.2.1 t.1.1.length t.2.2)] 27 (0, 0)), rowO 3 encInt t.2.1 t.2.2 t.1.1] ∧ ref03_from.l2 n t.1.1 t.1.2.1 t.1.2.2 p0 p4 x18171 = some x18836) k ((([] : List Int) ++ ((rdD p0 p1 z_Row_groutworkref02).Cells), (rdD p0 p1 z_Row_groutworkref02).North, 1), A18389, c18390) [0, 4, 10, 12, 15, 16, 17] rfl ⟨(hS18398.subR [0, 1]).sub [2, 3, 4, 0, 1] (by decide), hx18837⟩ ?_
  rintro k18838 ⟨⟨l18830, x18831, x18832⟩, A18828, c18829⟩ w18839 ⟨hS18840, hl18841⟩
  cases k18838 with
  | zero => rw [ref03_from.l2] at hl18841; cases hl18841
  | succ k18838 =>
   rw [ref03_from.l2] at hl18841
   refine WC.seq ?_
   refine WC.seq ?_
   refine WC.region ?_
   refine seg 3 [] [0, 4, 10, 12, 15, 16, 17, 105] [(0, (.slice A_p0 p0.length c_p0)), (4, (iv p4)), (10, (pt g17741)), (12, (.slice A18167 x18171.length c18168)), (15, (pt g18393)), (16, (iv x18831)), (17, (iv x18832)), (105, (.bool (decide (x18832 < p4))))] [] (fun fb => by kernel_rfl) rfl trivial ?_
   refine WL.done rfl ?_
   refine WX.next ?_
   rcases br_some hl18841 with ⟨h18842, hl18841⟩ | ⟨h18842, hl18841⟩
   ·refine WC.condT2 (fun fb => by kernel_rfl) h18842 ?_
    refine WC.skip ?_
    refine WX.next ?_
    refine WC.seq ?_
    refine WC.block ?_
    refine WC.seq ?_
    refine WC.region ?_
    refine seg 1 [] [0, 4, 10, 12, 15, 16, 17, 18] [(0, (.slice A_p0 p0.length c_p0)), (4, (iv p4)), (10, (pt g17741)), (12, (.slice A18167 x18171.length c18168)), (15, (pt g18393)), (16, (iv x18831)), (17, (iv x18832)), (18, (iv 0))] [] (fun fb => by kernel_rfl) rfl trivial ?_
    refine WL.done rfl ?_
    refine WX.next ?_
    obtain ⟨x18979, hx18980, hl18841⟩ := bind_some hl18841
    refine WC.cutN (T := ((List Int) × Int) × (Option Addr) × Nat) (fun t => [(0, (.slice A_p0 p0.length c_p0)), (4, (iv p4)), (10, (pt g17741)), (12, (.slice A18167 x18171.length c18168)), (15, (pt g18393)), (16, (iv t.1.2)), (17, (iv x18832))]) (fun t w1 => St NoS w w1 [rowR encN_Row_groutworkref02 A_p0 c_p0 (tag H_p0 p0), nestO subN_Row_groutworkref02 H_p0 p0] [blk g17741 (.cells #[(iv 0), (iv 0), (.slice none 0 0)] 27 (0, 0)), rowO 95 (encSl Bool) A18167 c18168 (tag H18170 x18171), rowsO 4 encBool H18170 x18171, blk g18393 (.cells #[(iv p3), (iv p4), (.slice t.2.1 t.1.1.length t.2.2)] 27 (0, 0)), rowO 3 encInt t.2.1 t.2.2 t.1.1] ∧ x18979 = t.1) (fun Kx18979 => ?_) ?_
    ·
     refine WC.block ?_
     refine WC.loop (T := Int) (fun t => [(0, (.slice A_p0 p0.length c_p0)), (4, (iv p4)), (10, (pt g17741)), (12, (.slice A18167 x18171.length c18168)), (15, (pt g18393)), (16, (iv x18831)), (17, (iv x18832)), (18, (iv t))]) (fun n t w1 => St NoS w w1 [rowR encN_Row_groutworkref02 A_p0 c_p0 (tag H_p0 p0), nestO subN_Row_groutworkref02 H_p0 p0] [blk g17741 (.cells #[(iv 0), (iv 0), (.slice none 0 0)] 27 (0, 0)), rowO 95 (encSl Bool) A18167 c18168 (tag H18170 x18171), rowsO 4 encBool H18170 x18171, blk g18393 (.cells #[(iv p3), (iv p4), (.slice A18828 l18830.length c18829)] 27 (0, 0)), rowO 3 encInt A18828 c18829 l18830] ∧ ref03_from.l3 n t p0 x18171 l18830 x18831 x18832 = some x18979) k18838 0 [0, 4, 10, 12, 15, 16, 17, 18] rfl ⟨(hS18840.subR [0, 1]).sub [0, 1, 2, 3, 4] (by decide), hx18980⟩ ?_
     rintro k18981 x18974 w18982 ⟨hS18983, hl18984⟩
     cases k18981 with
     | zero => rw [ref03_from.l3] at hl18984; cases hl18984
     | succ k18981 =>
      rw [ref03_from.l3] at hl18984
      refine WC.seq ?_
      refine WC.seq ?_
      refine WC.region ?_
      refine seg 4 [] [0, 4, 10, 12, 15, 16, 17, 18, 111] [(0, (.slice A_p0 p0.length c_p0)), (4, (iv p4)), (10, (pt g17741)), (12, (.slice A18167 x18171.length c18168)), (15, (pt g18393)), (16, (iv x18831)), (17, (iv x18832)), (18, (iv x18974)), (111, (.bool (decide (x18974 < (p0.length : Int)))))] [] (fun fb => by kernel_rfl) rfl trivial ?_
      refine WL.done rfl ?_
      refine WX.next ?_
      rcases br_some hl18984 with ⟨h18985, hl18984⟩ | ⟨h18985, hl18984⟩
      ·refine WC.condT2 (fun fb => by kernel_rfl) h18985 ?_
       refine WC.skip ?_
       refine WX.next ?_
       refine WC.seq ?_
       refine WC.block ?_
       refine WC.seq ?_
       obtain ⟨x19006, hx19007, hl18984⟩ := bind_some hl18984
       refine WC.cutN (T := Bool) (fun t => [(0, (.slice A_p0 p0.length c_p0)), (4, (iv p4)), (10, (pt g17741)), (12, (.slice A18167 x18171.length c18168)), (15, (pt g18393)), (16, (iv x18831)), (17, (iv x18832)), (18, (iv x18974)), (134, (.bool t))]) (fun t w1 => St NoS w w1 [rowR encN_Row_groutworkref02 A_p0 c_p0 (tag H_p0 p0), nestO subN_Row_groutworkref02 H_p0 p0] [blk g17741 (.cells #[(iv 0), (iv 0), (.slice none 0 0)] 27 (0, 0)), rowO 95 (encSl Bool) A18167 c18168 (tag H18170 x18171), rowsO 4 encBool H18170 x18171, blk g18393 (.cells #[(iv p3), (iv p4), (.slice A18828 l18830.length c18829)] 27 (0, 0)), rowO 3 encInt A18828 c18829 l18830] ∧ x19006 = t) (fun Kx19006 => ?_) ?_
       ·
        rcases br_some hx19007 with ⟨h19009, hx19007⟩ | ⟨h19009, hx19007⟩
        ·
         obtain ⟨h19018, hx19007⟩ := as_some hx19007
         obtain ⟨h19019, hx19007⟩ := as_some hx19007
         obtain ⟨h19020, hx19007⟩ := as_some hx19007
         refine WC.regionD ([(4, (((adr A_p0).add ((x18974).toNat * 3)).add 1), (iv ((rdD p0 x18974 z_Row_groutworkref02).South))), (12, ((adr A18167).add ((w64 (x18832 + 1)).toNat * 1)), (.slice ((H18170 (w64 (x18832 + 1)).toNat).1) (rdD x18171 (w64 (x18832 + 1)) []).length ((H18170 (w64 (x18832 + 1)).toNat).2))), (17, (((adr A_p0).add ((x18974).toNat * 3)).add 2), (iv ((rdD p0 x18974 z_Row_groutworkref02).North))), (19, ((adr ((H18170 (w64 (x18832 + 1)).toNat).1)).add (((rdD p0 x18974 z_Row_groutworkref02).North).toNat * 1)), (.bool (rdD (rdD x18171 (w64 (x18832 + 1)) []) ((rdD p0 x18974 z_Row_groutworkref02).North) false)))], [0, 1, 2, 3, 4, 5, 6, 7, 8, 9, 10, 11, 12, 13, 14, 15, 16, 17, 18, 19, 20], [[], [], [0, 1], [0, 1, 2], [0, 1, 2, 3], [], [0, 1, 2, 3, 4, 5], [0, 1, 2, 3, 4, 5, 6], [0, 1, 2, 3, 4, 5, 6, 7], [0, 1, 2, 3, 4, 5, 6, 7], [0, 1, 2, 3, 4, 5, 6, 7, 9], [0, 1, 2, 3, 4, 5, 6, 7, 8, 9, 10], [0, 1, 2, 3, 4, 5, 6, 7, 8, 9, 10, 11], [0, 1, 2, 3, 4, 5, 6, 7], [0, 1, 2, 3, 4, 5, 6, 7], [0, 1, 2, 3, 4, 5, 6, 7, 13, 14], [0, 1, 2, 3, 4, 5, 6, 7, 13, 14, 15], [0, 1, 2, 3, 4, 5, 6, 7, 13, 14, 15, 16], [0, 1, 2, 3, 4, 5, 6, 7, 8, 9, 10, 11, 12, 13, 14, 15, 16, 17], [0, 1, 2, 3, 4, 5, 6, 7, 8, 9, 10, 11, 12, 13, 14, 15, 16, 17, 18], [0, 1, 2, 3, 4, 5, 6, 7, 8, 9, 10, 11, 12, 13, 14, 15, 16, 17, 18, 19]]) [[0, 1, 2, 3, 4, 5, 6, 7, 8, 9, 10, 11, 12, 13, 14, 15, 16, 17, 18, 19, 20]] (by kernel_rfl) (by kernel_rfl) (NoPanic.seq (NoPanic.block (NoPanic.seq (NoPanic.seq (NoPanic.block (NoPanic.block (NoPanic.seq (NoPanic.seq (NoPanic.block (NoPanic.seq (NoPanic.body))))))))))) ?_
         have hS19014 := hS18983.drew
         revert hS19014
         generalize World.drew w18982 = w19013
         intro hS19014
         refine ⟨⟨nrow_cell (hS19014.rd 0).1 z_Row_groutworkref02 h19018.1 h19018.2 1 rfl, nrow_cell (rowO.rd (hS19014.own 1).1) [] h19019.1 h19019.2 0 rfl, nrow_cell (hS19014.rd 0).1 z_Row_groutworkref02 h19018.1 h19018.2 2 rfl, rowR.cell (rowO.rd (rowsO.at (hS19014.own 2).1 h19019.1 h19019.2)) false h19020.1 h19020.2 0 rfl, trivial⟩, forallC ?_ (forallN)⟩
         refine segF 8 [.v (iv ((rdD p0 x18974 z_Row_groutworkref02).South))] [0, 4, 10, 12, 15, 16, 17, 18, 121] [(0, (.slice A_p0 p0.length c_p0)), (4, (iv p4)), (10, (pt g17741)), (12, (.slice A18167 x18171.length c18168)), (15, (pt g18393)), (16, (iv x18831)), (17, (iv x18832)), (18, (iv x18974)), (121, (.bool (((rdD p0 x18974 z_Row_groutworkref02).South) == x18831)))] [.idx A_p0 x18974 p0.length] [0] [(4, (((adr A_p0).add ((x18974).toNat * 3)).add 1), (iv ((rdD p0 x18974 z_Row_groutworkref02).South)))] (fun fb => by kernel_rfl) rfl ⟨nrow_adr (hS19014.rd 0).1 h19018.1 h19018.2, trivial⟩ rfl ?_
         refine WL.setB 121 h19009 rfl ?_
         refine segF 21 [.v (.slice ((H18170 (w64 (x18832 + 1)).toNat).1) (rdD x18171 (w64 (x18832 + 1)) []).length ((H18170 (w64 (x18832 + 1)).toNat).2)), .v (iv ((rdD p0 x18974 z_Row_groutworkref02).North)), .v (.bool (rdD (rdD x18171 (w64 (x18832 + 1)) []) ((rdD p0 x18974 z_Row_groutworkref02).North) false))] [0, 4, 10, 12, 15, 16, 17, 18, 134] [(0, (.slice A_p0 p0.length c_p0)), (4, (iv p4)), (10, (pt g17741)), (12, (.slice A18167 x18171.length c18168)), (15, (pt g18393)), (16, (iv x18831)), (17, (iv x18832)), (18, (iv x18974)), (134, (.bool (rdD (rdD x18171 (w64 (x18832 + 1)) []) ((rdD p0 x18974 z_Row_groutworkref02).North) false)))] [.idx A18167 (w64 (x18832 + 1)) x18171.length, .idx A_p0 x18974 p0.length, .idx ((H18170 (w64 (x18832 + 1)).toNat).1) ((rdD p0 x18974 z_Row_groutworkref02).North) (rdD x18171 (w64 (x18832 + 1)) []).length] [1, 2, 3] [(12, ((adr A18167).add ((w64 (x18832 + 1)).toNat * 1)), (.slice ((H18170 (w64 (x18832 + 1)).toNat).1) (rdD x18171 (w64 (x18832 + 1)) []).length ((H18170 (w64 (x18832 + 1)).toNat).2))), (17, (((adr A_p0).add ((x18974).toNat * 3)).add 2), (iv ((rdD p0 x18974 z_Row_groutworkref02).North))), (19, ((adr ((H18170 (w64 (x18832 + 1)).toNat).1)).add (((rdD p0 x18974 z_Row_groutworkref02).North).toNat * 1)), (.bool (rdD (rdD x18171 (w64 (x18832 + 1)) []) ((rdD p0 x18974 z_Row_groutworkref02).North) false)))] (fun fb => by kernel_rfl) rfl ⟨nrow_adr (rowO.rd (hS19014.own 1).1) h19019.1 h19019.2, nrow_adr (hS19014.rd 0).1 h19018.1 h19018.2, rowR.adr (rowO.rd (rowsO.at (hS19014.own 2).1 h19019.1 h19019.2)) h19020.1 h19020.2, trivial⟩ rfl ?_
         refine WL.done rfl ?_
         injection hx19007 with hx19007
         exact WX.to Kx19006 (rdD (rdD x18171 (w64 (x18832 + 1)) []) ((rdD p0 x18974 z_Row_groutworkref02).North) false) [0, 4, 10, 12, 15, 16, 17, 18, 134] rfl ⟨(hS19014.subR [0, 1]).sub [0, 1, 2, 3, 4] (by decide), hx19007.symm⟩
        obtain ⟨h19025, hx19007⟩ := as_some hx19007
        refine WC.regionD ([(4, (((adr A_p0).add ((x18974).toNat * 3)).add 1), (iv ((rdD p0 x18974 z_Row_groutworkref02).South)))], [0, 1, 2, 3, 4, 5, 6, 7, 8, 9, 10, 11, 12, 13, 14, 15, 16, 17, 18, 19, 20], [[], [], [0, 1], [0, 1, 2], [0, 1, 2, 3], [], [0, 1, 2, 3, 4, 5], [0, 1, 2, 3, 4, 5, 6], [0, 1, 2, 3, 4, 5, 6, 7], [0, 1, 2, 3, 4, 5, 6, 7], [0, 1, 2, 3, 4, 5, 6, 7, 9], [0, 1, 2, 3, 4, 5, 6, 7, 8, 9, 10], [0, 1, 2, 3, 4, 5, 6, 7, 8, 9, 10, 11], [0, 1, 2, 3, 4, 5, 6, 7], [0, 1, 2, 3, 4, 5, 6, 7], [0, 1, 2, 3, 4, 5, 6, 7, 13, 14], [0, 1, 2, 3, 4, 5, 6, 7, 13, 14, 15], [0, 1, 2, 3, 4, 5, 6, 7, 13, 14, 15, 16], [0, 1, 2, 3, 4, 5, 6, 7, 8, 9, 10, 11, 12, 13, 14, 15, 16, 17], [0, 1, 2, 3, 4, 5, 6, 7, 8, 9, 10, 11, 12, 13, 14, 15, 16, 17, 18], [0, 1, 2, 3, 4, 5, 6, 7, 8, 9, 10, 11, 12, 13, 14, 15, 16, 17, 18, 19]]) [[0, 1, 2, 3, 4, 5, 6, 7, 8, 9, 10, 11, 12, 13, 14, 15, 16, 17, 18, 19, 20]] (by kernel_rfl) (by kernel_rfl) (NoPanic.seq (NoPanic.block (NoPanic.seq (NoPanic.seq (NoPanic.block (NoPanic.block (NoPanic.seq (NoPanic.seq (NoPanic.block (NoPanic.seq (NoPanic.body))))))))))) ?_
        have hS19023 := hS18983.drew
        revert hS19023
        generalize World.drew w18982 = w19022
        intro hS19023
        refine ⟨⟨nrow_cell (hS19023.rd 0).1 z_Row_groutworkref02 h19025.1 h19025.2 1 rfl, trivial⟩, forallC ?_ (forallN)⟩
        refine segF 8 [.v (iv ((rdD p0 x18974 z_Row_groutworkref02).South))] [0, 4, 10, 12, 15, 16, 17, 18, 121] [(0, (.slice A_p0 p0.length c_p0)), (4, (iv p4)), (10, (pt g17741)), (12, (.slice A18167 x18171.length c18168)), (15, (pt g18393)), (16, (iv x18831)), (17, (iv x18832)), (18, (iv x18974)), (121, (.bool (((rdD p0 x18974 z_Row_groutworkref02).South) == x18831)))] [.idx A_p0 x18974 p0.length] [0] [(4, (((adr A_p0).add ((x18974).toNat * 3)).add 1), (iv ((rdD p0 x18974 z_Row_groutworkref02).South)))] (fun fb => by kernel_rfl) rfl ⟨nrow_adr (hS19023.rd 0).1 h19025.1 h19025.2, trivial⟩ rfl ?_
        refine WL.setB 121 h19009 rfl ?_
        refine seg 21 [] [0, 4, 10, 12, 15, 16, 17, 18, 134] [(0, (.slice A_p0 p0.length c_p0)), (4, (iv p4)), (10, (pt g17741)), (12, (.slice A18167 x18171.length c18168)), (15, (pt g18393)), (16, (iv x18831)), (17, (iv x18832)), (18, (iv x18974)), (134, (.bool false))] [] (fun fb => by kernel_rfl) rfl trivial ?_
        refine WL.done rfl ?_
        injection hx19007 with hx19007
        exact WX.to Kx19006 false [0, 4, 10, 12, 15, 16, 17, 18, 134] rfl ⟨(hS19023.subR [0, 1]).sub [0, 1, 2, 3, 4] (by decide), hx19007.symm⟩
       rintro y19029 w19026 ⟨hS19027, hq19028⟩
       subst hq19028
       refine WX.next ?_
       rcases br_some hl18984 with ⟨h19030, hl18984⟩ | ⟨h19030, hl18984⟩
       ·refine WC.condT2 (fun fb => by kernel_rfl) h19030 ?_
        refine WC.seq ?_
        obtain ⟨h19042, hl18984⟩ := as_some hl18984
        refine WC.regionD ([(1, ⟨g18393, 2, none⟩, (.slice A18828 l18830.length c18829)), (6, ((adr A_p0).add ((x18974).toNat * 3)), (.slice ((H_p0 x18974.toNat 0).1) ((rdD p0 x18974 z_Row_groutworkref02).Cells).length ((H_p0 x18974.toNat 0).2)))], [0, 1, 2, 3, 4, 5, 6, 8], [[], [0], [], [], [2, 3], [2, 3, 4], [2, 3, 4, 5], [0, 1, 2, 3, 4, 5, 6], [0, 1, 2, 3, 4, 5, 6, 7], [0, 1, 2, 3, 4, 5, 6, 7, 8]]) [[0, 1, 2, 3, 4, 5, 6, 7, 8, 9]] (by kernel_rfl) (by kernel_rfl) (NoPanic.seq (NoPanic.block (NoPanic.seq (NoPanic.seq (NoPanic.block (NoPanic.block (NoPanic.seq (NoPanic.seq (NoPanic.block (NoPanic.seq (NoPanic.body))))))))))) ?_
        have hS19040 := hS19027.drew
        revert hS19040
        generalize World.drew w19026 = w19039
        intro hS19040
        refine ⟨⟨hS19040.cell 3 rfl 2 rfl, nrow_cell (hS19040.rd 0).1 z_Row_groutworkref02 h19042.1 h19042.2 0 rfl, trivial⟩, forallC ?_ (forallN)⟩
        refine segF 7 [.v (.slice A18828 l18830.length c18829), .v (.slice ((H_p0 x18974.toNat 0).1) ((rdD p0 x18974 z_Row_groutworkref02).Cells).length ((H_p0 x18974.toNat 0).2))] [0, 4, 10, 12, 15, 17, 18, 136, 141] [(0, (.slice A_p0 p0.length c_p0)), (4, (iv p4)), (10, (pt g17741)), (12, (.slice A18167 x18171.length c18168)), (15, (pt g18393)), (17, (iv x18832)), (18, (iv x18974)), (136, (.slice A18828 l18830.length c18829)), (141, (.slice ((H_p0 x18974.toNat 0).1) ((rdD p0 x18974 z_Row_groutworkref02).Cells).length ((H_p0 x18974.toNat 0).2)))] [.idx A_p0 x18974 p0.length] [0, 1] [(1, ⟨g18393, 2, none⟩, (.slice A18828 l18830.length c18829)), (6, ((adr A_p0).add ((x18974).toNat * 3)), (.slice ((H_p0 x18974.toNat 0).1) ((rdD p0 x18974 z_Row_groutworkref02).Cells).length ((H_p0 x18974.toNat 0).2)))] (fun fb => by kernel_rfl) rfl ⟨nrow_adr (hS19040.rd 0).1 h19042.1 h19042.2, trivial⟩ rfl ?_
        obtain ⟨h19043, hl18984⟩ := as_some hl18984
        refine WL.append hS19040 4 (d := 142) (tS := 25) (z := (iv 0)) (bytes := 8) (c2 := (H_p0 x18974.toNat 0).2) rfl (fun fb => by kernel_rfl) (nestO.at (hS19040.rd 1).1 z_Row_groutworkref02 h19042.1 h19042.2) (by kernel_rfl) (by kernel_rfl) rfl (by decide) h19043 (by decide) [0, 1, 2, 3] (by decide) (by decide) (fun A19044 c19045 w19046 hS19047 => ?_)
        refine ⟨trivial, ?_⟩
        refine seg 9 [] [0, 4, 10, 12, 15, 17, 18, 142, 143] [(0, (.slice A_p0 p0.length c_p0)), (4, (iv p4)), (10, (pt g17741)), (12, (.slice A18167 x18171.length c18168)), (15, (pt g18393)), (17, (iv x18832)), (18, (iv x18974)), (142, (.slice A19044 (l18830 ++ ((rdD p0 x18974 z_Row_groutworkref02).Cells)).length c19045)), (143, (.pointer (some ⟨g18393, 2, none⟩)))] [] (fun fb => by kernel_rfl) rfl trivial ?_
        refine WL.store hS19047 4 rfl [(2, (.slice A19044 (l18830 ++ ((rdD p0 x18974 z_Row_groutworkref02).Cells)).length c19045))] #[(iv p3), (iv p4), (.slice A19044 (l18830 ++ ((rdD p0 x18974 z_Row_groutworkref02).Cells)).length c19045)] (fun fb => by kernel_rfl) (by kernel_rfl) rfl [0, 1, 2, 3] (by decide) (by decide) (fun w19048 hS19049 => ?_)
        refine ⟨trivial, ?_⟩
        refine WL.done rfl ?_
        refine WX.next ?_
        refine WC.seq ?_
        refine WC.region ?_
        refine seg 6 [.v (iv ((rdD p0 x18974 z_Row_groutworkref02).North))] [0, 4, 10, 12, 15, 16, 17] [(0, (.slice A_p0 p0.length c_p0)), (4, (iv p4)), (10, (pt g17741)), (12, (.slice A18167 x18171.length c18168)), (15, (pt g18393)), (16, (iv ((rdD p0 x18974 z_Row_groutworkref02).North))), (17, (iv x18832))] [.idx A_p0 x18974 p0.length, .cell (((adr A_p0).add ((x18974).toNat * 3)).add 2) (iv ((rdD p0 x18974 z_Row_groutworkref02).North))] (fun fb => by kernel_rfl) rfl ⟨nrow_adr (hS19049.rd 0).1 h19042.1 h19042.2, nrow_cell (hS19049.rd 0).1 z_Row_groutworkref02 h19042.1 h19042.2 2 rfl, trivial⟩ ?_
        refine WL.done rfl ?_
        refine WX.next ?_
        refine WC.exit ?_
        injection hl18984 with hl18984
        exact WX.blockPast (by decide) (WX.thenX (WX.thenX (WX.blockHere (WX.to Kx18979 ((l18830 ++ ((rdD p0 x18974 z_Row_groutworkref02).Cells), (rdD p0 x18974 z_Row_groutworkref02).North), A19044, c19045) [0, 4, 10, 12, 15, 16, 17] rfl ⟨(hS19049.subR [0, 1]).sub [2, 3, 4, 0, 1] (by decide), hl18984.symm⟩))))
       refine WC.condF2 (fun fb => by kernel_rfl) h19030 ?_
       refine WC.skip ?_
       refine WX.blockN (WX.next ?_)
       refine WC.region ?_
       refine seg 3 [] [0, 4, 10, 12, 15, 16, 17, 18] [(0, (.slice A_p0 p0.length c_p0)), (4, (iv p4)), (10, (pt g17741)), (12, (.slice A18167 x18171.length c18168)), (15, (pt g18393)), (16, (iv x18831)), (17, (iv x18832)), (18, (iv (w64 (x18974 + 1))))] [] (fun fb => by kernel_rfl) rfl trivial ?_
       refine WL.done rfl ?_
       exact WX.again k18981 (Nat.lt_succ_self _) (w64 (x18974 + 1)) [0, 4, 10, 12, 15, 16, 17, 18] rfl ⟨(hS19027.subR [0, 1]).sub [0, 1, 2, 3, 4] (by decide), hl18984⟩
      refine WC.condF2 (fun fb => by kernel_rfl) h18985 ?_
      refine WC.exit ?_
      injection hl18984 with hl18984
      exact WX.thenX (WX.thenX (WX.blockHere (WX.to Kx18979 ((l18830, x18831), A18828, c18829) [0, 4, 10, 12, 15, 16, 17] rfl ⟨(hS18983.subR [0, 1]).sub [0, 1, 2, 3, 4] (by decide), hl18984.symm⟩)))
    rintro ⟨y19053, A18975, c18976⟩ w19050 ⟨hS19051, hq19052⟩
    subst hq19052
    refine WX.blockN (WX.next ?_)
    refine WC.region ?_
    refine seg 3 [] [0, 4, 10, 12, 15, 16, 17] [(0, (.slice A_p0 p0.length c_p0)), (4, (iv p4)), (10, (pt g17741)), (12, (.slice A18167 x18171.length c18168)), (15, (pt g18393)), (16, (iv x18979.2)), (17, (iv (w64 (x18832 + 1))))] [] (fun fb => by kernel_rfl) rfl trivial ?_
    refine WL.done rfl ?_
    exact WX.again k18838 (Nat.lt_succ_self _) ((x18979.1, x18979.2, w64 (x18832 + 1)), A18975, c18976) [0, 4, 10, 12, 15, 16, 17] rfl ⟨(hS19051.subR [0, 1]).sub [0, 1, 2, 3, 4] (by decide), hl18841⟩
   refine WC.condF2 (fun fb => by kernel_rfl) h18842 ?_
   refine WC.exit ?_
   injection hl18841 with hl18841
   exact WX.thenX (WX.thenX (WX.blockHere (WX.to Kx18836 (l18830, A18828, c18829) [10, 15] rfl ⟨(hS18840.subR [0, 1]).sub [0, 3, 4] (by decide), hl18841.symm⟩)))
 rintro ⟨y19057, A18833, c18834⟩ w19054 ⟨hS19055, hq19056⟩
 subst hq19056
 refine WX.next ?_
 refine WC.seq ?_
 refine WC.region ?_
 refine seg 1 [.v (iv p3), .v (iv p4), .v (.slice A18833 x18836.length c18834)] [10, 149] [(10, (pt g17741)), (149, (.agg #[(iv p3), (iv p4), (.slice A18833 x18836.length c18834)]))] [.cell ⟨g18393, 0, none⟩ (iv p3), .cell ⟨g18393, 1, none⟩ (iv p4), .cell ⟨g18393, 2, none⟩ (.slice A18833 x18836.length c18834)] (fun fb => by kernel_rfl) rfl ⟨hS19055.cell 1 rfl 0 rfl, hS19055.cell 1 rfl 1 rfl, hS19055.cell 1 rfl 2 rfl, trivial⟩ ?_
 refine WL.store hS19055 0 rfl [(0, (iv p3)), (1, (iv p4)), (2, (.slice A18833 x18836.length c18834))] #[(iv p3), (iv p4), (.slice A18833 x18836.length c18834)] (fun fb => by kernel_rfl) (by kernel_rfl) rfl [1, 2] (by decide) (by decide) (fun w19058 hS19059 => ?_)
 refine ⟨trivial, ?_⟩
 refine seg 3 [] [10, 11] [(10, (pt g17741)), (11, (.bool true))] [] (fun fb => by kernel_rfl) rfl trivial ?_
 refine WL.done rfl ?_
 refine WX.next ?_
 refine WC.ret ?_
 injection hf with hf
 subst hf
 exact WX.ret_ [.v (iv p3), .v (iv p4), .v (.slice A18833 x18836.length c18834)] (.tuple #[(.agg #[(iv p3), (iv p4), (.slice A18833 x18836.length c18834)]), (.bool true)]) [.cell ⟨g17741, 0, none⟩ (iv p3), .cell ⟨g17741, 1, none⟩ (iv p4), .cell ⟨g17741, 2, none⟩ (.slice A18833 x18836.length c18834)] (fun fb => by kernel_rfl) ⟨hS19059.cell 0 rfl 0 rfl, hS19059.cell 0 rfl 1 rfl, hS19059.cell 0 rfl 2 rfl, trivial⟩ ⟨_, rfl, A18833, c18834, rfl, (hS19059.sub [2] (by decide)).noR⟩
theorem ref03_Find_calls (k : Nat) (p0 : List Tile) (p1 : Int) (p2 : Int) (A_p0 : Option Addr) (c_p0 : Nat) (r : Pattern × Bool) (w : World) (hR0 : RO NoS w (rowR enc_Tile A_p0 c_p0 p0)) (hf : ref03_Find k p0 p1 p2 = some r) :
  CallsR Tryd.prog 20 #[(.slice A_p0 p0.length c_p0), (iv p1), (iv p2)] w (fun v w' => ∃ (A1_ : Option Addr), ∃ (c1_ : Nat), v = (.tuple #[(.agg #[(iv r.1.Width), (iv r.1.Height), (.slice A1_ r.1.Cells.length c1_)]), (.bool r.2)]) ∧ St NoS w w' [] [rowO 3 encInt A1_ c1_ r.1.Cells]) := by
 have hS : St NoS w w [rowR enc_Tile A_p0 c_p0 p0] [] := St.init (ro_cons hR0 (ro_nil _ _))
 refine enter 39 Tryd.func20 rfl Tryd.ntmps20 rfl ?_
 unfold ref03_Find at hf
 refine WC.seq ?_
 refine WC.region ?_
 refine WL.new hS 6 [] (fun g => (.pointer (some ⟨g, 0, none⟩))) (.cells #[(iv 0), (iv 0), (.slice none 0 0)] 27 (0, 0)) [] (fun fb g => by kernel_rfl) trivial (fun g6127 w6128 hS6129 => ?_)
 refine ⟨trivial, ?_⟩
 refine seg 2 [] [0, 1, 2, 6] [(0, (.slice A_p0 p0.length c_p0)), (1, (iv p1)), (2, (iv p2)), (6, (pt g6127))] [] (fun fb => by kernel_rfl) rfl trivial ?_
 refine WL.done rfl ?_
 refine WX.next ?_
 refine WC.seq ?_
 refine WC.region ?_
 refine seg 2 [] [0, 1, 2, 6, 13, 14] [(0, (.slice A_p0 p0.length c_p0)), (1, (iv p1)), (2, (iv p2)), (6, (pt g6127)), (13, (.slice A_p0 p0.length c_p0)), (14, (iv p1))] [] (fun fb => by kernel_rfl) rfl trivial ?_
 obtain ⟨t17720, ht17721, hf⟩ := bind_some hf
 refine WL.call (some 15) 55 #[(.slice A_p0 p0.length c_p0), (iv p1)] (fun fb => by kernel_rfl) (ref03_round_calls _ p0 p1 A_p0 c_p0 t17720 _ (hS6129.rd 0) ht17721) (fun v w17722 hR17723 => ?_)
 obtain ⟨A17725, c17726, H17727, rfl, hk_⟩ := hR17723
 have hS17724 : St NoS w w17722 [rowR enc_Tile A_p0 c_p0 p0] [rowO 88 encN_Row_groutworkref02 A17725 c17726 (tag H17727 t17720), poolO [nestO subN_Row_groutworkref02 H17727 t17720], blk g6127 (.cells #[(iv 0), (iv 0), (.slice none 0 0)] 27 (0, 0))] := hS6129.call hk_ [] [0] (fun g hg => hg.elim) (by simp) (by decide)
 refine ⟨trivial, ?_⟩
 refine seg 4 [] [0, 1, 2, 6, 8] [(0, (.slice A_p0 p0.length c_p0)), (1, (iv p1)), (2, (iv p2)), (6, (pt g6127)), (8, (.slice A17725 t17720.length c17726))] [] (fun fb => by kernel_rfl) rfl trivial ?_
 refine WL.done rfl ?_
 refine WX.next ?_
 refine WC.seq ?_
 refine WC.region ?_
 refine seg 1 [] [1, 2, 6, 8, 16] [(1, (iv p1)), (2, (iv p2)), (6, (pt g6127)), (8, (.slice A17725 t17720.length c17726)), (16, (.slice A_p0 p0.length c_p0))] [] (fun fb => by kernel_rfl) rfl trivial ?_
 obtain ⟨t17728, ht17729, hf⟩ := bind_some hf
 refine WL.call (some 17) 38 #[(.slice A_p0 p0.length c_p0)] (fun fb => by kernel_rfl) (ref02_Colours_calls _ p0 A_p0 c_p0 t17728 _ (hS17724.rd 0) ht17729) (fun v w17730 hR17731 => ?_)
 obtain ⟨A17733, c17734, rfl, hk_⟩ := hR17731
 have hS17732 : St NoS w w17730 [rowR enc_Tile A_p0 c_p0 p0] [rowO 3 encInt A17733 c17734 t17728, rowO 88 encN_Row_groutworkref02 A17725 c17726 (tag H17727 t17720), poolO [nestO subN_Row_groutworkref02 H17727 t17720], blk g6127 (.cells #[(iv 0), (iv 0), (.slice none 0 0)] 27 (0, 0))] := hS17724.call hk_ [] [0, 1, 2] (fun g hg => hg.elim) (by simp) (by decide)
 refine ⟨trivial, ?_⟩
 refine seg 4 [] [1, 2, 6, 8, 18, 19] [(1, (iv p1)), (2, (iv p2)), (6, (pt g6127)), (8, (.slice A17725 t17720.length c17726)), (18, (iv (t17728.length : Int))), (19, (iv p1))] [] (fun fb => by kernel_rfl) rfl trivial ?_
 obtain ⟨t17735, ht17736, hf⟩ := bind_some hf
 refine WL.call (some 20) 24 #[(iv (t17728.length : Int)), (iv p1)] (fun fb => by kernel_rfl) (ref02_Power_calls _ (t17728.length : Int) p1 t17735 _ ht17736) (fun v w17737 hR17738 => ?_)
 obtain ⟨rfl, hk_⟩ := hR17738
 have hS17739 := hS17732.keepN hk_
 refine ⟨trivial, ?_⟩
 refine seg 6 [] [1, 2, 6, 8, 9] [(1, (iv p1)), (2, (iv p2)), (6, (pt g6127)), (8, (.slice A17725 t17720.length c17726)), (9, (iv t17735))] [] (fun fb => by kernel_rfl) rfl trivial ?_
 refine WL.done rfl ?_
 refine WX.next ?_
 refine WC.seq ?_
 refine WC.seq ?_
 refine WC.region ?_
 refine seg 1 [] [1, 2, 6, 8, 9, 10] [(1, (iv p1)), (2, (iv p2)), (6, (pt g6127)), (8, (.slice A17725 t17720.length c17726)), (9, (iv t17735)), (10, (iv 0))] [] (fun fb => by kernel_rfl) rfl trivial ?_
 refine WL.done rfl ?_
 refine WX.next ?_
 obtain ⟨x19095, hx19096, hf⟩ := bind_some hf
 refine WC.cutN (T := Unit) (fun t => [(6, (pt g6127))]) (fun t w1 => St NoS w w1 [rowR enc_Tile A_p0 c_p0 p0] [blk g6127 (.cells #[(iv 0), (iv 0), (.slice none 0 0)] 27 (0, 0))] ∧ x19095 = .inr t) (fun Kx19095 => ?_) ?_
 ·
  refine WC.block ?_
  refine WC.loop (T := Int) (fun t => [(1, (iv p1)), (2, (iv p2)), (6, (pt g6127)), (8, (.slice A17725 t17720.length c17726)), (9, (iv t17735)), (10, (iv t))]) (fun n t w1 => St NoS w w1 [rowR enc_Tile A_p0 c_p0 p0] [blk g6127 (.cells #[(iv 0), (iv 0), (.slice none 0 0)] 27 (0, 0)), rowO 88 encN_Row_groutworkref02 A17725 c17726 (tag H17727 t17720), poolO [nestO subN_Row_groutworkref02 H17727 t17720]] ∧ ref03_Find.l0 n t p1 p2 t17720 t17735 = some x19095) k 0 [1, 2, 6, 8, 9, 10] rfl ⟨(hS17739.subR [0]).sub [3, 1, 2] (by decide), hx19096⟩ ?_
  rintro k19097 x19094 w19098 ⟨hS19099, hl19100⟩
  cases k19097 with
  | zero => rw [ref03_Find.l0] at hl19100; cases hl19100
  | succ k19097 =>
   rw [ref03_Find.l0] at hl19100
   refine WC.seq ?_
   refine WC.seq ?_
   refine WC.region ?_
   refine seg 4 [] [1, 2, 6, 8, 9, 10, 24] [(1, (iv p1)), (2, (iv p2)), (6, (pt g6127)), (8, (.slice A17725 t17720.length c17726)), (9, (iv t17735)), (10, (iv x19094)), (24, (.bool (decide (x19094 < (t17720.length : Int)))))] [] (fun fb => by kernel_rfl) rfl trivial ?_
   refine WL.done rfl ?_
   refine WX.next ?_
   rcases br_some hl19100 with ⟨h19101, hl19100⟩ | ⟨h19101, hl19100⟩
   ·refine WC.condT2 (fun fb => by kernel_rfl) h19101 ?_
    refine WC.skip ?_
    refine WX.next ?_
    refine WC.seq ?_
    refine WC.block ?_
    refine WC.seq ?_
    refine WC.region ?_
    refine seg 5 [] [1, 2, 6, 8, 9, 10, 28, 29, 30, 31, 32] [(1, (iv p1)), (2, (iv p2)), (6, (pt g6127)), (8, (.slice A17725 t17720.length c17726)), (9, (iv t17735)), (10, (iv x19094)), (28, (.slice A17725 t17720.length c17726)), (29, (iv x19094)), (30, (iv t17735)), (31, (iv p1)), (32, (iv p2))] [] (fun fb => by kernel_rfl) rfl trivial ?_
    obtain ⟨t19102, ht19103, hl19100⟩ := bind_some hl19100
    refine WL.call (some 33) 56 #[(.slice A17725 t17720.length c17726), (iv x19094), (iv t17735), (iv p1), (iv p2)] (fun fb => by kernel_rfl) (ref03_from_calls _ t17720 x19094 t17735 p1 p2 A17725 c17726 H17727 t19102 _ (hS19099.ow 1).ofO (poolO.ro (hS19099.ow 2) 0) ht19103) (fun v w19104 hR19105 => ?_)
    obtain ⟨A19107, c19108, rfl, hk_⟩ := hR19105
    have hS19106 : St NoS w w19104 [rowR enc_Tile A_p0 c_p0 p0] [rowO 3 encInt A19107 c19108 t19102.1.Cells, blk g6127 (.cells #[(iv 0), (iv 0), (.slice none 0 0)] 27 (0, 0)), rowO 88 encN_Row_groutworkref02 A17725 c17726 (tag H17727 t17720), poolO [nestO subN_Row_groutworkref02 H17727 t17720]] := hS19099.call hk_ [] [0, 1, 2] (fun g hg => hg.elim) (by simp) (by decide)
    refine ⟨trivial, ?_⟩
    refine seg 9 [] [1, 2, 6, 8, 9, 10, 34, 35] [(1, (iv p1)), (2, (iv p2)), (6, (pt g6127)), (8, (.slice A17725 t17720.length c17726)), (9, (iv t17735)), (10, (iv x19094)), (34, (.agg #[(iv t19102.1.Width), (iv t19102.1.Height), (.slice A19107 t19102.1.Cells.length c19108)])), (35, (.bool t19102.2))] [] (fun fb => by kernel_rfl) rfl trivial ?_
    refine WL.new hS19106 11 [] (fun g => (.pointer (some ⟨g, 0, none⟩))) (.cells #[(iv 0), (iv 0), (.slice none 0 0)] 27 (0, 0)) [] (fun fb g => by kernel_rfl) trivial (fun g19109 w19110 hS19111 => ?_)
    refine ⟨trivial, ?_⟩
    refine WL.store hS19111 0 rfl [(0, (iv t19102.1.Width)), (1, (iv t19102.1.Height)), (2, (.slice A19107 t19102.1.Cells.length c19108))] #[(iv t19102.1.Width), (iv t19102.1.Height), (.slice A19107 t19102.1.Cells.length c19108)] (fun fb => by kernel_rfl) (by kernel_rfl) rfl [1, 2, 3, 4] (by decide) (by decide) (fun w19113 hS19114 => ?_)
    refine ⟨trivial, ?_⟩
    refine seg 12 [] [1, 2, 6, 8, 9, 10, 11, 12] [(1, (iv p1)), (2, (iv p2)), (6, (pt g6127)), (8, (.slice A17725 t17720.length c17726)), (9, (iv t17735)), (10, (iv x19094)), (11, (pt g19109)), (12, (.bool t19102.2))] [] (fun fb => by kernel_rfl) rfl trivial ?_
    refine WL.done rfl ?_
    refine WX.next ?_
    refine WC.seq ?_
    refine WC.region ?_
    refine seg 1 [] [1, 2, 6, 8, 9, 10, 11, 36] [(1, (iv p1)), (2, (iv p2)), (6, (pt g6127)), (8, (.slice A17725 t17720.length c17726)), (9, (iv t17735)), (10, (iv x19094)), (11, (pt g19109)), (36, (.bool t19102.2))] [] (fun fb => by kernel_rfl) rfl trivial ?_
    refine WL.done rfl ?_
    refine WX.next ?_
    rcases br_some hl19100 with ⟨h19115, hl19100⟩ | ⟨h19115, hl19100⟩
    ·refine WC.condT2 (fun fb => by kernel_rfl) h19115 ?_
     refine WC.seq ?_
     refine WC.region ?_
     refine seg 1 [.v (iv t19102.1.Width), .v (iv t19102.1.Height), .v (.slice A19107 t19102.1.Cells.length c19108)] [6, 37] [(6, (pt g6127)), (37, (.agg #[(iv t19102.1.Width), (iv t19102.1.Height), (.slice A19107 t19102.1.Cells.length c19108)]))] [.cell ⟨g19109, 0, none⟩ (iv t19102.1.Width), .cell ⟨g19109, 1, none⟩ (iv t19102.1.Height), .cell ⟨g19109, 2, none⟩ (.slice A19107 t19102.1.Cells.length c19108)] (fun fb => by kernel_rfl) rfl ⟨hS19114.cell 0 rfl 0 rfl, hS19114.cell 0 rfl 1 rfl, hS19114.cell 0 rfl 2 rfl, trivial⟩ ?_
     refine WL.store hS19114 2 rfl [(0, (iv t19102.1.Width)), (1, (iv t19102.1.Height)), (2, (.slice A19107 t19102.1.Cells.length c19108))] #[(iv t19102.1.Width), (iv t19102.1.Height), (.slice A19107 t19102.1.Cells.length c19108)] (fun fb => by kernel_rfl) (by kernel_rfl) rfl [0, 1, 3, 4] (by decide) (by decide) (fun w19116 hS19117 => ?_)
     refine ⟨trivial, ?_⟩
     refine seg 3 [] [6, 7] [(6, (pt g6127)), (7, (.bool true))] [] (fun fb => by kernel_rfl) rfl trivial ?_
     refine WL.done rfl ?_
     refine WX.next ?_
     refine WC.ret ?_
     injection hl19100 with hl19100
     subst hl19100
     injection hf with hf
     subst hf
     exact WX.blockR (WX.thenR (WX.thenR (WX.blockR (WX.thenR (WX.ret_ [.v (iv t19102.1.Width), .v (iv t19102.1.Height), .v (.slice A19107 t19102.1.Cells.length c19108)] (.tuple #[(.agg #[(iv t19102.1.Width), (iv t19102.1.Height), (.slice A19107 t19102.1.Cells.length c19108)]), (.bool true)]) [.cell ⟨g6127, 0, none⟩ (iv t19102.1.Width), .cell ⟨g6127, 1, none⟩ (iv t19102.1.Height), .cell ⟨g6127, 2, none⟩ (.slice A19107 t19102.1.Cells.length c19108)] (fun fb => by kernel_rfl) ⟨hS19117.cell 0 rfl 0 rfl, hS19117.cell 0 rfl 1 rfl, hS19117.cell 0 rfl 2 rfl, trivial⟩ ⟨_, rfl, A19107, c19108, rfl, (hS19117.sub [2] (by decide)).noR⟩)))))
    refine WC.condF2 (fun fb => by kernel_rfl) h19115 ?_
    refine WC.skip ?_
    refine WX.blockN (WX.next ?_)
    refine WC.region ?_
    refine seg 3 [] [1, 2, 6, 8, 9, 10] [(1, (iv p1)), (2, (iv p2)), (6, (pt g6127)), (8, (.slice A17725 t17720.length c17726)), (9, (iv t17735)), (10, (iv (w64 (x19094 + 1))))] [] (fun fb => by kernel_rfl) rfl trivial ?_
    refine WL.done rfl ?_
    exact WX.again k19097 (Nat.lt_succ_self _) (w64 (x19094 + 1)) [1, 2, 6, 8, 9, 10] rfl ⟨(hS19114.subR [0]).sub [2, 3, 4] (by decide), hl19100⟩
   refine WC.condF2 (fun fb => by kernel_rfl) h19101 ?_
   refine WC.exit ?_
   injection hl19100 with hl19100
   exact WX.thenX (WX.thenX (WX.blockHere (WX.to Kx19095 () [6] rfl ⟨(hS19099.subR [0]).sub [0] (by decide), hl19100.symm⟩)))
 rintro y19121 w19118 ⟨hS19119, hq19120⟩
 subst hq19120
 have hf := sum_inr hf
 refine WX.next ?_
 refine WC.seq ?_
 refine WC.region ?_
 refine seg 1 [] [6, 38] [(6, (pt g6127)), (38, (.agg #[(iv 0), (iv 0), (.slice none 0 0)]))] [] (fun fb => by kernel_rfl) rfl trivial ?_
 refine WL.store hS19119 0 rfl [(0, (iv 0)), (1, (iv 0)), (2, (.slice none 0 0))] #[(iv 0), (iv 0), (.slice none 0 0)] (fun fb => by kernel_rfl) (by kernel_rfl) rfl [] (by decide) (by decide) (fun w19123 hS19124 => ?_)
 refine ⟨trivial, ?_⟩
 refine seg 3 [] [6, 7] [(6, (pt g6127)), (7, (.bool false))] [] (fun fb => by kernel_rfl) rfl trivial ?_
 refine WL.done rfl ?_
 refine WX.next ?_
 refine WC.ret ?_
 have hS19125 := hS19124.nilrow 3 encInt
 injection hf with hf
 subst hf
 exact WX.ret_ [.v (iv 0), .v (iv 0), .v (.slice none 0 0)] (.tuple #[(.agg #[(iv 0), (iv 0), (.slice none ([] : List Int).length 0)]), (.bool false)]) [.cell ⟨g6127, 0, none⟩ (iv 0), .cell ⟨g6127, 1, none⟩ (iv 0), .cell ⟨g6127, 2, none⟩ (.slice none 0 0)] (fun fb => by kernel_rfl) ⟨hS19124.cell 0 rfl 0 rfl, hS19124.cell 0 rfl 1 rfl, hS19124.cell 0 rfl 2 rfl, trivial⟩ ⟨_, rfl, none, 0, rfl, (hS19125.sub [0] (by decide)).noR⟩
theorem law03_is_calls (k : Nat) (p0 : Pattern) (p1 : Int) (p2 : Pattern) (p3 : Bool) (A_p0_Cells : Option Addr) (c_p0_Cells : Nat) (A_p2_Cells : Option Addr) (c_p2_Cells : Nat) (r : Bool) (w : World) (hR0 : RO NoS w (rowR encInt A_p0_Cells c_p0_Cells p0.Cells)) (hR1 : RO NoS w (rowR encInt A_p2_Cells c_p2_Cells p2.Cells)) (hf : law03_is k p0 p1 p2 p3 = some r) :
  CallsR Tryd.prog 21 #[(.agg #[(iv p0.Width), (iv p0.Height), (.slice A_p0_Cells p0.Cells.length c_p0_Cells)]), (iv p1), (.agg #[(iv p2.Width), (iv p2.Height), (.slice A_p2_Cells p2.Cells.length c_p2_Cells)]), (.bool p3)] w (fun v w' => v = (.bool r) ∧ Keeps NoS w w') := by
 have hS : St NoS w w [rowR encInt A_p0_Cells c_p0_Cells p0.Cells, rowR encInt A_p2_Cells c_p2_Cells p2.Cells] [] := St.init (ro_cons hR0 (ro_cons hR1 (ro_nil _ _)))
 refine enter 25 Tryd.func21 rfl Tryd.ntmps21 rfl ?_
 unfold law03_is at hf
 refine WC.seq ?_
 refine WC.region ?_
 refine WL.new hS 4 [] (fun g => (.pointer (some ⟨g, 0, none⟩))) (.cells #[(iv p0.Width), (iv p0.Height), (.slice A_p0_Cells p0.Cells.length c_p0_Cells)] 27 (0, 0)) [] (fun fb g => by kernel_rfl) trivial (fun g19139 w19140 hS19141 => ?_)
 refine ⟨trivial, ?_⟩
 refine WL.new hS19141 6 [] (fun g => (.pointer (some ⟨g, 0, none⟩))) (.cells #[(iv p2.Width), (iv p2.Height), (.slice A_p2_Cells p2.Cells.length c_p2_Cells)] 27 (0, 0)) [] (fun fb g => by kernel_rfl) trivial (fun g19143 w19144 hS19145 => ?_)
 refine ⟨trivial, ?_⟩
 refine seg 3 [] [1, 3, 4, 6] [(1, (iv p1)), (3, (.bool p3)), (4, (pt g19139)), (6, (pt g19143))] [] (fun fb => by kernel_rfl) rfl trivial ?_
 refine WL.done rfl ?_
 refine WX.next ?_
 refine WC.seq ?_
 refine WC.seq ?_
 refine WC.region ?_
 refine seg 2 [] [1, 4, 6, 10] [(1, (iv p1)), (4, (pt g19139)), (6, (pt g19143)), (10, (.bool (!p3)))] [] (fun fb => by kernel_rfl) rfl trivial ?_
 refine WL.done rfl ?_
 refine WX.next ?_
 rcases br_some hf with ⟨h19147, hf⟩ | ⟨h19147, hf⟩
 ·refine WC.condT2 (fun fb => by kernel_rfl) h19147 ?_
  refine WC.seq ?_
  refine WC.region ?_
  refine seg 3 [] [4, 13] [(4, (pt g19139)), (13, (.bool (p1 == 6)))] [] (fun fb => by kernel_rfl) rfl trivial ?_
  obtain ⟨x19154, hx19155, hf⟩ := bind_some hf
  refine WL.cutW (T := Bool) 7 (fun t => [(17, (.bool t))]) (fun t w1 => (St NoS w w1 [rowR encInt A_p0_Cells c_p0_Cells p0.Cells, rowR encInt A_p2_Cells c_p2_Cells p2.Cells] [] ∧ x19154 = t) ∧ CellsOK [] w1) (fun K => ?_) ?_
  ·
   rcases br_some hx19155 with ⟨h19156, hx19155⟩ | ⟨h19156, hx19155⟩
   ·
    refine WL.setB 13 h19156 rfl ?_
    refine seg 5 [.v (iv p0.Width), .v (iv p0.Height), .v (.slice A_p0_Cells p0.Cells.length c_p0_Cells)] [13, 14, 15] [(13, (.bool true)), (14, (.agg #[(iv p0.Width), (iv p0.Height), (.slice A_p0_Cells p0.Cells.length c_p0_Cells)])), (15, (.agg #[(iv 0), (iv 0), (.slice none 0 0)]))] [.cell ⟨g19139, 0, none⟩ (iv p0.Width), .cell ⟨g19139, 1, none⟩ (iv p0.Height), .cell ⟨g19139, 2, none⟩ (.slice A_p0_Cells p0.Cells.length c_p0_Cells)] (fun fb => by kernel_rfl) rfl ⟨hS19145.cell 1 rfl 0 rfl, hS19145.cell 1 rfl 1 rfl, hS19145.cell 1 rfl 2 rfl, trivial⟩ ?_
    obtain ⟨t19157, ht19158, hx19155⟩ := bind_some hx19155
    refine WL.call (some 16) 32 #[(.agg #[(iv p0.Width), (iv p0.Height), (.slice A_p0_Cells p0.Cells.length c_p0_Cells)]), (.agg #[(iv 0), (iv 0), (.slice none 0 0)])] (fun fb => by kernel_rfl) (ref01_SamePattern_calls _ p0 (Pattern.mk 0 0 ([] : List Int)) A_p0_Cells c_p0_Cells none 0 t19157 _ (hS19145.rd 0) (RO.nilR _ _ _) ht19158) (fun v w19159 hR19160 => ?_)
    obtain ⟨rfl, hk_⟩ := hR19160
    have hS19161 := hS19145.keepN hk_
    refine ⟨trivial, ?_⟩
    refine seg 7 [] [17] [(17, (.bool t19157))] [] (fun fb => by kernel_rfl) rfl trivial ?_
    injection hx19155 with hx19155
    exact WL.to K t19157 [17] rfl ⟨⟨(hS19161.subR [0, 1]).sub [] (by decide), hx19155.symm⟩, trivial⟩
   refine WL.setB 13 h19156 rfl ?_
   refine seg 7 [] [17] [(17, (.bool false))] [] (fun fb => by kernel_rfl) rfl trivial ?_
   injection hx19155 with hx19155
   exact WL.to K false [17] rfl ⟨⟨(hS19145.subR [0, 1]).sub [] (by decide), hx19155.symm⟩, trivial⟩
  rintro y19162 w19164 ⟨⟨hS19165, hq19163⟩, hF19166⟩
  subst hq19163
  refine seg 8 [] [8] [(8, (.bool x19154))] [] (fun fb => by kernel_rfl) rfl trivial ?_
  refine WL.done rfl ?_
  refine WX.next ?_
  refine WC.ret ?_
  injection hf with hf
  subst hf
  exact WX.thenR (WX.ret_ [] (.bool x19154) [] (fun fb => by kernel_rfl) trivial ⟨_, rfl, rfl, hS19165.keep⟩)
 refine WC.condF2 (fun fb => by kernel_rfl) h19147 ?_
 refine WC.skip ?_
 refine WX.next ?_
 refine WC.seq ?_
 refine WC.region ?_
 refine seg 3 [] [4, 6, 20] [(4, (pt g19139)), (6, (pt g19143)), (20, (.bool (p1 == 0)))] [] (fun fb => by kernel_rfl) rfl trivial ?_
 obtain ⟨x19173, hx19174, hf⟩ := bind_some hf
 refine WL.cutW (T := Bool) 7 (fun t => [(24, (.bool t))]) (fun t w1 => (St NoS w w1 [rowR encInt A_p0_Cells c_p0_Cells p0.Cells, rowR encInt A_p2_Cells c_p2_Cells p2.Cells] [] ∧ x19173 = t) ∧ CellsOK [] w1) (fun K => ?_) ?_
 ·
  rcases br_some hx19174 with ⟨h19175, hx19174⟩ | ⟨h19175, hx19174⟩
  ·
   refine WL.setB 20 h19175 rfl ?_
   refine seg 5 [.v (iv p0.Width), .v (iv p0.Height), .v (.slice A_p0_Cells p0.Cells.length c_p0_Cells), .v (iv p2.Width), .v (iv p2.Height), .v (.slice A_p2_Cells p2.Cells.length c_p2_Cells)] [20, 21, 22] [(20, (.bool true)), (21, (.agg #[(iv p0.Width), (iv p0.Height), (.slice A_p0_Cells p0.Cells.length c_p0_Cells)])), (22, (.agg #[(iv p2.Width), (iv p2.Height), (.slice A_p2_Cells p2.Cells.length c_p2_Cells)]))] [.cell ⟨g19139, 0, none⟩ (iv p0.Width), .cell ⟨g19139, 1, none⟩ (iv p0.Height), .cell ⟨g19139, 2, none⟩ (.slice A_p0_Cells p0.Cells.length c_p0_Cells), .cell ⟨g19143, 0, none⟩ (iv p2.Width), .cell ⟨g19143, 1, none⟩ (iv p2.Height), .cell ⟨g19143, 2, none⟩ (.slice A_p2_Cells p2.Cells.length c_p2_Cells)] (fun fb => by kernel_rfl) rfl ⟨hS19145.cell 1 rfl 0 rfl, hS19145.cell 1 rfl 1 rfl, hS19145.cell 1 rfl 2 rfl, hS19145.cell 0 rfl 0 rfl, hS19145.cell 0 rfl 1 rfl, hS19145.cell 0 rfl 2 rfl, trivial⟩ ?_
   obtain ⟨t19176, ht19177, hx19174⟩ := bind_some hx19174
   refine WL.call (some 23) 32 #[(.agg #[(iv p0.Width), (iv p0.Height), (.slice A_p0_Cells p0.Cells.length c_p0_Cells)]), (.agg #[(iv p2.Width), (iv p2.Height), (.slice A_p2_Cells p2.Cells.length c_p2_Cells)])] (fun fb => by kernel_rfl) (ref01_SamePattern_calls _ p0 p2 A_p0_Cells c_p0_Cells A_p2_Cells c_p2_Cells t19176 _ (hS19145.rd 0) (hS19145.rd 1) ht19177) (fun v w19178 hR19179 => ?_)
   obtain ⟨rfl, hk_⟩ := hR19179
   have hS19180 := hS19145.keepN hk_
   refine ⟨trivial, ?_⟩
   refine seg 7 [] [24] [(24, (.bool t19176))] [] (fun fb => by kernel_rfl) rfl trivial ?_
   injection hx19174 with hx19174
   exact WL.to K t19176 [24] rfl ⟨⟨(hS19180.subR [0, 1]).sub [] (by decide), hx19174.symm⟩, trivial⟩
  refine WL.setB 20 h19175 rfl ?_
  refine seg 7 [] [24] [(24, (.bool false))] [] (fun fb => by kernel_rfl) rfl trivial ?_
  injection hx19174 with hx19174
  exact WL.to K false [24] rfl ⟨⟨(hS19145.subR [0, 1]).sub [] (by decide), hx19174.symm⟩, trivial⟩
 rintro y19181 w19183 ⟨⟨hS19184, hq19182⟩, hF19185⟩
 subst hq19182
 refine seg 8 [] [8] [(8, (.bool x19173))] [] (fun fb => by kernel_rfl) rfl trivial ?_
 refine WL.done rfl ?_
 refine WX.next ?_
 refine WC.ret ?_
 injection hf with hf
 subst hf
 exact WX.ret_ [] (.bool x19173) [] (fun fb => by kernel_rfl) trivial ⟨_, rfl, rfl, hS19184.keep⟩
theorem law03_TorusFinds_calls (k : Nat) (p0 : List Tile) (p1 : Int) (p2 : Int) (A_p0 : Option Addr) (c_p0 : Nat) (mG : Int) (r : Bool) (w : World) (hR0 : RO NoS w (rowR enc_Tile A_p0 c_p0 p0)) (hR1 : RO NoS w (cel ⟨2, 0, none⟩ (iv mG))) (hf : law03_TorusFinds k p0 p1 p2 = some r) :
  CallsR Tryd.prog 3 #[(.slice A_p0 p0.length c_p0), (iv p1), (iv p2)] w (fun v w' => v = (.bool r) ∧ Keeps NoS w w') := by
 have hS : St NoS w w [rowR enc_Tile A_p0 c_p0 p0, cel ⟨2, 0, none⟩ (iv mG)] [] := St.init (ro_cons hR0 (ro_cons hR1 (ro_nil _ _)))
 refine enter 97 Tryd.func3 rfl Tryd.ntmps3 rfl ?_
 unfold law03_TorusFinds at hf
 refine WC.seq ?_
 refine WC.region ?_
 refine seg 1 [] [0, 1, 2] [(0, (.slice A_p0 p0.length c_p0)), (1, (iv p1)), (2, (iv p2))] [] (fun fb => by kernel_rfl) rfl trivial ?_
 refine WL.done rfl ?_
 refine WX.next ?_
 refine WC.seq ?_
 refine WC.seq ?_
 refine WC.region ?_
 refine seg 3 [] [0, 1, 2, 15] [(0, (.slice A_p0 p0.length c_p0)), (1, (iv p1)), (2, (iv p2)), (15, (.bool (decide ((p0.length : Int) > 1100))))] [] (fun fb => by kernel_rfl) rfl trivial ?_
 refine WL.done rfl ?_
 refine WX.next ?_
 rcases br_some hf with ⟨h1, hf⟩ | ⟨h1, hf⟩
 ·refine WC.condT2 (fun fb => by kernel_rfl) h1 ?_
  refine WC.seq ?_
  refine WC.region ?_
  obtain ⟨t5076, ht5077, hf⟩ := bind_some hf
  refine WL.call (some 16) 14 #[] (fun fb => by kernel_rfl) (law03_awake_calls _ mG t5076 _ (hS.rd 1) ht5077) (fun v w5078 hR5079 => ?_)
  obtain ⟨rfl, hk_⟩ := hR5079
  have hS5080 := hS.keepN hk_
  refine ⟨trivial, ?_⟩
  refine seg 2 [] [6] [(6, (.bool t5076))] [] (fun fb => by kernel_rfl) rfl trivial ?_
  refine WL.done rfl ?_
  refine WX.next ?_
  refine WC.ret ?_
  injection hf with hf
  subst hf
  exact WX.thenR (WX.ret_ [] (.bool t5076) [] (fun fb => by kernel_rfl) trivial ⟨_, rfl, rfl, hS5080.keep⟩)
 refine WC.condF2 (fun fb => by kernel_rfl) h1 ?_
 refine WC.skip ?_
 refine WX.next ?_
 refine WC.seq ?_
 refine WC.seq ?_
 refine WC.region ?_
 refine seg 1 [] [0, 1, 2, 17] [(0, (.slice A_p0 p0.length c_p0)), (1, (iv p1)), (2, (iv p2)), (17, (.slice A_p0 p0.length c_p0))] [] (fun fb => by kernel_rfl) rfl trivial ?_
 obtain ⟨t5684, ht5685, hf⟩ := bind_some hf
 refine WL.call (some 18) 15 #[(.slice A_p0 p0.length c_p0)] (fun fb => by kernel_rfl) (ref01_Valid_calls _ p0 A_p0 c_p0 t5684 _ (hS.rd 0) ht5685) (fun v w5686 hR5687 => ?_)
 obtain ⟨rfl, hk_⟩ := hR5687
 have hS5688 := hS.keepN hk_
 refine ⟨trivial, ?_⟩
 refine seg 4 [] [0, 1, 2, 20] [(0, (.slice A_p0 p0.length c_p0)), (1, (iv p1)), (2, (iv p2)), (20, (.bool (!t5684)))] [] (fun fb => by kernel_rfl) rfl trivial ?_
 refine WL.cutV (T := Bool) 7 (fun t => [(23, (.bool t)), (0, (.slice A_p0 p0.length c_p0)), (1, (iv p1)), (2, (iv p2))]) (fun t => ((!t5684) || (decide (p1 < 1))) = t) (fun K => ?_) ?_
 ·
  rcases Bool.eq_false_or_eq_true (!t5684) with h5689 | h5689
  ·
   refine WL.setB 20 h5689 rfl ?_
   refine seg 7 [] [0, 1, 2, 23] [(0, (.slice A_p0 p0.length c_p0)), (1, (iv p1)), (2, (iv p2)), (23, (.bool true))] [] (fun fb => by kernel_rfl) rfl trivial ?_
   exact WL.toV K true [23, 0, 1, 2] rfl (by first | (rw [h5689]; done) | (rw [h5689]; rfl))
  refine WL.setB 20 h5689 rfl ?_
  refine seg 7 [] [0, 1, 2, 23] [(0, (.slice A_p0 p0.length c_p0)), (1, (iv p1)), (2, (iv p2)), (23, (.bool (decide (p1 < 1))))] [] (fun fb => by kernel_rfl) rfl trivial ?_
  exact WL.toV K (decide (p1 < 1)) [23, 0, 1, 2] rfl (by first | (rw [h5689]; done) | (rw [h5689]; rfl))
 rintro b5690 rfl
 refine seg 8 [] [0, 1, 2, 24] [(0, (.slice A_p0 p0.length c_p0)), (1, (iv p1)), (2, (iv p2)), (24, (.bool ((!t5684) || (decide (p1 < 1)))))] [] (fun fb => by kernel_rfl) rfl trivial ?_
 refine WL.cutV (T := Bool) 11 (fun t => [(27, (.bool t)), (0, (.slice A_p0 p0.length c_p0)), (1, (iv p1)), (2, (iv p2))]) (fun t => (((!t5684) || (decide (p1 < 1))) || (decide (p1 > 6))) = t) (fun K => ?_) ?_
 ·
  rcases Bool.eq_false_or_eq_true ((!t5684) || (decide (p1 < 1))) with h5691 | h5691
  ·
   refine WL.setB 24 h5691 rfl ?_
   refine seg 11 [] [0, 1, 2, 27] [(0, (.slice A_p0 p0.length c_p0)), (1, (iv p1)), (2, (iv p2)), (27, (.bool true))] [] (fun fb => by kernel_rfl) rfl trivial ?_
   exact WL.toV K true [27, 0, 1, 2] rfl (by first | (rw [h5691]; done) | (rw [h5691]; rfl))
  refine WL.setB 24 h5691 rfl ?_
  refine seg 11 [] [0, 1, 2, 27] [(0, (.slice A_p0 p0.length c_p0)), (1, (iv p1)), (2, (iv p2)), (27, (.bool (decide (p1 > 6))))] [] (fun fb => by kernel_rfl) rfl trivial ?_
  exact WL.toV K (decide (p1 > 6)) [27, 0, 1, 2] rfl (by first | (rw [h5691]; done) | (rw [h5691]; rfl))
 rintro b5692 rfl
 refine seg 12 [] [0, 1, 2, 28] [(0, (.slice A_p0 p0.length c_p0)), (1, (iv p1)), (2, (iv p2)), (28, (.bool (((!t5684) || (decide (p1 < 1))) || (decide (p1 > 6)))))] [] (fun fb => by kernel_rfl) rfl trivial ?_
 refine WL.cutV (T := Bool) 15 (fun t => [(31, (.bool t)), (0, (.slice A_p0 p0.length c_p0)), (1, (iv p1)), (2, (iv p2))]) (fun t => ((((!t5684) || (decide (p1 < 1))) || (decide (p1 > 6))) || (decide (p2 < 1))) = t) (fun K => ?_) ?_
 ·
  rcases Bool.eq_false_or_eq_true (((!t5684) || (decide (p1 < 1))) || (decide (p1 > 6))) with h5693 | h5693
  ·
   refine WL.setB 28 h5693 rfl ?_
   refine seg 15 [] [0, 1, 2, 31] [(0, (.slice A_p0 p0.length c_p0)), (1, (iv p1)), (2, (iv p2)), (31, (.bool true))] [] (fun fb => by kernel_rfl) rfl trivial ?_
   exact WL.toV K true [31, 0, 1, 2] rfl (by first | (rw [h5693]; done) | (rw [h5693]; rfl))
  refine WL.setB 28 h5693 rfl ?_
  refine seg 15 [] [0, 1, 2, 31] [(0, (.slice A_p0 p0.length c_p0)), (1, (iv p1)), (2, (iv p2)), (31, (.bool (decide (p2 < 1))))] [] (fun fb => by kernel_rfl) rfl trivial ?_
  exact WL.toV K (decide (p2 < 1)) [31, 0, 1, 2] rfl (by first | (rw [h5693]; done) | (rw [h5693]; rfl))
 rintro b5694 rfl
 refine seg 16 [] [0, 1, 2, 32] [(0, (.slice A_p0 p0.length c_p0)), (1, (iv p1)), (2, (iv p2)), (32, (.bool ((((!t5684) || (decide (p1 < 1))) || (decide (p1 > 6))) || (decide (p2 < 1)))))] [] (fun fb => by kernel_rfl) rfl trivial ?_
 refine WL.cutV (T := Bool) 19 (fun t => [(35, (.bool t)), (0, (.slice A_p0 p0.length c_p0)), (1, (iv p1)), (2, (iv p2))]) (fun t => (((((!t5684) || (decide (p1 < 1))) || (decide (p1 > 6))) || (decide (p2 < 1))) || (decide (p2 > 6))) = t) (fun K => ?_) ?_
 ·
  rcases Bool.eq_false_or_eq_true ((((!t5684) || (decide (p1 < 1))) || (decide (p1 > 6))) || (decide (p2 < 1))) with h5695 | h5695
  ·
   refine WL.setB 32 h5695 rfl ?_
   refine seg 19 [] [0, 1, 2, 35] [(0, (.slice A_p0 p0.length c_p0)), (1, (iv p1)), (2, (iv p2)), (35, (.bool true))] [] (fun fb => by kernel_rfl) rfl trivial ?_
   exact WL.toV K true [35, 0, 1, 2] rfl (by first | (rw [h5695]; done) | (rw [h5695]; rfl))
  refine WL.setB 32 h5695 rfl ?_
  refine seg 19 [] [0, 1, 2, 35] [(0, (.slice A_p0 p0.length c_p0)), (1, (iv p1)), (2, (iv p2)), (35, (.bool (decide (p2 > 6))))] [] (fun fb => by kernel_rfl) rfl trivial ?_
  exact WL.toV K (decide (p2 > 6)) [35, 0, 1, 2] rfl (by first | (rw [h5695]; done) | (rw [h5695]; rfl))
 rintro b5696 rfl
 refine WL.done rfl ?_
 refine WX.next ?_
 rcases br_some hf with ⟨h5697, hf⟩ | ⟨h5697, hf⟩
 ·refine WC.condT2 (fun fb => by kernel_rfl) h5697 ?_
  refine WC.seq ?_
  refine WC.region ?_
  refine seg 3 [] [0, 37, 38, 39] [(0, (.slice A_p0 p0.length c_p0)), (37, (.slice A_p0 p0.length c_p0)), (38, (iv p1)), (39, (iv p2))] [] (fun fb => by kernel_rfl) rfl trivial ?_
  obtain ⟨t5698, ht5699, hf⟩ := bind_some hf
  refine WL.call (some 40) 16 #[(.slice A_p0 p0.length c_p0), (iv p1), (iv p2)] (fun fb => by kernel_rfl) (torus_Find_calls _ p0 p1 p2 A_p0 c_p0 t5698 _ (hS5688.rd 0) ht5699) (fun v w5700 hR5701 => ?_)
  obtain ⟨A5703, c5704, rfl, hk_⟩ := hR5701
  have hS5702 : St NoS w w5700 [rowR enc_Tile A_p0 c_p0 p0, cel ⟨2, 0, none⟩ (iv mG)] [rowO 3 encInt A5703 c5704 t5698.1.Cells] := hS5688.call hk_ [] [] (fun g hg => hg.elim) (by simp) (by decide)
  refine ⟨trivial, ?_⟩
  refine seg 7 [] [0, 41, 42] [(0, (.slice A_p0 p0.length c_p0)), (41, (.agg #[(iv t5698.1.Width), (iv t5698.1.Height), (.slice A5703 t5698.1.Cells.length c5704)])), (42, (iv t5698.2))] [] (fun fb => by kernel_rfl) rfl trivial ?_
  refine WL.new hS5702 7 [] (fun g => (.pointer (some ⟨g, 0, none⟩))) (.cells #[(iv 0), (iv 0), (.slice none 0 0)] 27 (0, 0)) [] (fun fb g => by kernel_rfl) trivial (fun g5705 w5706 hS5707 => ?_)
  refine ⟨trivial, ?_⟩
  refine WL.store hS5707 0 rfl [(0, (iv t5698.1.Width)), (1, (iv t5698.1.Height)), (2, (.slice A5703 t5698.1.Cells.length c5704))] #[(iv t5698.1.Width), (iv t5698.1.Height), (.slice A5703 t5698.1.Cells.length c5704)] (fun fb => by kernel_rfl) (by kernel_rfl) rfl [1] (by decide) (by decide) (fun w5709 hS5710 => ?_)
  refine ⟨trivial, ?_⟩
  refine seg 10 [] [0, 7, 8] [(0, (.slice A_p0 p0.length c_p0)), (7, (pt g5705)), (8, (iv t5698.2))] [] (fun fb => by kernel_rfl) rfl trivial ?_
  refine WL.done rfl ?_
  refine WX.next ?_
  refine WC.seq ?_
  refine WC.seq ?_
  refine WC.region ?_
  refine seg 1 [] [7, 8, 43] [(7, (pt g5705)), (8, (iv t5698.2)), (43, (.slice A_p0 p0.length c_p0))] [] (fun fb => by kernel_rfl) rfl trivial ?_
  obtain ⟨t5711, ht5712, hf⟩ := bind_some hf
  refine WL.call (some 44) 15 #[(.slice A_p0 p0.length c_p0)] (fun fb => by kernel_rfl) (ref01_Valid_calls _ p0 A_p0 c_p0 t5711 _ (hS5710.rd 0) ht5712) (fun v w5713 hR5714 => ?_)
  obtain ⟨rfl, hk_⟩ := hR5714
  have hS5715 := hS5710.keepN hk_
  refine ⟨trivial, ?_⟩
  refine seg 3 [] [7, 8, 45] [(7, (pt g5705)), (8, (iv t5698.2)), (45, (.bool (!t5711)))] [] (fun fb => by kernel_rfl) rfl trivial ?_
  refine WL.done rfl ?_
  refine WX.next ?_
  rcases br_some hf with ⟨h5716, hf⟩ | ⟨h5716, hf⟩
  ·refine WC.condT2 (fun fb => by kernel_rfl) h5716 ?_
   refine WC.seq ?_
   refine WC.region ?_
   refine seg 2 [.v (iv t5698.1.Width), .v (iv t5698.1.Height), .v (.slice A5703 t5698.1.Cells.length c5704)] [46, 47] [(46, (.agg #[(iv t5698.1.Width), (iv t5698.1.Height), (.slice A5703 t5698.1.Cells.length c5704)])), (47, (iv t5698.2))] [.cell ⟨g5705, 0, none⟩ (iv t5698.1.Width), .cell ⟨g5705, 1, none⟩ (iv t5698.1.Height), .cell ⟨g5705, 2, none⟩ (.slice A5703 t5698.1.Cells.length c5704)] (fun fb => by kernel_rfl) rfl ⟨hS5715.cell 0 rfl 0 rfl, hS5715.cell 0 rfl 1 rfl, hS5715.cell 0 rfl 2 rfl, trivial⟩ ?_
   obtain ⟨t5740, ht5741, hf⟩ := bind_some hf
   refine WL.call (some 48) 17 #[(.agg #[(iv t5698.1.Width), (iv t5698.1.Height), (.slice A5703 t5698.1.Cells.length c5704)]), (iv t5698.2), (iv 1)] (fun fb => by kernel_rfl) (law03_no_calls _ t5698.1 t5698.2 1 A5703 c5704 t5740 _ (hS5715.ow 1).ofO ht5741) (fun v w5742 hR5743 => ?_)
   obtain ⟨rfl, hk_⟩ := hR5743
   have hS5744 := hS5715.keepN hk_
   refine ⟨trivial, ?_⟩
   refine seg 4 [] [49] [(49, (.bool t5740))] [] (fun fb => by kernel_rfl) rfl trivial ?_
   obtain ⟨x5751, hx5752, hf⟩ := bind_some hf
   refine WL.cutW (T := Bool) 6 (fun t => [(51, (.bool t))]) (fun t w1 => (St NoS w w1 [rowR enc_Tile A_p0 c_p0 p0, cel ⟨2, 0, none⟩ (iv mG)] [] ∧ x5751 = t) ∧ CellsOK [] w1) (fun K => ?_) ?_
   ·
    rcases br_some hx5752 with ⟨h5753, hx5752⟩ | ⟨h5753, hx5752⟩
    ·
     refine WL.setB 49 h5753 rfl ?_
     obtain ⟨t5754, ht5755, hx5752⟩ := bind_some hx5752
     refine WL.call (some 50) 14 #[] (fun fb => by kernel_rfl) (law03_awake_calls _ mG t5754 _ (hS5744.rd 1) ht5755) (fun v w5756 hR5757 => ?_)
     obtain ⟨rfl, hk_⟩ := hR5757
     have hS5758 := hS5744.keepN hk_
     refine ⟨trivial, ?_⟩
     refine seg 6 [] [51] [(51, (.bool t5754))] [] (fun fb => by kernel_rfl) rfl trivial ?_
     injection hx5752 with hx5752
     exact WL.to K t5754 [51] rfl ⟨⟨(hS5758.subR [0, 1]).sub [] (by decide), hx5752.symm⟩, trivial⟩
    refine WL.setB 49 h5753 rfl ?_
    refine seg 6 [] [51] [(51, (.bool false))] [] (fun fb => by kernel_rfl) rfl trivial ?_
    injection hx5752 with hx5752
    exact WL.to K false [51] rfl ⟨⟨(hS5744.subR [0, 1]).sub [] (by decide), hx5752.symm⟩, trivial⟩
   rintro y5759 w5761 ⟨⟨hS5762, hq5760⟩, hF5763⟩
   subst hq5760
   refine seg 7 [] [6] [(6, (.bool x5751))] [] (fun fb => by kernel_rfl) rfl trivial ?_
   refine WL.done rfl ?_
   refine WX.next ?_
   refine WC.ret ?_
   injection hf with hf
   subst hf
   exact WX.thenR (WX.thenR (WX.ret_ [] (.bool x5751) [] (fun fb => by kernel_rfl) trivial ⟨_, rfl, rfl, hS5762.keep⟩))
  refine WC.condF2 (fun fb => by kernel_rfl) h5716 ?_
  refine WC.skip ?_
  refine WX.next ?_
  refine WC.seq ?_
  refine WC.region ?_
  refine seg 2 [.v (iv t5698.1.Width), .v (iv t5698.1.Height), .v (.slice A5703 t5698.1.Cells.length c5704)] [52, 53] [(52, (.agg #[(iv t5698.1.Width), (iv t5698.1.Height), (.slice A5703 t5698.1.Cells.length c5704)])), (53, (iv t5698.2))] [.cell ⟨g5705, 0, none⟩ (iv t5698.1.Width), .cell ⟨g5705, 1, none⟩ (iv t5698.1.Height), .cell ⟨g5705, 2, none⟩ (.slice A5703 t5698.1.Cells.length c5704)] (fun fb => by kernel_rfl) rfl ⟨hS5715.cell 0 rfl 0 rfl, hS5715.cell 0 rfl 1 rfl, hS5715.cell 0 rfl 2 rfl, trivial⟩ ?_
  obtain ⟨t5764, ht5765, hf⟩ := bind_some hf
  refine WL.call (some 54) 17 #[(.agg #[(iv t5698.1.Width), (iv t5698.1.Height), (.slice A5703 t5698.1.Cells.length c5704)]), (iv t5698.2), (iv 2)] (fun fb => by kernel_rfl) (law03_no_calls _ t5698.1 t5698.2 2 A5703 c5704 t5764 _ (hS5715.ow 1).ofO ht5765) (fun v w5766 hR5767 => ?_)
  obtain ⟨rfl, hk_⟩ := hR5767
  have hS5768 := hS5715.keepN hk_
  refine ⟨trivial, ?_⟩
  refine seg 4 [] [55] [(55, (.bool t5764))] [] (fun fb => by kernel_rfl) rfl trivial ?_
  obtain ⟨x5775, hx5776, hf⟩ := bind_some hf
  refine WL.cutW (T := Bool) 6 (fun t => [(57, (.bool t))]) (fun t w1 => (St NoS w w1 [rowR enc_Tile A_p0 c_p0 p0, cel ⟨2, 0, none⟩ (iv mG)] [] ∧ x5775 = t) ∧ CellsOK [] w1) (fun K => ?_) ?_
  ·
   rcases br_some hx5776 with ⟨h5777, hx5776⟩ | ⟨h5777, hx5776⟩
   ·
    refine WL.setB 55 h5777 rfl ?_
    obtain ⟨t5778, ht5779, hx5776⟩ := bind_some hx5776
    refine WL.call (some 56) 14 #[] (fun fb => by kernel_rfl) (law03_awake_calls _ mG t5778 _ (hS5768.rd 1) ht5779) (fun v w5780 hR5781 => ?_)
    obtain ⟨rfl, hk_⟩ := hR5781
    have hS5782 := hS5768.keepN hk_
    refine ⟨trivial, ?_⟩
    refine seg 6 [] [57] [(57, (.bool t5778))] [] (fun fb => by kernel_rfl) rfl trivial ?_
    injection hx5776 with hx5776
    exact WL.to K t5778 [57] rfl ⟨⟨(hS5782.subR [0, 1]).sub [] (by decide), hx5776.symm⟩, trivial⟩
   refine WL.setB 55 h5777 rfl ?_
   refine seg 6 [] [57] [(57, (.bool false))] [] (fun fb => by kernel_rfl) rfl trivial ?_
   injection hx5776 with hx5776
   exact WL.to K false [57] rfl ⟨⟨(hS5768.subR [0, 1]).sub [] (by decide), hx5776.symm⟩, trivial⟩
  rintro y5783 w5785 ⟨⟨hS5786, hq5784⟩, hF5787⟩
  subst hq5784
  refine seg 7 [] [6] [(6, (.bool x5775))] [] (fun fb => by kernel_rfl) rfl trivial ?_
  refine WL.done rfl ?_
  refine WX.next ?_
  refine WC.ret ?_
  injection hf with hf
  subst hf
  exact WX.thenR (WX.ret_ [] (.bool x5775) [] (fun fb => by kernel_rfl) trivial ⟨_, rfl, rfl, hS5786.keep⟩)
 refine WC.condF2 (fun fb => by kernel_rfl) h5697 ?_
 refine WC.skip ?_
 refine WX.next ?_
 refine WC.seq ?_
 refine WC.seq ?_
 refine WC.region ?_
 refine seg 2 [] [0, 1, 2, 58, 59] [(0, (.slice A_p0 p0.length c_p0)), (1, (iv p1)), (2, (iv p2)), (58, (.slice A_p0 p0.length c_p0)), (59, (iv p1))] [] (fun fb => by kernel_rfl) rfl trivial ?_
 obtain ⟨t6054, ht6055, hf⟩ := bind_some hf
 refine WL.call (some 60) 18 #[(.slice A_p0 p0.length c_p0), (iv p1)] (fun fb => by kernel_rfl) (ref03_Heavy_calls _ p0 p1 A_p0 c_p0 t6054 _ (hS5688.rd 0) ht6055) (fun v w6056 hR6057 => ?_)
 obtain ⟨rfl, hk_⟩ := hR6057
 have hS6058 := hS5688.keepN hk_
 refine ⟨trivial, ?_⟩
 refine WL.done rfl ?_
 refine WX.next ?_
 rcases br_some hf with ⟨h6059, hf⟩ | ⟨h6059, hf⟩
 ·refine WC.condT2 (fun fb => by kernel_rfl) h6059 ?_
  refine WC.seq ?_
  refine WC.region ?_
  obtain ⟨t6060, ht6061, hf⟩ := bind_some hf
  refine WL.call (some 61) 14 #[] (fun fb => by kernel_rfl) (law03_awake_calls _ mG t6060 _ (hS6058.rd 1) ht6061) (fun v w6062 hR6063 => ?_)
  obtain ⟨rfl, hk_⟩ := hR6063
  have hS6064 := hS6058.keepN hk_
  refine ⟨trivial, ?_⟩
  refine seg 2 [] [6] [(6, (.bool t6060))] [] (fun fb => by kernel_rfl) rfl trivial ?_
  refine WL.done rfl ?_
  refine WX.next ?_
  refine WC.ret ?_
  injection hf with hf
  subst hf
  exact WX.thenR (WX.ret_ [] (.bool t6060) [] (fun fb => by kernel_rfl) trivial ⟨_, rfl, rfl, hS6064.keep⟩)
 refine WC.condF2 (fun fb => by kernel_rfl) h6059 ?_
 refine WC.skip ?_
 refine WX.next ?_
 refine WC.seq ?_
 refine WC.region ?_
 refine seg 3 [] [0, 1, 2, 63, 64, 65] [(0, (.slice A_p0 p0.length c_p0)), (1, (iv p1)), (2, (iv p2)), (63, (.slice A_p0 p0.length c_p0)), (64, (iv p1)), (65, (iv p2))] [] (fun fb => by kernel_rfl) rfl trivial ?_
 obtain ⟨t6065, ht6066, hf⟩ := bind_some hf
 refine WL.call (some 66) 16 #[(.slice A_p0 p0.length c_p0), (iv p1), (iv p2)] (fun fb => by kernel_rfl) (torus_Find_calls _ p0 p1 p2 A_p0 c_p0 t6065 _ (hS6058.rd 0) ht6066) (fun v w6067 hR6068 => ?_)
 obtain ⟨A6070, c6071, rfl, hk_⟩ := hR6068
 have hS6069 : St NoS w w6067 [rowR enc_Tile A_p0 c_p0 p0, cel ⟨2, 0, none⟩ (iv mG)] [rowO 3 encInt A6070 c6071 t6065.1.Cells] := hS6058.call hk_ [] [] (fun g hg => hg.elim) (by simp) (by decide)
 refine ⟨trivial, ?_⟩
 refine seg 7 [] [0, 1, 2, 67, 68] [(0, (.slice A_p0 p0.length c_p0)), (1, (iv p1)), (2, (iv p2)), (67, (.agg #[(iv t6065.1.Width), (iv t6065.1.Height), (.slice A6070 t6065.1.Cells.length c6071)])), (68, (iv t6065.2))] [] (fun fb => by kernel_rfl) rfl trivial ?_
 refine WL.new hS6069 9 [] (fun g => (.pointer (some ⟨g, 0, none⟩))) (.cells #[(iv 0), (iv 0), (.slice none 0 0)] 27 (0, 0)) [] (fun fb g => by kernel_rfl) trivial (fun g6072 w6073 hS6074 => ?_)
 refine ⟨trivial, ?_⟩
 refine WL.store hS6074 0 rfl [(0, (iv t6065.1.Width)), (1, (iv t6065.1.Height)), (2, (.slice A6070 t6065.1.Cells.length c6071))] #[(iv t6065.1.Width), (iv t6065.1.Height), (.slice A6070 t6065.1.Cells.length c6071)] (fun fb => by kernel_rfl) (by kernel_rfl) rfl [1] (by decide) (by decide) (fun w6076 hS6077 => ?_)
 refine ⟨trivial, ?_⟩
 refine seg 10 [] [0, 1, 2, 9, 10] [(0, (.slice A_p0 p0.length c_p0)), (1, (iv p1)), (2, (iv p2)), (9, (pt g6072)), (10, (iv t6065.2))] [] (fun fb => by kernel_rfl) rfl trivial ?_
 refine WL.done rfl ?_
 refine WX.next ?_
 refine WC.seq ?_
 refine WC.seq ?_
 refine WC.region ?_
 refine seg 3 [] [0, 1, 2, 9, 10, 71] [(0, (.slice A_p0 p0.length c_p0)), (1, (iv p1)), (2, (iv p2)), (9, (pt g6072)), (10, (iv t6065.2)), (71, (.bool (t6065.2 == 4)))] [] (fun fb => by kernel_rfl) rfl trivial ?_
 obtain ⟨x6089, hx6090, hf⟩ := bind_some hf
 refine WL.cutW (T := Bool) 7 (fun t => [(0, (.slice A_p0 p0.length c_p0)), (1, (iv p1)), (2, (iv p2)), (9, (pt g6072)), (10, (iv t6065.2)), (75, (.bool t))]) (fun t w1 => (St NoS w w1 [rowR enc_Tile A_p0 c_p0 p0, cel ⟨2, 0, none⟩ (iv mG)] [blk g6072 (.cells #[(iv t6065.1.Width), (iv t6065.1.Height), (.slice A6070 t6065.1.Cells.length c6071)] 27 (0, 0)), rowO 3 encInt A6070 c6071 t6065.1.Cells] ∧ x6089 = t) ∧ CellsOK [] w1) (fun K => ?_) ?_
 ·
  rcases br_some hx6090 with ⟨h6091, hx6090⟩ | ⟨h6091, hx6090⟩
  ·
   refine WL.setB 71 h6091 rfl ?_
   refine seg 5 [] [0, 1, 2, 9, 10, 71, 72, 73] [(0, (.slice A_p0 p0.length c_p0)), (1, (iv p1)), (2, (iv p2)), (9, (pt g6072)), (10, (iv t6065.2)), (71, (.bool true)), (72, (.slice A_p0 p0.length c_p0)), (73, (iv p1))] [] (fun fb => by kernel_rfl) rfl trivial ?_
   obtain ⟨t6092, ht6093, hx6090⟩ := bind_some hx6090
   refine WL.call (some 74) 19 #[(.slice A_p0 p0.length c_p0), (iv p1)] (fun fb => by kernel_rfl) (ref02_Great_calls _ p0 p1 A_p0 c_p0 t6092 _ (hS6077.rd 0) ht6093) (fun v w6094 hR6095 => ?_)
   obtain ⟨rfl, hk_⟩ := hR6095
   have hS6096 := hS6077.keepN hk_
   refine ⟨trivial, ?_⟩
   refine seg 7 [] [0, 1, 2, 9, 10, 75] [(0, (.slice A_p0 p0.length c_p0)), (1, (iv p1)), (2, (iv p2)), (9, (pt g6072)), (10, (iv t6065.2)), (75, (.bool t6092))] [] (fun fb => by kernel_rfl) rfl trivial ?_
   injection hx6090 with hx6090
   exact WL.to K t6092 [0, 1, 2, 9, 10, 75] rfl ⟨⟨(hS6096.subR [0, 1]).sub [0, 1] (by decide), hx6090.symm⟩, trivial⟩
  refine WL.setB 71 h6091 rfl ?_
  refine seg 7 [] [0, 1, 2, 9, 10, 75] [(0, (.slice A_p0 p0.length c_p0)), (1, (iv p1)), (2, (iv p2)), (9, (pt g6072)), (10, (iv t6065.2)), (75, (.bool false))] [] (fun fb => by kernel_rfl) rfl trivial ?_
  injection hx6090 with hx6090
  exact WL.to K false [0, 1, 2, 9, 10, 75] rfl ⟨⟨(hS6077.subR [0, 1]).sub [0, 1] (by decide), hx6090.symm⟩, trivial⟩
 rintro y6097 w6099 ⟨⟨hS6100, hq6098⟩, hF6101⟩
 subst hq6098
 refine WL.done rfl ?_
 refine WX.next ?_
 rcases br_some hf with ⟨h6102, hf⟩ | ⟨h6102, hf⟩
 ·refine WC.condT2 (fun fb => by kernel_rfl) h6102 ?_
  refine WC.seq ?_
  refine WC.region ?_
  refine seg 2 [.v (iv t6065.1.Width), .v (iv t6065.1.Height), .v (.slice A6070 t6065.1.Cells.length c6071)] [76, 77] [(76, (.agg #[(iv t6065.1.Width), (iv t6065.1.Height), (.slice A6070 t6065.1.Cells.length c6071)])), (77, (iv t6065.2))] [.cell ⟨g6072, 0, none⟩ (iv t6065.1.Width), .cell ⟨g6072, 1, none⟩ (iv t6065.1.Height), .cell ⟨g6072, 2, none⟩ (.slice A6070 t6065.1.Cells.length c6071)] (fun fb => by kernel_rfl) rfl ⟨hS6100.cell 0 rfl 0 rfl, hS6100.cell 0 rfl 1 rfl, hS6100.cell 0 rfl 2 rfl, trivial⟩ ?_
  obtain ⟨t6103, ht6104, hf⟩ := bind_some hf
  refine WL.call (some 78) 17 #[(.agg #[(iv t6065.1.Width), (iv t6065.1.Height), (.slice A6070 t6065.1.Cells.length c6071)]), (iv t6065.2), (iv 4)] (fun fb => by kernel_rfl) (law03_no_calls _ t6065.1 t6065.2 4 A6070 c6071 t6103 _ (hS6100.ow 1).ofO ht6104) (fun v w6105 hR6106 => ?_)
  obtain ⟨rfl, hk_⟩ := hR6106
  have hS6107 := hS6100.keepN hk_
  refine ⟨trivial, ?_⟩
  refine seg 4 [] [79] [(79, (.bool t6103))] [] (fun fb => by kernel_rfl) rfl trivial ?_
  obtain ⟨x6114, hx6115, hf⟩ := bind_some hf
  refine WL.cutW (T := Bool) 6 (fun t => [(81, (.bool t))]) (fun t w1 => (St NoS w w1 [rowR enc_Tile A_p0 c_p0 p0, cel ⟨2, 0, none⟩ (iv mG)] [] ∧ x6114 = t) ∧ CellsOK [] w1) (fun K => ?_) ?_
  ·
   rcases br_some hx6115 with ⟨h6116, hx6115⟩ | ⟨h6116, hx6115⟩
   ·
    refine WL.setB 79 h6116 rfl ?_
    obtain ⟨t6117, ht6118, hx6115⟩ := bind_some hx6115
    refine WL.call (some 80) 14 #[] (fun fb => by kernel_rfl) (law03_awake_calls _ mG t6117 _ (hS6107.rd 1) ht6118) (fun v w6119 hR6120 => ?_)
    obtain ⟨rfl, hk_⟩ := hR6120
    have hS6121 := hS6107.keepN hk_
    refine ⟨trivial, ?_⟩
    refine seg 6 [] [81] [(81, (.bool t6117))] [] (fun fb => by kernel_rfl) rfl trivial ?_
    injection hx6115 with hx6115
    exact WL.to K t6117 [81] rfl ⟨⟨(hS6121.subR [0, 1]).sub [] (by decide), hx6115.symm⟩, trivial⟩
   refine WL.setB 79 h6116 rfl ?_
   refine seg 6 [] [81] [(81, (.bool false))] [] (fun fb => by kernel_rfl) rfl trivial ?_
   injection hx6115 with hx6115
   exact WL.to K false [81] rfl ⟨⟨(hS6107.subR [0, 1]).sub [] (by decide), hx6115.symm⟩, trivial⟩
  rintro y6122 w6124 ⟨⟨hS6125, hq6123⟩, hF6126⟩
  subst hq6123
  refine seg 7 [] [6] [(6, (.bool x6114))] [] (fun fb => by kernel_rfl) rfl trivial ?_
  refine WL.done rfl ?_
  refine WX.next ?_
  refine WC.ret ?_
  injection hf with hf
  subst hf
  exact WX.thenR (WX.ret_ [] (.bool x6114) [] (fun fb => by kernel_rfl) trivial ⟨_, rfl, rfl, hS6125.keep⟩)
 refine WC.condF2 (fun fb => by kernel_rfl) h6102 ?_
 refine WC.skip ?_
 refine WX.next ?_
 refine WC.seq ?_
 refine WC.region ?_
 refine seg 3 [] [9, 10, 83, 84, 85] [(9, (pt g6072)), (10, (iv t6065.2)), (83, (.slice A_p0 p0.length c_p0)), (84, (iv p1)), (85, (iv p2))] [] (fun fb => by kernel_rfl) rfl trivial ?_
 obtain ⟨t19126, ht19127, hf⟩ := bind_some hf
 refine WL.call (some 86) 20 #[(.slice A_p0 p0.length c_p0), (iv p1), (iv p2)] (fun fb => by kernel_rfl) (ref03_Find_calls _ p0 p1 p2 A_p0 c_p0 t19126 _ (hS6100.rd 0) ht19127) (fun v w19128 hR19129 => ?_)
 obtain ⟨A19131, c19132, rfl, hk_⟩ := hR19129
 have hS19130 : St NoS w w19128 [rowR enc_Tile A_p0 c_p0 p0, cel ⟨2, 0, none⟩ (iv mG)] [rowO 3 encInt A19131 c19132 t19126.1.Cells, blk g6072 (.cells #[(iv t6065.1.Width), (iv t6065.1.Height), (.slice A6070 t6065.1.Cells.length c6071)] 27 (0, 0)), rowO 3 encInt A6070 c6071 t6065.1.Cells] := hS6100.call hk_ [] [0, 1] (fun g hg => hg.elim) (by simp) (by decide)
 refine ⟨trivial, ?_⟩
 refine seg 7 [] [9, 10, 87, 88] [(9, (pt g6072)), (10, (iv t6065.2)), (87, (.agg #[(iv t19126.1.Width), (iv t19126.1.Height), (.slice A19131 t19126.1.Cells.length c19132)])), (88, (.bool t19126.2))] [] (fun fb => by kernel_rfl) rfl trivial ?_
 refine WL.new hS19130 11 [] (fun g => (.pointer (some ⟨g, 0, none⟩))) (.cells #[(iv 0), (iv 0), (.slice none 0 0)] 27 (0, 0)) [] (fun fb g => by kernel_rfl) trivial (fun g19133 w19134 hS19135 => ?_)
 refine ⟨trivial, ?_⟩
 refine WL.store hS19135 0 rfl [(0, (iv t19126.1.Width)), (1, (iv t19126.1.Height)), (2, (.slice A19131 t19126.1.Cells.length c19132))] #[(iv t19126.1.Width), (iv t19126.1.Height), (.slice A19131 t19126.1.Cells.length c19132)] (fun fb => by kernel_rfl) (by kernel_rfl) rfl [1, 2, 3] (by decide) (by decide) (fun w19137 hS19138 => ?_)
 refine ⟨trivial, ?_⟩
 refine seg 10 [] [9, 10, 11, 12] [(9, (pt g6072)), (10, (iv t6065.2)), (11, (pt g19133)), (12, (.bool t19126.2))] [] (fun fb => by kernel_rfl) rfl trivial ?_
 refine WL.done rfl ?_
 refine WX.next ?_
 refine WC.seq ?_
 refine WC.region ?_
 refine seg 4 [.v (iv t6065.1.Width), .v (iv t6065.1.Height), .v (.slice A6070 t6065.1.Cells.length c6071), .v (iv t19126.1.Width), .v (iv t19126.1.Height), .v (.slice A19131 t19126.1.Cells.length c19132)] [89, 90, 91, 92] [(89, (.agg #[(iv t6065.1.Width), (iv t6065.1.Height), (.slice A6070 t6065.1.Cells.length c6071)])), (90, (iv t6065.2)), (91, (.agg #[(iv t19126.1.Width), (iv t19126.1.Height), (.slice A19131 t19126.1.Cells.length c19132)])), (92, (.bool t19126.2))] [.cell ⟨g6072, 0, none⟩ (iv t6065.1.Width), .cell ⟨g6072, 1, none⟩ (iv t6065.1.Height), .cell ⟨g6072, 2, none⟩ (.slice A6070 t6065.1.Cells.length c6071), .cell ⟨g19133, 0, none⟩ (iv t19126.1.Width), .cell ⟨g19133, 1, none⟩ (iv t19126.1.Height), .cell ⟨g19133, 2, none⟩ (.slice A19131 t19126.1.Cells.length c19132)] (fun fb => by kernel_rfl) rfl ⟨hS19138.cell 2 rfl 0 rfl, hS19138.cell 2 rfl 1 rfl, hS19138.cell 2 rfl 2 rfl, hS19138.cell 0 rfl 0 rfl, hS19138.cell 0 rfl 1 rfl, hS19138.cell 0 rfl 2 rfl, trivial⟩ ?_
 obtain ⟨t19186, ht19187, hf⟩ := bind_some hf
 refine WL.call (some 93) 21 #[(.agg #[(iv t6065.1.Width), (iv t6065.1.Height), (.slice A6070 t6065.1.Cells.length c6071)]), (iv t6065.2), (.agg #[(iv t19126.1.Width), (iv t19126.1.Height), (.slice A19131 t19126.1.Cells.length c19132)]), (.bool t19126.2)] (fun fb => by kernel_rfl) (law03_is_calls _ t6065.1 t6065.2 t19126.1 t19126.2 A6070 c6071 A19131 c19132 t19186 _ (hS19138.ow 3).ofO (hS19138.ow 1).ofO ht19187) (fun v w19188 hR19189 => ?_)
 obtain ⟨rfl, hk_⟩ := hR19189
 have hS19190 := hS19138.keepN hk_
 refine ⟨trivial, ?_⟩
 refine seg 6 [] [94] [(94, (.bool t19186))] [] (fun fb => by kernel_rfl) rfl trivial ?_
 obtain ⟨x19197, hx19198, hf⟩ := bind_some hf
 refine WL.cutW (T := Bool) 8 (fun t => [(96, (.bool t))]) (fun t w1 => (St NoS w w1 [rowR enc_Tile A_p0 c_p0 p0, cel ⟨2, 0, none⟩ (iv mG)] [] ∧ x19197 = t) ∧ CellsOK [] w1) (fun K => ?_) ?_
 ·
  rcases br_some hx19198 with ⟨h19199, hx19198⟩ | ⟨h19199, hx19198⟩
  ·
   refine WL.setB 94 h19199 rfl ?_
   obtain ⟨t19200, ht19201, hx19198⟩ := bind_some hx19198
   refine WL.call (some 95) 14 #[] (fun fb => by kernel_rfl) (law03_awake_calls _ mG t19200 _ (hS19190.rd 1) ht19201) (fun v w19202 hR19203 => ?_)
   obtain ⟨rfl, hk_⟩ := hR19203
   have hS19204 := hS19190.keepN hk_
   refine ⟨trivial, ?_⟩
   refine seg 8 [] [96] [(96, (.bool t19200))] [] (fun fb => by kernel_rfl) rfl trivial ?_
   injection hx19198 with hx19198
   exact WL.to K t19200 [96] rfl ⟨⟨(hS19204.subR [0, 1]).sub [] (by decide), hx19198.symm⟩, trivial⟩
  refine WL.setB 94 h19199 rfl ?_
  refine seg 8 [] [96] [(96, (.bool false))] [] (fun fb => by kernel_rfl) rfl trivial ?_
  injection hx19198 with hx19198
  exact WL.to K false [96] rfl ⟨⟨(hS19190.subR [0, 1]).sub [] (by decide), hx19198.symm⟩, trivial⟩
 rintro y19205 w19207 ⟨⟨hS19208, hq19206⟩, hF19209⟩
 subst hq19206
 refine seg 9 [] [6] [(6, (.bool x19197))] [] (fun fb => by kernel_rfl) rfl trivial ?_
 refine WL.done rfl ?_
 refine WX.next ?_
 refine WC.ret ?_
 injection hf with hf
 subst hf
 exact WX.ret_ [] (.bool x19197) [] (fun fb => by kernel_rfl) trivial ⟨_, rfl, rfl, hS19208.keep⟩
end Gp
