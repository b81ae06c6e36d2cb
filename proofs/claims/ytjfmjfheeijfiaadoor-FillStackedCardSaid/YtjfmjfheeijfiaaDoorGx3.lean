/- Walks: each function of the program computes its plain function. -/
import Derived.Test.YtjfmjfheeijfiaaDoorGx2
set_option linter.unusedVariables false
set_option linter.unusedSimpArgs false
set_option maxHeartbeats 4000000
namespace Gp
open Go Gw Go.Proofs
theorem law02_lists_calls (k : Nat) (p0 : List Int) (p1 : Int) (Aa : Option Addr) (ca : Nat) (r : (List (List Int))) (w : World) (hR0 : RO NoS w (rowR encInt Aa ca p0)) (hf : law02_lists k p0 p1 = some r) :
  CallsR Tryd.prog 39 #[(sv Aa p0 ca), (iv p1)] w (fun v w' => ∃ (A1_ : Option Addr), ∃ (c1_ : Nat), ∃ (z1_ : HF), v = (sv A1_ r c1_) ∧ St NoS w w' [] [rowO 25 (encSl Int) A1_ c1_ (tag z1_ r), rowsO 3 encInt z1_ r]) := by
 have hS : St NoS w w [rowR encInt Aa ca p0] [] := St.init (ro_cons hR0 (ro_nil _ _))
 refine enter 46 Tryd.func39 rfl Tryd.ntmps39 rfl ?_
 unfold law02_lists at hf
 refine WC.seq (WC.region ?_)
 refine seg 1 [] [0, 1] [(0, (sv Aa p0 ca)), (1, (iv p1))] [] (fun fb => by kernel_rfl) rfl trivial ?_
 refine WL.done rfl (WX.next (WC.seq (WC.region ?_)))
 refine WL.new hS 10 [] (fun g => (.slice (some ⟨g, 0, none⟩) 0 0)) (.cells #[] 3 (0, 0)) [] (fun fb g => by kernel_rfl) trivial (fun g3 w4 hS5 => ?_)
 refine ⟨trivial, ?_⟩
 have hS6 := hS.go w4 [rowO 3 encInt (some ⟨g3, 0, none⟩) 0 ([] : List Int)] (hS5.map1 0 _ (fun h => rowO.ofBlk h rfl (Nat.le_of_ble_eq_true (by kernel_rfl))) (fun _ h => by obtain ⟨_, h1, h2⟩ := h; injection h1 with h1; subst h1; exact h2) [] (by decide) (by decide))
 refine WL.new hS6 11 [] (fun g => (.slice (some ⟨g, 0, none⟩) 1 1)) (.cells #[(sv (some ⟨g3, 0, none⟩) ([] : List Int) 0)] 25 (0, 0)) [] (fun fb g => by kernel_rfl) trivial (fun g7 w8 hS9 => ?_)
 refine ⟨trivial, ?_⟩
 have hS10 := hS6.go w8 [rowO 25 (encSl Int) (some ⟨g7, 0, none⟩) 1 (tag (fun _ => ((some ⟨g3, 0, none⟩), 0)) [([] : List Int)]), rowO 3 encInt (some ⟨g3, 0, none⟩) 0 ([] : List Int)] (hS9.map1 0 _ (fun h => rowO.ofBlk h rfl (Nat.le_of_ble_eq_true (by kernel_rfl))) (fun _ h => by obtain ⟨_, h1, h2⟩ := h; injection h1 with h1; subst h1; exact h2) [1] (by decide) (by decide))
 have hS11 := hS10.go w8 [rowsO 3 encInt (fun _ => ((some ⟨g3, 0, none⟩), 0)) [([] : List Int)], rowO 25 (encSl Int) (some ⟨g7, 0, none⟩) 1 (tag (fun _ => ((some ⟨g3, 0, none⟩), 0)) [([] : List Int)])] (hS10.rowsOne 1 rfl [0] (by decide) (by decide))
 refine seg 3 [] [0, 1, 5] [(0, (sv Aa p0 ca)), (1, (iv p1)), (5, (sv (some ⟨g7, 0, none⟩) [([] : List Int)] 1))] [] (fun fb => by kernel_rfl) rfl trivial ?_
 refine WL.done rfl (WX.next (WC.seq (WC.seq (WC.region ?_))))
 refine seg 1 [] [0, 1, 5, 6] [(0, (sv Aa p0 ca)), (1, (iv p1)), (5, (sv (some ⟨g7, 0, none⟩) [([] : List Int)] 1)), (6, (iv 0))] [] (fun fb => by kernel_rfl) rfl trivial ?_
 refine WL.done rfl (WX.next ?_)
 obtain ⟨x20, hx21, hf⟩ := bind_some hf
 refine WC.cutN (T := (List (List Int)) × (Option Addr) × Nat × HF) (fun t => [(5, (sv t.2.1 t.1 t.2.2.1))]) (fun t w1 => St NoS w w1 [rowR encInt Aa ca p0] [rowO 25 (encSl Int) t.2.1 t.2.2.1 (tag t.2.2.2 t.1), rowsO 3 encInt t.2.2.2 t.1] ∧ x20 = t.1) (fun Kx20 => ?_) ?_
 ·
  refine WC.block ?_
  refine WC.loop (T := ((List (List Int)) × Int) × (Option Addr) × Nat × HF) (fun t => [(0, (sv Aa p0 ca)), (1, (iv p1)), (5, (sv t.2.1 t.1.1 t.2.2.1)), (6, (iv t.1.2))]) (fun n t w1 => St NoS w w1 [rowR encInt Aa ca p0] [rowO 25 (encSl Int) t.2.1 t.2.2.1 (tag t.2.2.2 t.1.1), rowsO 3 encInt t.2.2.2 t.1.1] ∧ law02_lists.l0 n t.1.1 t.1.2 p0 p1 = some x20) k (([([] : List Int)], 0), (some ⟨g7, 0, none⟩), 1, (fun _ => ((some ⟨g3, 0, none⟩), 0))) [0, 1, 5, 6] rfl ⟨(hS11.subR [0]).sub [1, 0] (by decide), hx21⟩ ?_
  rintro k22 ⟨⟨l14, x16⟩, A12, c13, H15⟩ w23 ⟨hS24, hl25⟩
  cases k22 with
  | zero => rw [law02_lists.l0] at hl25; cases hl25
  | succ k22 =>
   rw [law02_lists.l0] at hl25
   refine WC.seq (WC.seq (WC.region ?_))
   refine seg 3 [] [0, 1, 5, 6, 14] [(0, (sv Aa p0 ca)), (1, (iv p1)), (5, (sv A12 l14 c13)), (6, (iv x16)), (14, (bv (decide (x16 < p1))))] [] (fun fb => by kernel_rfl) rfl trivial ?_
   refine WL.done rfl (WX.next ?_)
   rcases br_some hl25 with ⟨h26, hl25⟩ | ⟨h26, hl25⟩
   ·refine WC.condT2 (fun fb => by kernel_rfl) h26 ?_
    refine WC.skip (WX.next (WC.seq (WC.block (WC.seq (WC.region ?_)))))
    refine seg 1 [] [0, 1, 5, 6, 7] [(0, (sv Aa p0 ca)), (1, (iv p1)), (5, (sv A12 l14 c13)), (6, (iv x16)), (7, (.slice none 0 0))] [] (fun fb => by kernel_rfl) rfl trivial ?_
    refine WL.done rfl (WX.next (WC.seq (WC.seq (WC.region ?_))))
    refine seg 1 [] [0, 1, 5, 6, 7, 8] [(0, (sv Aa p0 ca)), (1, (iv p1)), (5, (sv A12 l14 c13)), (6, (iv x16)), (7, (.slice none 0 0)), (8, (iv 0))] [] (fun fb => by kernel_rfl) rfl trivial ?_
    refine WL.done rfl (WX.next ?_)
    have hS27 := hS11.go w23 [rowO 25 (encSl Int) none 0 (tag hf0 ([] : List (List Int))), rowO 25 (encSl Int) A12 c13 (tag H15 l14), rowsO 3 encInt H15 l14] (hS24.nilrow 25 (encSl Int))
    have hS28 := hS27.go w23 [rowsO 3 encInt hf0 ([] : List (List Int)), rowO 25 (encSl Int) none 0 (tag hf0 ([] : List (List Int))), rowO 25 (encSl Int) A12 c13 (tag H15 l14), rowsO 3 encInt H15 l14] (hS27.rowsNil 3 encInt 0)
    obtain ⟨x37, hx38, hl25⟩ := bind_some hl25
    refine WC.cutN (T := (List (List Int)) × (Option Addr) × Nat × HF) (fun t => [(0, (sv Aa p0 ca)), (1, (iv p1)), (6, (iv x16)), (7, (sv t.2.1 t.1 t.2.2.1))]) (fun t w1 => St NoS w w1 [rowR encInt Aa ca p0] [rowO 25 (encSl Int) t.2.1 t.2.2.1 (tag t.2.2.2 t.1), rowsO 3 encInt t.2.2.2 t.1] ∧ x37 = t.1) (fun Kx37 => ?_) ?_
    ·
     refine WC.block ?_
     refine WC.loop (T := ((List (List Int)) × Int) × (Option Addr) × Nat × HF) (fun t => [(0, (sv Aa p0 ca)), (1, (iv p1)), (5, (sv A12 l14 c13)), (6, (iv x16)), (7, (sv t.2.1 t.1.1 t.2.2.1)), (8, (iv t.1.2))]) (fun n t w1 => St NoS w w1 [rowR encInt Aa ca p0] [rowO 25 (encSl Int) A12 c13 (tag H15 l14), rowsO 3 encInt H15 l14, rowO 25 (encSl Int) t.2.1 t.2.2.1 (tag t.2.2.2 t.1.1), rowsO 3 encInt t.2.2.2 t.1.1] ∧ law02_lists.l1 n t.1.1 t.1.2 p0 l14 = some x37) k22 ((([] : List (List Int)), 0), none, 0, hf0) [0, 1, 5, 6, 7, 8] rfl ⟨(hS28.subR [0]).sub [2, 3, 1, 0] (by decide), hx38⟩ ?_
     rintro k40 ⟨⟨l31, x33⟩, A29, c30, H32⟩ w41 ⟨hS42, hl43⟩
     cases k40 with
     | zero => rw [law02_lists.l1] at hl43; cases hl43
     | succ k40 =>
      rw [law02_lists.l1] at hl43
      refine WC.seq (WC.seq (WC.region ?_))
      refine seg 4 [] [0, 1, 5, 6, 7, 8, 20] [(0, (sv Aa p0 ca)), (1, (iv p1)), (5, (sv A12 l14 c13)), (6, (iv x16)), (7, (sv A29 l31 c30)), (8, (iv x33)), (20, (bv (decide (x33 < (l14.length : Int)))))] [] (fun fb => by kernel_rfl) rfl trivial ?_
      refine WL.done rfl (WX.next ?_)
      rcases br_some hl43 with ⟨h44, hl43⟩ | ⟨h44, hl43⟩
      ·refine WC.condT2 (fun fb => by kernel_rfl) h44 ?_
       refine WC.skip (WX.next (WC.seq (WC.block (WC.seq (WC.region ?_)))))
       refine seg 1 [] [0, 1, 5, 6, 7, 8, 9] [(0, (sv Aa p0 ca)), (1, (iv p1)), (5, (sv A12 l14 c13)), (6, (iv x16)), (7, (sv A29 l31 c30)), (8, (iv x33)), (9, (iv 0))] [] (fun fb => by kernel_rfl) rfl trivial ?_
       refine WL.done rfl (WX.next ?_)
       obtain ⟨x53, hx54, hl43⟩ := bind_some hl43
       refine WC.cutN (T := (List (List Int)) × (Option Addr) × Nat × HF) (fun t => [(0, (sv Aa p0 ca)), (1, (iv p1)), (5, (sv A12 l14 c13)), (6, (iv x16)), (7, (sv t.2.1 t.1 t.2.2.1)), (8, (iv x33))]) (fun t w1 => St NoS w w1 [rowR encInt Aa ca p0] [rowO 25 (encSl Int) A12 c13 (tag H15 l14), rowsO 3 encInt H15 l14, rowO 25 (encSl Int) t.2.1 t.2.2.1 (tag t.2.2.2 t.1), rowsO 3 encInt t.2.2.2 t.1] ∧ x53 = t.1) (fun Kx53 => ?_) ?_
       ·
        refine WC.block ?_
        refine WC.loop (T := ((List (List Int)) × Int) × (Option Addr) × Nat × HF) (fun t => [(0, (sv Aa p0 ca)), (1, (iv p1)), (5, (sv A12 l14 c13)), (6, (iv x16)), (7, (sv t.2.1 t.1.1 t.2.2.1)), (8, (iv x33)), (9, (iv t.1.2))]) (fun n t w1 => St NoS w w1 [rowR encInt Aa ca p0] [rowO 25 (encSl Int) A12 c13 (tag H15 l14), rowsO 3 encInt H15 l14, rowO 25 (encSl Int) t.2.1 t.2.2.1 (tag t.2.2.2 t.1.1), rowsO 3 encInt t.2.2.2 t.1.1] ∧ law02_lists.l2 n t.1.1 t.1.2 p0 l14 x33 = some x53) k40 ((l31, 0), A29, c30, H32) [0, 1, 5, 6, 7, 8, 9] rfl ⟨(hS42.subR [0]).sub [0, 1, 2, 3] (by decide), hx54⟩ ?_
        rintro k55 ⟨⟨l47, x49⟩, A45, c46, H48⟩ w56 ⟨hS57, hl58⟩
        cases k55 with
        | zero => rw [law02_lists.l2] at hl58; cases hl58
        | succ k55 =>
         rw [law02_lists.l2] at hl58
         refine WC.seq (WC.seq (WC.region ?_))
         refine seg 4 [] [0, 1, 5, 6, 7, 8, 9, 26] [(0, (sv Aa p0 ca)), (1, (iv p1)), (5, (sv A12 l14 c13)), (6, (iv x16)), (7, (sv A45 l47 c46)), (8, (iv x33)), (9, (iv x49)), (26, (bv (decide (x49 < (p0.length : Int)))))] [] (fun fb => by kernel_rfl) rfl trivial ?_
         refine WL.done rfl (WX.next ?_)
         rcases br_some hl58 with ⟨h59, hl58⟩ | ⟨h59, hl58⟩
         ·refine WC.condT2 (fun fb => by kernel_rfl) h59 ?_
          refine WC.skip (WX.next (WC.seq (WC.block ?_)))
          obtain ⟨x63, hx65, hl58⟩ := bind_some hl58
          refine WC.cutN (T := (List (List Int)) × (Option Addr) × Nat × HF) (fun t => [(0, (sv Aa p0 ca)), (1, (iv p1)), (5, (sv A12 l14 c13)), (6, (iv x16)), (7, (sv t.2.1 t.1 t.2.2.1)), (8, (iv x33)), (9, (iv x49))]) (fun t w1 => St NoS w w1 [rowR encInt Aa ca p0] [rowO 25 (encSl Int) A12 c13 (tag H15 l14), rowsO 3 encInt H15 l14, rowO 25 (encSl Int) t.2.1 t.2.2.1 (tag t.2.2.2 t.1), rowsO 3 encInt t.2.2.2 t.1] ∧ x63 = t.1) (fun Kx63 => ?_) ?_
          ·
           obtain ⟨h68, hx65⟩ := as_some hx65
           obtain ⟨h69, hx65⟩ := as_some hx65
           refine WC.regionD ([(5, ((adr A12).add ((x33).toNat * 1)), (sv ((H15 x33.toNat).1) (rdD l14 x33 []) ((H15 x33.toNat).2))), (10, ((adr Aa).add ((x49).toNat * 1)), (iv (rdD p0 x49 0)))], [0, 2, 3, 4, 5, 7, 8, 9, 10, 15], [[], [], [], [], [2, 3], [2, 3, 4], [1, 2, 3, 4, 5], [], [], [7, 8], [7, 8, 9], [7, 8, 9, 10], [1, 2, 3, 4, 5, 6, 7, 8, 9, 10, 11], [1, 2, 3, 4, 5, 6, 7, 8, 9, 10, 11, 12], [0, 1, 2, 3, 4, 5, 6, 7, 8, 9, 10, 11, 12, 13], [0, 1, 2, 3, 4, 5, 6, 7, 8, 9, 10, 11, 12, 13, 14]]) [[0, 2, 3, 4, 5, 7, 8, 9, 10, 1, 6, 11, 12, 13, 14, 15], [0, 2, 3, 4, 5, 7, 8, 9, 10, 1, 11, 6, 12, 13, 14, 15], [0, 2, 3, 4, 5, 7, 8, 9, 10, 11, 1, 6, 12, 13, 14, 15]] (by kernel_rfl) (by kernel_rfl) (NoPanic.block (NoPanic.seq (NoPanic.seq (NoPanic.block (NoPanic.block (NoPanic.seq (NoPanic.seq (NoPanic.block (NoPanic.seq (NoPanic.block (NoPanic.seq (NoPanic.seq (NoPanic.block (NoPanic.seq (NoPanic.body))))))))))))))) ?_
           have hS67 := hS57.drew
           revert hS67
           generalize World.drew w56 = w66
           intro hS67
           refine ⟨⟨nrow_cell (rowO.rd (hS67.own 0).1) [] h68.1 h68.2 0 rfl, rowR.cell (hS67.rd 0).1 0 h69.1 h69.2 0 rfl, trivial⟩, forallC ?_ (forallC ?_ (forallC ?_ (forallN)))⟩
           ·
            refine segF 9 [.v (sv ((H15 x33.toNat).1) (rdD l14 x33 []) ((H15 x33.toNat).2)), .v (iv (rdD p0 x49 0))] [0, 1, 5, 6, 8, 9, 29, 34, 39] [(0, (sv Aa p0 ca)), (1, (iv p1)), (5, (sv A12 l14 c13)), (6, (iv x16)), (8, (iv x33)), (9, (iv x49)), (29, (sv A45 l47 c46)), (34, (sv ((H15 x33.toNat).1) (rdD l14 x33 []) ((H15 x33.toNat).2))), (39, (iv (rdD p0 x49 0)))] [.idx A12 x33 l14.length, .idx Aa x49 p0.length] [0, 1] [(5, ((adr A12).add ((x33).toNat * 1)), (sv ((H15 x33.toNat).1) (rdD l14 x33 []) ((H15 x33.toNat).2))), (10, ((adr Aa).add ((x49).toNat * 1)), (iv (rdD p0 x49 0)))] (fun fb => by kernel_rfl) rfl ⟨nrow_adr (rowO.rd (hS67.own 0).1) h68.1 h68.2, rowR.adr (hS67.rd 0).1 h69.1 h69.2, trivial⟩ rfl ?_
            refine WL.new hS67 30 [] (fun g => (.slice (some ⟨g, 0, none⟩) 0 0)) (.cells #[] 3 (0, 0)) [] (fun fb g => by kernel_rfl) trivial (fun g70 w71 hS72 => ?_)
            refine ⟨⟨nrow_cell (rowO.rd (hS72.own 1).1) [] h68.1 h68.2 0 rfl, rowR.cell (hS72.rd 0).1 0 h69.1 h69.2 0 rfl, trivial⟩, ?_⟩
            have hS73 := hS28.go w71 [rowO 3 encInt (some ⟨g70, 0, none⟩) 0 ([] : List Int), rowO 25 (encSl Int) A12 c13 (tag H15 l14), rowsO 3 encInt H15 l14, rowO 25 (encSl Int) A45 c46 (tag H48 l47), rowsO 3 encInt H48 l47] (hS72.map1 0 _ (fun h => rowO.ofBlk h rfl (Nat.le_of_ble_eq_true (by kernel_rfl))) (fun _ h => by obtain ⟨_, h1, h2⟩ := h; injection h1 with h1; subst h1; exact h2) [1, 2, 3, 4] (by decide) (by decide))
            obtain ⟨h74, hx65⟩ := as_some hx65
            refine WL.append hS73 0 (d := 35) (tS := 25) (z := (iv 0)) (bytes := 8) (c2 := (H15 x33.toNat).2) rfl (fun fb => by kernel_rfl) (rowO.rd (rowsO.at (hS73.own 2).1 h68.1 h68.2)) (by kernel_rfl) (by kernel_rfl) rfl (by decide) h74 (by decide) [1, 2, 3, 4] (by decide) (by decide) (fun A75 c76 w77 hS78 => ?_)
            refine ⟨⟨rowR.cell (hS78.rd 0).1 0 h69.1 h69.2 0 rfl, trivial⟩, ?_⟩
            refine WL.new hS78 40 [] (fun g => (.slice (some ⟨g, 0, none⟩) 1 1)) (.cells #[(iv (rdD p0 x49 0))] 3 (0, 0)) [] (fun fb g => by kernel_rfl) trivial (fun g79 w80 hS81 => ?_)
            refine ⟨⟨nrow_cell (rowO.rd (hS81.own 2).1) [] h68.1 h68.2 0 rfl, trivial⟩, ?_⟩
            have hS82 := hS73.go w80 [rowO 3 encInt (some ⟨g79, 0, none⟩) 1 [(rdD p0 x49 0)], rowO 3 encInt A75 c76 (([] : List Int) ++ (rdD l14 x33 [])), rowO 25 (encSl Int) A12 c13 (tag H15 l14), rowsO 3 encInt H15 l14, rowO 25 (encSl Int) A45 c46 (tag H48 l47), rowsO 3 encInt H48 l47] (hS81.map1 0 _ (fun h => rowO.ofBlk h rfl (Nat.le_of_ble_eq_true (by kernel_rfl))) (fun _ h => by obtain ⟨_, h1, h2⟩ := h; injection h1 with h1; subst h1; exact h2) [1, 2, 3, 4, 5] (by decide) (by decide))
            obtain ⟨h83, hx65⟩ := as_some hx65
            refine WL.append hS82 1 (d := 41) (tS := 25) (z := (iv 0)) (bytes := 8) (c2 := 1) rfl (fun fb => by kernel_rfl) (rowO.rd (hS82.own 0).1) (by kernel_rfl) (by kernel_rfl) rfl (by decide) h83 (by decide) [0, 2, 3, 4, 5] (by decide) (by decide) (fun A84 c85 w86 hS87 => ?_)
            refine ⟨trivial, ?_⟩
            refine WL.new hS87 42 [] (fun g => (.slice (some ⟨g, 0, none⟩) 1 1)) (.cells #[(sv A84 ((([] : List Int) ++ (rdD l14 x33 [])) ++ [(rdD p0 x49 0)]) c85)] 25 (0, 0)) [] (fun fb g => by kernel_rfl) trivial (fun g88 w89 hS90 => ?_)
            refine ⟨trivial, ?_⟩
            have hS91 := hS82.go w89 [rowO 25 (encSl Int) (some ⟨g88, 0, none⟩) 1 (tag (fun _ => (A84, c85)) [(([] : List Int) ++ (rdD l14 x33 [])) ++ [(rdD p0 x49 0)]]), rowO 3 encInt A84 c85 ((([] : List Int) ++ (rdD l14 x33 [])) ++ [(rdD p0 x49 0)]), rowO 3 encInt (some ⟨g79, 0, none⟩) 1 [(rdD p0 x49 0)], rowO 25 (encSl Int) A12 c13 (tag H15 l14), rowsO 3 encInt H15 l14, rowO 25 (encSl Int) A45 c46 (tag H48 l47), rowsO 3 encInt H48 l47] (hS90.map1 0 _ (fun h => rowO.ofBlk h rfl (Nat.le_of_ble_eq_true (by kernel_rfl))) (fun _ h => by obtain ⟨_, h1, h2⟩ := h; injection h1 with h1; subst h1; exact h2) [1, 2, 3, 4, 5, 6] (by decide) (by decide))
            have hS92 := hS91.go w89 [rowsO 3 encInt (fun _ => (A84, c85)) [(([] : List Int) ++ (rdD l14 x33 [])) ++ [(rdD p0 x49 0)]], rowO 25 (encSl Int) (some ⟨g88, 0, none⟩) 1 (tag (fun _ => (A84, c85)) [(([] : List Int) ++ (rdD l14 x33 [])) ++ [(rdD p0 x49 0)]]), rowO 3 encInt (some ⟨g79, 0, none⟩) 1 [(rdD p0 x49 0)], rowO 25 (encSl Int) A12 c13 (tag H15 l14), rowsO 3 encInt H15 l14, rowO 25 (encSl Int) A45 c46 (tag H48 l47), rowsO 3 encInt H48 l47] (hS91.rowsOne 1 rfl [0, 2, 3, 4, 5, 6] (by decide) (by decide))
            obtain ⟨h93, hx65⟩ := as_some hx65
            refine WL.appendN hS92 5 (d := 43) (tS := 58) (z := (.slice none 0 0)) (bytes := 24) (c2 := 1) (hx := (A84, c85)) (x := ((([] : List Int) ++ (rdD l14 x33 [])) ++ [(rdD p0 x49 0)])) rfl (fun fb => by kernel_rfl) (rowO.rd (hS92.own 1).1) (by kernel_rfl) (by kernel_rfl) rfl (by decide) h93 (by decide) [0, 1, 2, 3, 4, 6] (by decide) (by decide) (fun A94 c95 w96 hS97 => ?_)
            have hS98 := hS92.go w96 [rowsO 3 encInt (updH H48 l47.length (A84, c85)) (l47 ++ [(([] : List Int) ++ (rdD l14 x33 [])) ++ [(rdD p0 x49 0)]]), rowO 25 (encSl Int) A94 c95 (tag (updH H48 l47.length (A84, c85)) (l47 ++ [(([] : List Int) ++ (rdD l14 x33 [])) ++ [(rdD p0 x49 0)]])), rowO 25 (encSl Int) (some ⟨g88, 0, none⟩) 1 (tag (fun _ => (A84, c85)) [(([] : List Int) ++ (rdD l14 x33 [])) ++ [(rdD p0 x49 0)]]), rowO 3 encInt (some ⟨g79, 0, none⟩) 1 [(rdD p0 x49 0)], rowO 25 (encSl Int) A12 c13 (tag H15 l14), rowsO 3 encInt H15 l14] (hS97.rowsPush 6 1 rfl rfl (by decide) [0, 2, 3, 4, 5] (by decide) (by decide))
            refine ⟨trivial, ?_⟩
            refine seg 16 [] [0, 1, 5, 6, 7, 8, 9] [(0, (sv Aa p0 ca)), (1, (iv p1)), (5, (sv A12 l14 c13)), (6, (iv x16)), (7, (sv A94 (l47 ++ [(([] : List Int) ++ (rdD l14 x33 [])) ++ [(rdD p0 x49 0)]]) c95)), (8, (iv x33)), (9, (iv x49))] [] (fun fb => by kernel_rfl) rfl trivial ?_
            refine WL.done rfl ?_
            injection hx65 with hx65
            exact WX.to Kx63 (l47 ++ [(([] : List Int) ++ (rdD l14 x33 [])) ++ [(rdD p0 x49 0)]], A94, c95, (updH H48 l47.length (A84, c85))) [0, 1, 5, 6, 7, 8, 9] rfl ⟨(hS98.subR [0]).sub [4, 5, 1, 0] (by decide), hx65.symm⟩
           ·
            refine segF 9 [.v (sv ((H15 x33.toNat).1) (rdD l14 x33 []) ((H15 x33.toNat).2)), .v (iv (rdD p0 x49 0))] [0, 1, 5, 6, 8, 9, 29, 34, 39] [(0, (sv Aa p0 ca)), (1, (iv p1)), (5, (sv A12 l14 c13)), (6, (iv x16)), (8, (iv x33)), (9, (iv x49)), (29, (sv A45 l47 c46)), (34, (sv ((H15 x33.toNat).1) (rdD l14 x33 []) ((H15 x33.toNat).2))), (39, (iv (rdD p0 x49 0)))] [.idx A12 x33 l14.length, .idx Aa x49 p0.length] [0, 1] [(5, ((adr A12).add ((x33).toNat * 1)), (sv ((H15 x33.toNat).1) (rdD l14 x33 []) ((H15 x33.toNat).2))), (10, ((adr Aa).add ((x49).toNat * 1)), (iv (rdD p0 x49 0)))] (fun fb => by kernel_rfl) rfl ⟨nrow_adr (rowO.rd (hS67.own 0).1) h68.1 h68.2, rowR.adr (hS67.rd 0).1 h69.1 h69.2, trivial⟩ rfl ?_
            refine WL.new hS67 30 [] (fun g => (.slice (some ⟨g, 0, none⟩) 0 0)) (.cells #[] 3 (0, 0)) [] (fun fb g => by kernel_rfl) trivial (fun g99 w100 hS101 => ?_)
            refine ⟨⟨nrow_cell (rowO.rd (hS101.own 1).1) [] h68.1 h68.2 0 rfl, rowR.cell (hS101.rd 0).1 0 h69.1 h69.2 0 rfl, trivial⟩, ?_⟩
            have hS102 := hS28.go w100 [rowO 3 encInt (some ⟨g99, 0, none⟩) 0 ([] : List Int), rowO 25 (encSl Int) A12 c13 (tag H15 l14), rowsO 3 encInt H15 l14, rowO 25 (encSl Int) A45 c46 (tag H48 l47), rowsO 3 encInt H48 l47] (hS101.map1 0 _ (fun h => rowO.ofBlk h rfl (Nat.le_of_ble_eq_true (by kernel_rfl))) (fun _ h => by obtain ⟨_, h1, h2⟩ := h; injection h1 with h1; subst h1; exact h2) [1, 2, 3, 4] (by decide) (by decide))
            refine WL.new hS102 40 [] (fun g => (.slice (some ⟨g, 0, none⟩) 1 1)) (.cells #[(iv (rdD p0 x49 0))] 3 (0, 0)) [] (fun fb g => by kernel_rfl) trivial (fun g103 w104 hS105 => ?_)
            refine ⟨⟨nrow_cell (rowO.rd (hS105.own 2).1) [] h68.1 h68.2 0 rfl, trivial⟩, ?_⟩
            have hS106 := hS102.go w104 [rowO 3 encInt (some ⟨g103, 0, none⟩) 1 [(rdD p0 x49 0)], rowO 3 encInt (some ⟨g99, 0, none⟩) 0 ([] : List Int), rowO 25 (encSl Int) A12 c13 (tag H15 l14), rowsO 3 encInt H15 l14, rowO 25 (encSl Int) A45 c46 (tag H48 l47), rowsO 3 encInt H48 l47] (hS105.map1 0 _ (fun h => rowO.ofBlk h rfl (Nat.le_of_ble_eq_true (by kernel_rfl))) (fun _ h => by obtain ⟨_, h1, h2⟩ := h; injection h1 with h1; subst h1; exact h2) [1, 2, 3, 4, 5] (by decide) (by decide))
            obtain ⟨h107, hx65⟩ := as_some hx65
            refine WL.append hS106 1 (d := 35) (tS := 25) (z := (iv 0)) (bytes := 8) (c2 := (H15 x33.toNat).2) rfl (fun fb => by kernel_rfl) (rowO.rd (rowsO.at (hS106.own 3).1 h68.1 h68.2)) (by kernel_rfl) (by kernel_rfl) rfl (by decide) h107 (by decide) [0, 2, 3, 4, 5] (by decide) (by decide) (fun A108 c109 w110 hS111 => ?_)
            refine ⟨⟨rowR.cell (hS111.rd 0).1 0 h69.1 h69.2 0 rfl, trivial⟩, ?_⟩
            obtain ⟨h112, hx65⟩ := as_some hx65
            refine WL.append hS111 0 (d := 41) (tS := 25) (z := (iv 0)) (bytes := 8) (c2 := 1) rfl (fun fb => by kernel_rfl) (rowO.rd (hS111.own 1).1) (by kernel_rfl) (by kernel_rfl) rfl (by decide) h112 (by decide) [1, 2, 3, 4, 5] (by decide) (by decide) (fun A113 c114 w115 hS116 => ?_)
            refine ⟨trivial, ?_⟩
            refine WL.new hS116 42 [] (fun g => (.slice (some ⟨g, 0, none⟩) 1 1)) (.cells #[(sv A113 ((([] : List Int) ++ (rdD l14 x33 [])) ++ [(rdD p0 x49 0)]) c114)] 25 (0, 0)) [] (fun fb g => by kernel_rfl) trivial (fun g117 w118 hS119 => ?_)
            refine ⟨trivial, ?_⟩
            have hS120 := hS106.go w118 [rowO 25 (encSl Int) (some ⟨g117, 0, none⟩) 1 (tag (fun _ => (A113, c114)) [(([] : List Int) ++ (rdD l14 x33 [])) ++ [(rdD p0 x49 0)]]), rowO 3 encInt A113 c114 ((([] : List Int) ++ (rdD l14 x33 [])) ++ [(rdD p0 x49 0)]), rowO 3 encInt (some ⟨g103, 0, none⟩) 1 [(rdD p0 x49 0)], rowO 25 (encSl Int) A12 c13 (tag H15 l14), rowsO 3 encInt H15 l14, rowO 25 (encSl Int) A45 c46 (tag H48 l47), rowsO 3 encInt H48 l47] (hS119.map1 0 _ (fun h => rowO.ofBlk h rfl (Nat.le_of_ble_eq_true (by kernel_rfl))) (fun _ h => by obtain ⟨_, h1, h2⟩ := h; injection h1 with h1; subst h1; exact h2) [1, 2, 3, 4, 5, 6] (by decide) (by decide))
            have hS121 := hS120.go w118 [rowsO 3 encInt (fun _ => (A113, c114)) [(([] : List Int) ++ (rdD l14 x33 [])) ++ [(rdD p0 x49 0)]], rowO 25 (encSl Int) (some ⟨g117, 0, none⟩) 1 (tag (fun _ => (A113, c114)) [(([] : List Int) ++ (rdD l14 x33 [])) ++ [(rdD p0 x49 0)]]), rowO 3 encInt (some ⟨g103, 0, none⟩) 1 [(rdD p0 x49 0)], rowO 25 (encSl Int) A12 c13 (tag H15 l14), rowsO 3 encInt H15 l14, rowO 25 (encSl Int) A45 c46 (tag H48 l47), rowsO 3 encInt H48 l47] (hS120.rowsOne 1 rfl [0, 2, 3, 4, 5, 6] (by decide) (by decide))
            obtain ⟨h122, hx65⟩ := as_some hx65
            refine WL.appendN hS121 5 (d := 43) (tS := 58) (z := (.slice none 0 0)) (bytes := 24) (c2 := 1) (hx := (A113, c114)) (x := ((([] : List Int) ++ (rdD l14 x33 [])) ++ [(rdD p0 x49 0)])) rfl (fun fb => by kernel_rfl) (rowO.rd (hS121.own 1).1) (by kernel_rfl) (by kernel_rfl) rfl (by decide) h122 (by decide) [0, 1, 2, 3, 4, 6] (by decide) (by decide) (fun A123 c124 w125 hS126 => ?_)
            have hS127 := hS121.go w125 [rowsO 3 encInt (updH H48 l47.length (A113, c114)) (l47 ++ [(([] : List Int) ++ (rdD l14 x33 [])) ++ [(rdD p0 x49 0)]]), rowO 25 (encSl Int) A123 c124 (tag (updH H48 l47.length (A113, c114)) (l47 ++ [(([] : List Int) ++ (rdD l14 x33 [])) ++ [(rdD p0 x49 0)]])), rowO 25 (encSl Int) (some ⟨g117, 0, none⟩) 1 (tag (fun _ => (A113, c114)) [(([] : List Int) ++ (rdD l14 x33 [])) ++ [(rdD p0 x49 0)]]), rowO 3 encInt (some ⟨g103, 0, none⟩) 1 [(rdD p0 x49 0)], rowO 25 (encSl Int) A12 c13 (tag H15 l14), rowsO 3 encInt H15 l14] (hS126.rowsPush 6 1 rfl rfl (by decide) [0, 2, 3, 4, 5] (by decide) (by decide))
            refine ⟨trivial, ?_⟩
            refine seg 16 [] [0, 1, 5, 6, 7, 8, 9] [(0, (sv Aa p0 ca)), (1, (iv p1)), (5, (sv A12 l14 c13)), (6, (iv x16)), (7, (sv A123 (l47 ++ [(([] : List Int) ++ (rdD l14 x33 [])) ++ [(rdD p0 x49 0)]]) c124)), (8, (iv x33)), (9, (iv x49))] [] (fun fb => by kernel_rfl) rfl trivial ?_
            refine WL.done rfl ?_
            injection hx65 with hx65
            exact WX.to Kx63 (l47 ++ [(([] : List Int) ++ (rdD l14 x33 [])) ++ [(rdD p0 x49 0)]], A123, c124, (updH H48 l47.length (A113, c114))) [0, 1, 5, 6, 7, 8, 9] rfl ⟨(hS127.subR [0]).sub [4, 5, 1, 0] (by decide), hx65.symm⟩
           refine segF 9 [.v (sv ((H15 x33.toNat).1) (rdD l14 x33 []) ((H15 x33.toNat).2)), .v (iv (rdD p0 x49 0))] [0, 1, 5, 6, 8, 9, 29, 34, 39] [(0, (sv Aa p0 ca)), (1, (iv p1)), (5, (sv A12 l14 c13)), (6, (iv x16)), (8, (iv x33)), (9, (iv x49)), (29, (sv A45 l47 c46)), (34, (sv ((H15 x33.toNat).1) (rdD l14 x33 []) ((H15 x33.toNat).2))), (39, (iv (rdD p0 x49 0)))] [.idx A12 x33 l14.length, .idx Aa x49 p0.length] [0, 1] [(5, ((adr A12).add ((x33).toNat * 1)), (sv ((H15 x33.toNat).1) (rdD l14 x33 []) ((H15 x33.toNat).2))), (10, ((adr Aa).add ((x49).toNat * 1)), (iv (rdD p0 x49 0)))] (fun fb => by kernel_rfl) rfl ⟨nrow_adr (rowO.rd (hS67.own 0).1) h68.1 h68.2, rowR.adr (hS67.rd 0).1 h69.1 h69.2, trivial⟩ rfl ?_
           refine WL.new hS67 40 [] (fun g => (.slice (some ⟨g, 0, none⟩) 1 1)) (.cells #[(iv (rdD p0 x49 0))] 3 (0, 0)) [] (fun fb g => by kernel_rfl) trivial (fun g128 w129 hS130 => ?_)
           refine ⟨⟨nrow_cell (rowO.rd (hS130.own 1).1) [] h68.1 h68.2 0 rfl, trivial⟩, ?_⟩
           have hS131 := hS28.go w129 [rowO 3 encInt (some ⟨g128, 0, none⟩) 1 [(rdD p0 x49 0)], rowO 25 (encSl Int) A12 c13 (tag H15 l14), rowsO 3 encInt H15 l14, rowO 25 (encSl Int) A45 c46 (tag H48 l47), rowsO 3 encInt H48 l47] (hS130.map1 0 _ (fun h => rowO.ofBlk h rfl (Nat.le_of_ble_eq_true (by kernel_rfl))) (fun _ h => by obtain ⟨_, h1, h2⟩ := h; injection h1 with h1; subst h1; exact h2) [1, 2, 3, 4] (by decide) (by decide))
           refine WL.new hS131 30 [] (fun g => (.slice (some ⟨g, 0, none⟩) 0 0)) (.cells #[] 3 (0, 0)) [] (fun fb g => by kernel_rfl) trivial (fun g132 w133 hS134 => ?_)
           refine ⟨⟨nrow_cell (rowO.rd (hS134.own 2).1) [] h68.1 h68.2 0 rfl, rowR.cell (hS134.rd 0).1 0 h69.1 h69.2 0 rfl, trivial⟩, ?_⟩
           have hS135 := hS131.go w133 [rowO 3 encInt (some ⟨g132, 0, none⟩) 0 ([] : List Int), rowO 3 encInt (some ⟨g128, 0, none⟩) 1 [(rdD p0 x49 0)], rowO 25 (encSl Int) A12 c13 (tag H15 l14), rowsO 3 encInt H15 l14, rowO 25 (encSl Int) A45 c46 (tag H48 l47), rowsO 3 encInt H48 l47] (hS134.map1 0 _ (fun h => rowO.ofBlk h rfl (Nat.le_of_ble_eq_true (by kernel_rfl))) (fun _ h => by obtain ⟨_, h1, h2⟩ := h; injection h1 with h1; subst h1; exact h2) [1, 2, 3, 4, 5] (by decide) (by decide))
           obtain ⟨h136, hx65⟩ := as_some hx65
           refine WL.append hS135 0 (d := 35) (tS := 25) (z := (iv 0)) (bytes := 8) (c2 := (H15 x33.toNat).2) rfl (fun fb => by kernel_rfl) (rowO.rd (rowsO.at (hS135.own 3).1 h68.1 h68.2)) (by kernel_rfl) (by kernel_rfl) rfl (by decide) h136 (by decide) [1, 2, 3, 4, 5] (by decide) (by decide) (fun A137 c138 w139 hS140 => ?_)
           refine ⟨⟨rowR.cell (hS140.rd 0).1 0 h69.1 h69.2 0 rfl, trivial⟩, ?_⟩
           obtain ⟨h141, hx65⟩ := as_some hx65
           refine WL.append hS140 0 (d := 41) (tS := 25) (z := (iv 0)) (bytes := 8) (c2 := 1) rfl (fun fb => by kernel_rfl) (rowO.rd (hS140.own 1).1) (by kernel_rfl) (by kernel_rfl) rfl (by decide) h141 (by decide) [1, 2, 3, 4, 5] (by decide) (by decide) (fun A142 c143 w144 hS145 => ?_)
           refine ⟨trivial, ?_⟩
           refine WL.new hS145 42 [] (fun g => (.slice (some ⟨g, 0, none⟩) 1 1)) (.cells #[(sv A142 ((([] : List Int) ++ (rdD l14 x33 [])) ++ [(rdD p0 x49 0)]) c143)] 25 (0, 0)) [] (fun fb g => by kernel_rfl) trivial (fun g146 w147 hS148 => ?_)
           refine ⟨trivial, ?_⟩
           have hS149 := hS135.go w147 [rowO 25 (encSl Int) (some ⟨g146, 0, none⟩) 1 (tag (fun _ => (A142, c143)) [(([] : List Int) ++ (rdD l14 x33 [])) ++ [(rdD p0 x49 0)]]), rowO 3 encInt A142 c143 ((([] : List Int) ++ (rdD l14 x33 [])) ++ [(rdD p0 x49 0)]), rowO 3 encInt (some ⟨g128, 0, none⟩) 1 [(rdD p0 x49 0)], rowO 25 (encSl Int) A12 c13 (tag H15 l14), rowsO 3 encInt H15 l14, rowO 25 (encSl Int) A45 c46 (tag H48 l47), rowsO 3 encInt H48 l47] (hS148.map1 0 _ (fun h => rowO.ofBlk h rfl (Nat.le_of_ble_eq_true (by kernel_rfl))) (fun _ h => by obtain ⟨_, h1, h2⟩ := h; injection h1 with h1; subst h1; exact h2) [1, 2, 3, 4, 5, 6] (by decide) (by decide))
           have hS150 := hS149.go w147 [rowsO 3 encInt (fun _ => (A142, c143)) [(([] : List Int) ++ (rdD l14 x33 [])) ++ [(rdD p0 x49 0)]], rowO 25 (encSl Int) (some ⟨g146, 0, none⟩) 1 (tag (fun _ => (A142, c143)) [(([] : List Int) ++ (rdD l14 x33 [])) ++ [(rdD p0 x49 0)]]), rowO 3 encInt (some ⟨g128, 0, none⟩) 1 [(rdD p0 x49 0)], rowO 25 (encSl Int) A12 c13 (tag H15 l14), rowsO 3 encInt H15 l14, rowO 25 (encSl Int) A45 c46 (tag H48 l47), rowsO 3 encInt H48 l47] (hS149.rowsOne 1 rfl [0, 2, 3, 4, 5, 6] (by decide) (by decide))
           obtain ⟨h151, hx65⟩ := as_some hx65
           refine WL.appendN hS150 5 (d := 43) (tS := 58) (z := (.slice none 0 0)) (bytes := 24) (c2 := 1) (hx := (A142, c143)) (x := ((([] : List Int) ++ (rdD l14 x33 [])) ++ [(rdD p0 x49 0)])) rfl (fun fb => by kernel_rfl) (rowO.rd (hS150.own 1).1) (by kernel_rfl) (by kernel_rfl) rfl (by decide) h151 (by decide) [0, 1, 2, 3, 4, 6] (by decide) (by decide) (fun A152 c153 w154 hS155 => ?_)
           have hS156 := hS150.go w154 [rowsO 3 encInt (updH H48 l47.length (A142, c143)) (l47 ++ [(([] : List Int) ++ (rdD l14 x33 [])) ++ [(rdD p0 x49 0)]]), rowO 25 (encSl Int) A152 c153 (tag (updH H48 l47.length (A142, c143)) (l47 ++ [(([] : List Int) ++ (rdD l14 x33 [])) ++ [(rdD p0 x49 0)]])), rowO 25 (encSl Int) (some ⟨g146, 0, none⟩) 1 (tag (fun _ => (A142, c143)) [(([] : List Int) ++ (rdD l14 x33 [])) ++ [(rdD p0 x49 0)]]), rowO 3 encInt (some ⟨g128, 0, none⟩) 1 [(rdD p0 x49 0)], rowO 25 (encSl Int) A12 c13 (tag H15 l14), rowsO 3 encInt H15 l14] (hS155.rowsPush 6 1 rfl rfl (by decide) [0, 2, 3, 4, 5] (by decide) (by decide))
           refine ⟨trivial, ?_⟩
           refine seg 16 [] [0, 1, 5, 6, 7, 8, 9] [(0, (sv Aa p0 ca)), (1, (iv p1)), (5, (sv A12 l14 c13)), (6, (iv x16)), (7, (sv A152 (l47 ++ [(([] : List Int) ++ (rdD l14 x33 [])) ++ [(rdD p0 x49 0)]]) c153)), (8, (iv x33)), (9, (iv x49))] [] (fun fb => by kernel_rfl) rfl trivial ?_
           refine WL.done rfl ?_
           injection hx65 with hx65
           exact WX.to Kx63 (l47 ++ [(([] : List Int) ++ (rdD l14 x33 [])) ++ [(rdD p0 x49 0)]], A152, c153, (updH H48 l47.length (A142, c143))) [0, 1, 5, 6, 7, 8, 9] rfl ⟨(hS156.subR [0]).sub [4, 5, 1, 0] (by decide), hx65.symm⟩
          rintro ⟨y160, A60, c61, H62⟩ w157 ⟨hS158, hq159⟩
          subst hq159
          refine WX.blockN (WX.next ?_)
          refine WC.region ?_
          refine seg 3 [] [0, 1, 5, 6, 7, 8, 9] [(0, (sv Aa p0 ca)), (1, (iv p1)), (5, (sv A12 l14 c13)), (6, (iv x16)), (7, (sv A60 x63 c61)), (8, (iv x33)), (9, (iv (w64 (x49 + 1))))] [] (fun fb => by kernel_rfl) rfl trivial ?_
          refine WL.done rfl ?_
          exact WX.again k55 (Nat.lt_succ_self _) ((x63, w64 (x49 + 1)), A60, c61, H62) [0, 1, 5, 6, 7, 8, 9] rfl ⟨(hS158.subR [0]).sub [0, 1, 2, 3] (by decide), hl58⟩
         refine WC.condF2 (fun fb => by kernel_rfl) h59 ?_
         refine WC.exit ?_
         injection hl58 with hl58
         exact WX.thenX (WX.thenX (WX.blockHere (WX.to Kx53 (l47, A45, c46, H48) [0, 1, 5, 6, 7, 8] rfl ⟨(hS57.subR [0]).sub [0, 1, 2, 3] (by decide), hl58.symm⟩)))
       rintro ⟨y164, A50, c51, H52⟩ w161 ⟨hS162, hq163⟩
       subst hq163
       refine WX.blockN (WX.next ?_)
       refine WC.region ?_
       refine seg 3 [] [0, 1, 5, 6, 7, 8] [(0, (sv Aa p0 ca)), (1, (iv p1)), (5, (sv A12 l14 c13)), (6, (iv x16)), (7, (sv A50 x53 c51)), (8, (iv (w64 (x33 + 1))))] [] (fun fb => by kernel_rfl) rfl trivial ?_
       refine WL.done rfl ?_
       exact WX.again k40 (Nat.lt_succ_self _) ((x53, w64 (x33 + 1)), A50, c51, H52) [0, 1, 5, 6, 7, 8] rfl ⟨(hS162.subR [0]).sub [0, 1, 2, 3] (by decide), hl43⟩
      refine WC.condF2 (fun fb => by kernel_rfl) h44 ?_
      refine WC.exit ?_
      injection hl43 with hl43
      exact WX.thenX (WX.thenX (WX.blockHere (WX.to Kx37 (l31, A29, c30, H32) [0, 1, 6, 7] rfl ⟨(hS42.subR [0]).sub [2, 3] (by decide), hl43.symm⟩)))
    rintro ⟨y168, A34, c35, H36⟩ w165 ⟨hS166, hq167⟩
    subst hq167
    refine WX.next (WC.region ?_)
    refine seg 2 [] [0, 1, 5, 6] [(0, (sv Aa p0 ca)), (1, (iv p1)), (5, (sv A34 x37 c35)), (6, (iv x16))] [] (fun fb => by kernel_rfl) rfl trivial ?_
    refine WL.done rfl ?_
    refine WX.blockN (WX.next ?_)
    refine WC.region ?_
    refine seg 3 [] [0, 1, 5, 6] [(0, (sv Aa p0 ca)), (1, (iv p1)), (5, (sv A34 x37 c35)), (6, (iv (w64 (x16 + 1))))] [] (fun fb => by kernel_rfl) rfl trivial ?_
    refine WL.done rfl ?_
    exact WX.again k22 (Nat.lt_succ_self _) ((x37, w64 (x16 + 1)), A34, c35, H36) [0, 1, 5, 6] rfl ⟨(hS166.subR [0]).sub [0, 1] (by decide), hl25⟩
   refine WC.condF2 (fun fb => by kernel_rfl) h26 ?_
   refine WC.exit ?_
   injection hl25 with hl25
   exact WX.thenX (WX.thenX (WX.blockHere (WX.to Kx20 (l14, A12, c13, H15) [5] rfl ⟨(hS24.subR [0]).sub [0, 1] (by decide), hl25.symm⟩)))
 rintro ⟨y172, A17, c18, H19⟩ w169 ⟨hS170, hq171⟩
 subst hq171
 refine WX.next (WC.seq (WC.region ?_))
 refine seg 2 [] [4] [(4, (sv A17 x20 c18))] [] (fun fb => by kernel_rfl) rfl trivial ?_
 refine WL.done rfl (WX.next ?_)
 refine WC.ret ?_
 injection hf with hf
 subst hf
 exact WX.ret_ [] (sv A17 x20 c18) [] (fun fb => by kernel_rfl) trivial ⟨_, rfl, A17, c18, H19, rfl, (hS170.sub [0, 1] (by decide)).noR⟩
theorem law02_FillStacked_calls (k : Nat) (p0 : List Tile) (p1 : Int) (p2 : Int) (p3 : Edges) (p4 : Int) (Aa : Option Addr) (ca : Nat) (Ab : Option Addr) (cb : Nat) (Ac : Option Addr) (cc : Nat) (Ad : Option Addr) (cd : Nat) (Ae : Option Addr) (ce : Nat) (mG : Int) (r : Bool) (w : World) (hR0 : RO NoS w (rowR enc_Tile Aa ca p0)) (hR1 : RO NoS w (rowR encInt Ab cb p3.North)) (hR2 : RO NoS w (rowR encInt Ac cc p3.East)) (hR3 : RO NoS w (rowR encInt Ad cd p3.South)) (hR4 : RO NoS w (rowR encInt Ae ce p3.West)) (hR5 : RO NoS w (cel ⟨2, 0, none⟩ (iv mG))) (hf : law02_FillStacked k p0 p1 p2 p3 p4 = some r) :
  CallsR Tryd.prog 10 #[(sv Aa p0 ca), (iv p1), (iv p2), (.agg #[(sv Ab p3.North cb), (sv Ac p3.East cc), (sv Ad p3.South cd), (sv Ae p3.West ce)]), (.int .u8 p4)] w (fun v w' => v = (bv r) ∧ Keeps NoS w w') := by
 have hS : St NoS w w [rowR enc_Tile Aa ca p0, rowR encInt Ab cb p3.North, rowR encInt Ac cc p3.East, rowR encInt Ad cd p3.South, rowR encInt Ae ce p3.West, cel ⟨2, 0, none⟩ (iv mG)] [] := St.init (ro_cons hR0 (ro_cons hR1 (ro_cons hR2 (ro_cons hR3 (ro_cons hR4 (ro_cons hR5 (ro_nil _ _)))))))
 refine enter 182 Tryd.func10 rfl Tryd.ntmps10 rfl ?_
 unfold law02_FillStacked at hf
 refine WC.seq (WC.region ?_)
 refine WL.new hS 8 [] (fun g => (pt g)) (.cells #[(sv Ab p3.North cb), (sv Ac p3.East cc), (sv Ad p3.South cd), (sv Ae p3.West ce)] 44 (0, 0)) [] (fun fb g => by kernel_rfl) trivial (fun g1 w2 hS3 => ?_)
 refine ⟨trivial, ?_⟩
 refine seg 2 [] [0, 1, 2, 4, 8] [(0, (sv Aa p0 ca)), (1, (iv p1)), (2, (iv p2)), (4, (.int .u8 p4)), (8, (pt g1))] [] (fun fb => by kernel_rfl) rfl trivial ?_
 refine WL.done rfl (WX.next (WC.seq (WC.seq (WC.region ?_))))
 refine seg 4 [.v (sv Ab p3.North cb), .v (sv Ac p3.East cc), .v (sv Ad p3.South cd), .v (sv Ae p3.West ce)] [0, 1, 2, 4, 8, 23, 24, 25, 26] [(0, (sv Aa p0 ca)), (1, (iv p1)), (2, (iv p2)), (4, (.int .u8 p4)), (8, (pt g1)), (23, (sv Aa p0 ca)), (24, (iv p1)), (25, (iv p2)), (26, (.agg #[(sv Ab p3.North cb), (sv Ac p3.East cc), (sv Ad p3.South cd), (sv Ae p3.West ce)]))] [.cell ⟨g1, 0, none⟩ (sv Ab p3.North cb), .cell ⟨g1, 1, none⟩ (sv Ac p3.East cc), .cell ⟨g1, 2, none⟩ (sv Ad p3.South cd), .cell ⟨g1, 3, none⟩ (sv Ae p3.West ce)] (fun fb => by kernel_rfl) rfl ⟨hS3.cell 0 rfl 0 rfl, hS3.cell 0 rfl 1 rfl, hS3.cell 0 rfl 2 rfl, hS3.cell 0 rfl 3 rfl, trivial⟩ ?_
 obtain ⟨t6, ht7, hf⟩ := bind_some hf
 refine WL.call (some 27) 34 #[(sv Aa p0 ca), (iv p1), (iv p2), (.agg #[(sv Ab p3.North cb), (sv Ac p3.East cc), (sv Ad p3.South cd), (sv Ae p3.West ce)])] (fun fb => by kernel_rfl) (law02_small_calls _ p0 p1 p2 p3 Aa ca Ab cb Ac cc Ad cd Ae ce t6 _ (hS3.rd 0) (hS3.rd 1) (hS3.rd 2) (hS3.rd 3) (hS3.rd 4) ht7) (fun v w9 hR11 => ?_)
 obtain ⟨rfl, hk_⟩ := hR11
 have hS12 := hS3.keepN hk_
 refine ⟨trivial, ?_⟩
 refine seg 7 [] [0, 1, 2, 4, 8, 29] [(0, (sv Aa p0 ca)), (1, (iv p1)), (2, (iv p2)), (4, (.int .u8 p4)), (8, (pt g1)), (29, (bv (!t6)))] [] (fun fb => by kernel_rfl) rfl trivial ?_
 refine WL.cutV (T := Bool) 10 (fun t => [(32, (bv t)), (0, (sv Aa p0 ca)), (1, (iv p1)), (2, (iv p2)), (4, (.int .u8 p4)), (8, (pt g1))]) (fun t => ((!t6) || (decide (p2 < 2))) = t) (fun K => ?_) ?_
 ·
  rcases Bool.eq_false_or_eq_true (!t6) with h13 | h13
  ·
   refine WL.setB 29 h13 rfl ?_
   refine seg 10 [] [0, 1, 2, 4, 8, 32] [(0, (sv Aa p0 ca)), (1, (iv p1)), (2, (iv p2)), (4, (.int .u8 p4)), (8, (pt g1)), (32, (bv true))] [] (fun fb => by kernel_rfl) rfl trivial ?_
   exact WL.toV K true [32, 0, 1, 2, 4, 8] rfl (by first | (rw [h13]; done) | (rw [h13]; rfl))
  refine WL.setB 29 h13 rfl ?_
  refine seg 10 [] [0, 1, 2, 4, 8, 32] [(0, (sv Aa p0 ca)), (1, (iv p1)), (2, (iv p2)), (4, (.int .u8 p4)), (8, (pt g1)), (32, (bv (decide (p2 < 2))))] [] (fun fb => by kernel_rfl) rfl trivial ?_
  exact WL.toV K (decide (p2 < 2)) [32, 0, 1, 2, 4, 8] rfl (by first | (rw [h13]; done) | (rw [h13]; rfl))
 rintro b14 rfl
 refine seg 11 [] [0, 1, 2, 4, 8, 33] [(0, (sv Aa p0 ca)), (1, (iv p1)), (2, (iv p2)), (4, (.int .u8 p4)), (8, (pt g1)), (33, (bv ((!t6) || (decide (p2 < 2)))))] [] (fun fb => by kernel_rfl) rfl trivial ?_
 obtain ⟨x15, hx16, hf⟩ := bind_some hf
 refine WL.cutW (T := Bool) 18 (fun t => [(0, (sv Aa p0 ca)), (1, (iv p1)), (2, (iv p2)), (4, (.int .u8 p4)), (8, (pt g1)), (40, (bv t))]) (fun t w1 => (St NoS w w1 [rowR enc_Tile Aa ca p0, rowR encInt Ab cb p3.North, rowR encInt Ac cc p3.East, rowR encInt Ad cd p3.South, rowR encInt Ae ce p3.West, cel ⟨2, 0, none⟩ (iv mG)] [blk g1 (.cells #[(sv Ab p3.North cb), (sv Ac p3.East cc), (sv Ad p3.South cd), (sv Ae p3.West ce)] 44 (0, 0))] ∧ x15 = t) ∧ CellsOK [] w1) (fun K => ?_) ?_
 ·
  rcases br_some hx16 with ⟨h17, hx16⟩ | ⟨h17, hx16⟩
  ·
   refine WL.setB 33 h17 rfl ?_
   refine seg 18 [] [0, 1, 2, 4, 8, 40] [(0, (sv Aa p0 ca)), (1, (iv p1)), (2, (iv p2)), (4, (.int .u8 p4)), (8, (pt g1)), (40, (bv true))] [] (fun fb => by kernel_rfl) rfl trivial ?_
   injection hx16 with hx16
   exact WL.to K true [0, 1, 2, 4, 8, 40] rfl ⟨⟨(hS12.subR [0, 1, 2, 3, 4, 5]).sub [0] (by decide), hx16.symm⟩, trivial⟩
  refine WL.setB 33 h17 rfl ?_
  refine seg 12 [] [0, 1, 2, 4, 8, 33, 34] [(0, (sv Aa p0 ca)), (1, (iv p1)), (2, (iv p2)), (4, (.int .u8 p4)), (8, (pt g1)), (33, (bv false)), (34, (sv Aa p0 ca))] [] (fun fb => by kernel_rfl) rfl trivial ?_
  obtain ⟨t18, ht19, hx16⟩ := bind_some hx16
  refine WL.call (some 35) 38 #[(sv Aa p0 ca)] (fun fb => by kernel_rfl) (ref02_Colours_calls _ p0 Aa ca t18 _ (hS12.rd 0) ht19) (fun v w20 hR21 => ?_)
  obtain ⟨A23, c24, rfl, hk_⟩ := hR21
  have hS22 := hS.go w20 [rowO 3 encInt A23 c24 t18, blk g1 (.cells #[(.slice Ab p3.North.length cb), (.slice Ac p3.East.length cc), (.slice Ad p3.South.length cd), (.slice Ae p3.West.length ce)] 44 (0, 0))] (hS12.call hk_ [] [0] (fun g hg => hg.elim) (by simp) (by decide))
  refine ⟨trivial, ?_⟩
  refine seg 15 [] [0, 1, 2, 4, 8, 33, 36, 37] [(0, (sv Aa p0 ca)), (1, (iv p1)), (2, (iv p2)), (4, (.int .u8 p4)), (8, (pt g1)), (33, (bv false)), (36, (iv (t18.length : Int))), (37, (iv p1))] [] (fun fb => by kernel_rfl) rfl trivial ?_
  obtain ⟨t25, ht26, hx16⟩ := bind_some hx16
  refine WL.call (some 38) 24 #[(iv (t18.length : Int)), (iv p1)] (fun fb => by kernel_rfl) (ref02_Power_calls _ (t18.length : Int) p1 t25 _ ht26) (fun v w27 hR28 => ?_)
  obtain ⟨rfl, hk_⟩ := hR28
  have hS29 := hS22.keepN hk_
  refine ⟨trivial, ?_⟩
  refine seg 18 [] [0, 1, 2, 4, 8, 40] [(0, (sv Aa p0 ca)), (1, (iv p1)), (2, (iv p2)), (4, (.int .u8 p4)), (8, (pt g1)), (40, (bv (decide (t25 > 300))))] [] (fun fb => by kernel_rfl) rfl trivial ?_
  injection hx16 with hx16
  exact WL.to K (decide (t25 > 300)) [0, 1, 2, 4, 8, 40] rfl ⟨⟨(hS29.subR [0, 1, 2, 3, 4, 5]).sub [1] (by decide), hx16.symm⟩, trivial⟩
 rintro y30 w32 ⟨⟨hS33, hq31⟩, hF34⟩
 subst hq31
 refine WL.done rfl (WX.next ?_)
 rcases br_some hf with ⟨h35, hf⟩ | ⟨h35, hf⟩
 ·refine WC.condT2 (fun fb => by kernel_rfl) h35 ?_
  refine WC.seq (WC.region ?_)
  obtain ⟨t36, ht37, hf⟩ := bind_some hf
  refine WL.call (some 41) 26 #[] (fun fb => by kernel_rfl) (law02_awake_calls _ mG t36 _ (hS33.rd 5) ht37) (fun v w38 hR39 => ?_)
  obtain ⟨rfl, hk_⟩ := hR39
  have hS40 := hS33.keepN hk_
  refine ⟨trivial, ?_⟩
  refine seg 2 [] [10] [(10, (bv t36))] [] (fun fb => by kernel_rfl) rfl trivial ?_
  refine WL.done rfl (WX.next ?_)
  refine WC.ret ?_
  injection hf with hf
  subst hf
  exact WX.thenR (WX.ret_ [] (bv t36) [] (fun fb => by kernel_rfl) trivial ⟨_, rfl, rfl, hS40.keep⟩)
 refine WC.condF2 (fun fb => by kernel_rfl) h35 ?_
 refine WC.skip (WX.next (WC.seq (WC.region ?_)))
 refine seg 4 [.v (sv Ab p3.North cb), .v (sv Ac p3.East cc), .v (sv Ad p3.South cd), .v (sv Ae p3.West ce)] [0, 1, 2, 4, 8, 43, 44, 45, 46] [(0, (sv Aa p0 ca)), (1, (iv p1)), (2, (iv p2)), (4, (.int .u8 p4)), (8, (pt g1)), (43, (sv Aa p0 ca)), (44, (iv p1)), (45, (iv p2)), (46, (.agg #[(sv Ab p3.North cb), (sv Ac p3.East cc), (sv Ad p3.South cd), (sv Ae p3.West ce)]))] [.cell ⟨g1, 0, none⟩ (sv Ab p3.North cb), .cell ⟨g1, 1, none⟩ (sv Ac p3.East cc), .cell ⟨g1, 2, none⟩ (sv Ad p3.South cd), .cell ⟨g1, 3, none⟩ (sv Ae p3.West ce)] (fun fb => by kernel_rfl) rfl ⟨hS33.cell 0 rfl 0 rfl, hS33.cell 0 rfl 1 rfl, hS33.cell 0 rfl 2 rfl, hS33.cell 0 rfl 3 rfl, trivial⟩ ?_
 obtain ⟨t41, ht42, hf⟩ := bind_some hf
 refine WL.call (some 47) 28 #[(sv Aa p0 ca), (iv p1), (iv p2), (.agg #[(sv Ab p3.North cb), (sv Ac p3.East cc), (sv Ad p3.South cd), (sv Ae p3.West ce)])] (fun fb => by kernel_rfl) (fill_Count_calls _ p0 p1 p2 p3 Aa ca Ab cb Ac cc Ad cd Ae ce t41 _ (hS33.rd 0) (hS33.rd 1) (hS33.rd 2) (hS33.rd 3) (hS33.rd 4) ht42) (fun v w43 hR44 => ?_)
 obtain ⟨rfl, hk_⟩ := hR44
 have hS45 := hS33.keepN hk_
 refine ⟨trivial, ?_⟩
 refine seg 10 [] [0, 1, 2, 4, 8, 11, 12] [(0, (sv Aa p0 ca)), (1, (iv p1)), (2, (iv p2)), (4, (.int .u8 p4)), (8, (pt g1)), (11, (iv t41.1)), (12, (iv t41.2))] [] (fun fb => by kernel_rfl) rfl trivial ?_
 refine WL.done rfl (WX.next (WC.seq (WC.seq (WC.region ?_))))
 refine seg 2 [] [0, 1, 2, 4, 8, 11, 12, 51] [(0, (sv Aa p0 ca)), (1, (iv p1)), (2, (iv p2)), (4, (.int .u8 p4)), (8, (pt g1)), (11, (iv t41.1)), (12, (iv t41.2)), (51, (bv (t41.2 != 0)))] [] (fun fb => by kernel_rfl) rfl trivial ?_
 refine WL.done rfl (WX.next ?_)
 rcases br_some hf with ⟨h46, hf⟩ | ⟨h46, hf⟩
 ·refine WC.condT2 (fun fb => by kernel_rfl) h46 ?_
  refine WC.seq (WC.region ?_)
  refine seg 3 [] [54] [(54, (bv (t41.2 == 4)))] [] (fun fb => by kernel_rfl) rfl trivial ?_
  obtain ⟨x47, hx48, hf⟩ := bind_some hf
  refine WL.cutW (T := Bool) 5 (fun t => [(56, (bv t))]) (fun t w1 => (St NoS w w1 [rowR enc_Tile Aa ca p0, rowR encInt Ab cb p3.North, rowR encInt Ac cc p3.East, rowR encInt Ad cd p3.South, rowR encInt Ae ce p3.West, cel ⟨2, 0, none⟩ (iv mG)] [] ∧ x47 = t) ∧ CellsOK [] w1) (fun K => ?_) ?_
  ·
   rcases br_some hx48 with ⟨h49, hx48⟩ | ⟨h49, hx48⟩
   ·
    refine WL.setB 54 h49 rfl ?_
    obtain ⟨t50, ht51, hx48⟩ := bind_some hx48
    refine WL.call (some 55) 26 #[] (fun fb => by kernel_rfl) (law02_awake_calls _ mG t50 _ (hS45.rd 5) ht51) (fun v w52 hR53 => ?_)
    obtain ⟨rfl, hk_⟩ := hR53
    have hS54 := hS45.keepN hk_
    refine ⟨trivial, ?_⟩
    refine seg 5 [] [56] [(56, (bv t50))] [] (fun fb => by kernel_rfl) rfl trivial ?_
    injection hx48 with hx48
    exact WL.to K t50 [56] rfl ⟨⟨(hS54.subR [0, 1, 2, 3, 4, 5]).sub [] (by decide), hx48.symm⟩, trivial⟩
   refine WL.setB 54 h49 rfl ?_
   refine seg 5 [] [56] [(56, (bv false))] [] (fun fb => by kernel_rfl) rfl trivial ?_
   injection hx48 with hx48
   exact WL.to K false [56] rfl ⟨⟨(hS45.subR [0, 1, 2, 3, 4, 5]).sub [] (by decide), hx48.symm⟩, trivial⟩
  rintro y55 w57 ⟨⟨hS58, hq56⟩, hF59⟩
  subst hq56
  refine seg 6 [] [10] [(10, (bv x47))] [] (fun fb => by kernel_rfl) rfl trivial ?_
  refine WL.done rfl (WX.next ?_)
  refine WC.ret ?_
  injection hf with hf
  subst hf
  exact WX.thenR (WX.ret_ [] (bv x47) [] (fun fb => by kernel_rfl) trivial ⟨_, rfl, rfl, hS58.keep⟩)
 refine WC.condF2 (fun fb => by kernel_rfl) h46 ?_
 refine WC.skip (WX.next (WC.seq (WC.region ?_)))
 refine seg 4 [] [0, 1, 2, 8, 11, 58, 60] [(0, (sv Aa p0 ca)), (1, (iv p1)), (2, (iv p2)), (8, (pt g1)), (11, (iv t41.1)), (58, (iv (w64 (p4)))), (60, (iv (w64 (p2 - 1))))] [] (fun fb => by kernel_rfl) rfl trivial ?_
 obtain ⟨h60, hf⟩ := as_some hf
 refine seg 7 [] [0, 1, 2, 8, 11, 13] [(0, (sv Aa p0 ca)), (1, (iv p1)), (2, (iv p2)), (8, (pt g1)), (11, (iv t41.1)), (13, (iv (w64 (1 + (Int.tmod (w64 (p4)) (w64 (p2 - 1)))))))] [.ne (w64 (p2 - 1))] (fun fb => by kernel_rfl) rfl ⟨h60, trivial⟩ ?_
 refine WL.done rfl (WX.next (WC.seq ?_))
 obtain ⟨x76, hx77, hf⟩ := bind_some hf
 refine WC.cutN (T := ((List Int) × (List Int) × (List Int) × (List Int) × (List Int) × (List Int)) × Nat × (Option Addr) × Nat × (Option Addr) × Nat × (Option Addr) × Nat × Nat × (Option Addr) × Nat × (Option Addr) × Nat × (Option Addr) × Nat) (fun t => [(0, (sv Aa p0 ca)), (1, (iv p1)), (2, (iv p2)), (8, (pt g1)), (11, (iv t41.1)), (13, (iv (w64 (1 + (Int.tmod (w64 (p4)) (w64 (p2 - 1))))))), (14, (.pointer (some ⟨t.2.1, 0, none⟩))), (15, (.pointer (some ⟨t.2.2.2.2.2.2.2.2.1, 0, none⟩)))]) (fun t w1 => St NoS w w1 [rowR enc_Tile Aa ca p0, rowR encInt Ab cb p3.North, rowR encInt Ac cc p3.East, rowR encInt Ad cd p3.South, rowR encInt Ae ce p3.West, cel ⟨2, 0, none⟩ (iv mG)] [blk g1 (.cells #[(sv Ab p3.North cb), (sv Ac p3.East cc), (sv Ad p3.South cd), (sv Ae p3.West ce)] 44 (0, 0)), blk t.2.1 (.cells #[(sv t.2.2.1 t.1.1 t.2.2.2.1), (sv t.2.2.2.2.1 t.1.2.1 t.2.2.2.2.2.1), (sv Ad p3.South cd), (sv t.2.2.2.2.2.2.1 t.1.2.2.1 t.2.2.2.2.2.2.2.1)] 44 (0, 0)), rowO 3 encInt t.2.2.1 t.2.2.2.1 t.1.1, rowO 3 encInt t.2.2.2.2.1 t.2.2.2.2.2.1 t.1.2.1, rowO 3 encInt t.2.2.2.2.2.2.1 t.2.2.2.2.2.2.2.1 t.1.2.2.1, blk t.2.2.2.2.2.2.2.2.1 (.cells #[(sv Ab p3.North cb), (sv t.2.2.2.2.2.2.2.2.2.1 t.1.2.2.2.1 t.2.2.2.2.2.2.2.2.2.2.1), (sv t.2.2.2.2.2.2.2.2.2.2.2.1 t.1.2.2.2.2.1 t.2.2.2.2.2.2.2.2.2.2.2.2.1), (sv t.2.2.2.2.2.2.2.2.2.2.2.2.2.1 t.1.2.2.2.2.2 t.2.2.2.2.2.2.2.2.2.2.2.2.2.2)] 44 (0, 0)), rowO 3 encInt t.2.2.2.2.2.2.2.2.2.1 t.2.2.2.2.2.2.2.2.2.2.1 t.1.2.2.2.1, rowO 3 encInt t.2.2.2.2.2.2.2.2.2.2.2.1 t.2.2.2.2.2.2.2.2.2.2.2.2.1 t.1.2.2.2.2.1, rowO 3 encInt t.2.2.2.2.2.2.2.2.2.2.2.2.2.1 t.2.2.2.2.2.2.2.2.2.2.2.2.2.2 t.1.2.2.2.2.2] ∧ x76 = t.1) (fun Kx76 => ?_) ?_
 ·
  refine WC.regionD ([(1, ⟨g1, 2, none⟩, (sv Ad p3.South cd)), (4, ⟨g1, 0, none⟩, (sv Ab p3.North cb))], [0, 1, 2, 3, 4, 5], [[], [0], [0, 1], [], [3], [3, 4], [], [], [0, 1, 2, 6, 7], [0, 1, 2, 3, 4, 5, 6, 7, 8]]) [[0, 1, 2, 3, 4, 5, 6, 7, 8, 9], [0, 1, 2, 3, 4, 5, 7, 6, 8, 9]] (by kernel_rfl) (by kernel_rfl) (NoPanic.seq (NoPanic.body)) ?_
  have hS79 := hS45.drew
  revert hS79
  generalize World.drew w43 = w78
  intro hS79
  refine ⟨⟨hS79.cell 0 rfl 2 rfl, hS79.cell 0 rfl 0 rfl, trivial⟩, forallC ?_ (forallC ?_ (forallN))⟩
  ·
   refine segF 6 [.v (sv Ad p3.South cd), .v (sv Ab p3.North cb)] [0, 1, 2, 8, 11, 13, 65, 68] [(0, (sv Aa p0 ca)), (1, (iv p1)), (2, (iv p2)), (8, (pt g1)), (11, (iv t41.1)), (13, (iv (w64 (1 + (Int.tmod (w64 (p4)) (w64 (p2 - 1))))))), (65, (.agg #[(.slice none 0 0), (.slice none 0 0), (sv Ad p3.South cd), (.slice none 0 0)])), (68, (.agg #[(sv Ab p3.North cb), (.slice none 0 0), (.slice none 0 0), (.slice none 0 0)]))] [] [0, 1] [(1, ⟨g1, 2, none⟩, (sv Ad p3.South cd)), (4, ⟨g1, 0, none⟩, (sv Ab p3.North cb))] (fun fb => by kernel_rfl) rfl trivial rfl ?_
   refine WL.new hS79 14 [] (fun g => (pt g)) (.cells #[(.slice none 0 0), (.slice none 0 0), (.slice none 0 0), (.slice none 0 0)] 44 (0, 0)) [] (fun fb g => by kernel_rfl) trivial (fun g80 w81 hS82 => ?_)
   refine ⟨⟨hS82.cell 1 rfl 2 rfl, hS82.cell 1 rfl 0 rfl, trivial⟩, ?_⟩
   refine WL.new hS82 15 [] (fun g => (pt g)) (.cells #[(.slice none 0 0), (.slice none 0 0), (.slice none 0 0), (.slice none 0 0)] 44 (0, 0)) [] (fun fb g => by kernel_rfl) trivial (fun g83 w84 hS85 => ?_)
   refine ⟨⟨hS85.cell 2 rfl 2 rfl, hS85.cell 2 rfl 0 rfl, trivial⟩, ?_⟩
   refine WL.store hS85 1 rfl [(0, (.slice none 0 0)), (1, (.slice none 0 0)), (2, (sv Ad p3.South cd)), (3, (.slice none 0 0))] #[(.slice none 0 0), (.slice none 0 0), (sv Ad p3.South cd), (.slice none 0 0)] (fun fb => by kernel_rfl) (by kernel_rfl) rfl [0, 2] (by decide) (by decide) (fun w86 hS87 => ?_)
   refine ⟨⟨hS87.cell 2 rfl 0 rfl, trivial⟩, ?_⟩
   refine WL.store hS87 1 rfl [(0, (sv Ab p3.North cb)), (1, (.slice none 0 0)), (2, (.slice none 0 0)), (3, (.slice none 0 0))] #[(sv Ab p3.North cb), (.slice none 0 0), (.slice none 0 0), (.slice none 0 0)] (fun fb => by kernel_rfl) (by kernel_rfl) rfl [0, 2] (by decide) (by decide) (fun w88 hS89 => ?_)
   refine ⟨trivial, ?_⟩
   refine WL.done rfl ?_
   have hS90 := hS89.nilrow 3 encInt
   have hS91 := hS90.nilrow 3 encInt
   have hS92 := hS91.nilrow 3 encInt
   have hS93 := hS92.nilrow 3 encInt
   have hS94 := hS93.nilrow 3 encInt
   have hS95 := hS94.nilrow 3 encInt
   injection hx77 with hx77
   exact WX.to Kx76 ((([] : List Int), ([] : List Int), ([] : List Int), ([] : List Int), ([] : List Int), ([] : List Int)), g80, none, 0, none, 0, none, 0, g83, none, 0, none, 0, none, 0) [0, 1, 2, 8, 11, 13, 14, 15] rfl ⟨(hS95.subR [0, 1, 2, 3, 4, 5]).sub [8, 7, 5, 4, 3, 6, 2, 1, 0] (by decide), hx77.symm⟩
  refine segF 6 [.v (sv Ad p3.South cd), .v (sv Ab p3.North cb)] [0, 1, 2, 8, 11, 13, 65, 68] [(0, (sv Aa p0 ca)), (1, (iv p1)), (2, (iv p2)), (8, (pt g1)), (11, (iv t41.1)), (13, (iv (w64 (1 + (Int.tmod (w64 (p4)) (w64 (p2 - 1))))))), (65, (.agg #[(.slice none 0 0), (.slice none 0 0), (sv Ad p3.South cd), (.slice none 0 0)])), (68, (.agg #[(sv Ab p3.North cb), (.slice none 0 0), (.slice none 0 0), (.slice none 0 0)]))] [] [0, 1] [(1, ⟨g1, 2, none⟩, (sv Ad p3.South cd)), (4, ⟨g1, 0, none⟩, (sv Ab p3.North cb))] (fun fb => by kernel_rfl) rfl trivial rfl ?_
  refine WL.new hS79 15 [] (fun g => (pt g)) (.cells #[(.slice none 0 0), (.slice none 0 0), (.slice none 0 0), (.slice none 0 0)] 44 (0, 0)) [] (fun fb g => by kernel_rfl) trivial (fun g96 w97 hS98 => ?_)
  refine ⟨⟨hS98.cell 1 rfl 2 rfl, hS98.cell 1 rfl 0 rfl, trivial⟩, ?_⟩
  refine WL.new hS98 14 [] (fun g => (pt g)) (.cells #[(.slice none 0 0), (.slice none 0 0), (.slice none 0 0), (.slice none 0 0)] 44 (0, 0)) [] (fun fb g => by kernel_rfl) trivial (fun g99 w100 hS101 => ?_)
  refine ⟨⟨hS101.cell 2 rfl 2 rfl, hS101.cell 2 rfl 0 rfl, trivial⟩, ?_⟩
  refine WL.store hS101 0 rfl [(0, (.slice none 0 0)), (1, (.slice none 0 0)), (2, (sv Ad p3.South cd)), (3, (.slice none 0 0))] #[(.slice none 0 0), (.slice none 0 0), (sv Ad p3.South cd), (.slice none 0 0)] (fun fb => by kernel_rfl) (by kernel_rfl) rfl [1, 2] (by decide) (by decide) (fun w102 hS103 => ?_)
  refine ⟨⟨hS103.cell 2 rfl 0 rfl, trivial⟩, ?_⟩
  refine WL.store hS103 1 rfl [(0, (sv Ab p3.North cb)), (1, (.slice none 0 0)), (2, (.slice none 0 0)), (3, (.slice none 0 0))] #[(sv Ab p3.North cb), (.slice none 0 0), (.slice none 0 0), (.slice none 0 0)] (fun fb => by kernel_rfl) (by kernel_rfl) rfl [0, 2] (by decide) (by decide) (fun w104 hS105 => ?_)
  refine ⟨trivial, ?_⟩
  refine WL.done rfl ?_
  have hS106 := hS105.nilrow 3 encInt
  have hS107 := hS106.nilrow 3 encInt
  have hS108 := hS107.nilrow 3 encInt
  have hS109 := hS108.nilrow 3 encInt
  have hS110 := hS109.nilrow 3 encInt
  have hS111 := hS110.nilrow 3 encInt
  injection hx77 with hx77
  exact WX.to Kx76 ((([] : List Int), ([] : List Int), ([] : List Int), ([] : List Int), ([] : List Int), ([] : List Int)), g99, none, 0, none, 0, none, 0, g96, none, 0, none, 0, none, 0) [0, 1, 2, 8, 11, 13, 14, 15] rfl ⟨(hS111.subR [0, 1, 2, 3, 4, 5]).sub [8, 7, 5, 4, 3, 6, 2, 1, 0] (by decide), hx77.symm⟩
 rintro ⟨y115, g61, A62, c63, A65, c66, A67, c68, g69, A70, c71, A72, c73, A74, c75⟩ w112 ⟨hS113, hq114⟩
 subst hq114
 refine WX.next (WC.seq (WC.seq (WC.region ?_)))
 refine seg 4 [.v (sv Ae p3.West ce)] [0, 1, 2, 8, 11, 13, 14, 15, 72] [(0, (sv Aa p0 ca)), (1, (iv p1)), (2, (iv p2)), (8, (pt g1)), (11, (iv t41.1)), (13, (iv (w64 (1 + (Int.tmod (w64 (p4)) (w64 (p2 - 1))))))), (14, (pt g61)), (15, (pt g69)), (72, (bv (decide ((p3.West.length : Int) > 0))))] [.cell ⟨g1, 3, none⟩ (sv Ae p3.West ce)] (fun fb => by kernel_rfl) rfl ⟨hS113.cell 0 rfl 3 rfl, trivial⟩ ?_
 refine WL.done rfl (WX.next ?_)
 obtain ⟨x120, hx121, hf⟩ := bind_some hf
 refine WC.cutN (T := ((List Int) × (List Int)) × (Option Addr) × Nat × (Option Addr) × Nat) (fun t => [(0, (sv Aa p0 ca)), (1, (iv p1)), (2, (iv p2)), (8, (pt g1)), (11, (iv t41.1)), (13, (iv (w64 (1 + (Int.tmod (w64 (p4)) (w64 (p2 - 1))))))), (14, (pt g61)), (15, (pt g69))]) (fun t w1 => St NoS w w1 [rowR encInt t.2.1 t.2.2.1 t.1.1, rowR encInt t.2.2.2.1 t.2.2.2.2 t.1.2, rowR enc_Tile Aa ca p0, rowR encInt Ab cb p3.North, rowR encInt Ac cc p3.East, rowR encInt Ad cd p3.South, rowR encInt Ae ce p3.West, cel ⟨2, 0, none⟩ (iv mG)] [blk g1 (.cells #[(sv Ab p3.North cb), (sv Ac p3.East cc), (sv Ad p3.South cd), (sv Ae p3.West ce)] 44 (0, 0)), blk g61 (.cells #[(sv A62 x76.1 c63), (sv A65 x76.2.1 c66), (sv Ad p3.South cd), (sv t.2.1 t.1.1 t.2.2.1)] 44 (0, 0)), rowO 3 encInt A62 c63 x76.1, rowO 3 encInt A65 c66 x76.2.1, blk g69 (.cells #[(sv Ab p3.North cb), (sv A70 x76.2.2.2.1 c71), (sv A72 x76.2.2.2.2.1 c73), (sv t.2.2.2.1 t.1.2 t.2.2.2.2)] 44 (0, 0)), rowO 3 encInt A70 c71 x76.2.2.2.1, rowO 3 encInt A72 c73 x76.2.2.2.2.1] ∧ x120 = t.1) (fun Kx120 => ?_) ?_
 ·
  rcases br_some hx121 with ⟨h122, hx121⟩ | ⟨h122, hx121⟩
  ·refine WC.condT2 (fun fb => by kernel_rfl) h122 ?_
   obtain ⟨h125, hx121⟩ := as_some hx121
   obtain ⟨h126, hx121⟩ := as_some hx121
   refine WC.regionD ([(1, ⟨g1, 3, none⟩, (sv Ae p3.West ce)), (5, ⟨g1, 3, none⟩, (sv Ae p3.West ce))], [0, 1, 2, 3, 4, 5, 6, 7, 8, 10], [[], [0], [], [0, 1, 2], [], [4], [], [4, 5, 6], [0, 1, 2, 3], [0, 1, 2, 3, 8], [0, 1, 2, 3, 4, 5, 6, 7, 8, 9], [0, 1, 2, 3, 4, 5, 6, 7, 8, 9, 10]]) [[0, 1, 2, 3, 4, 5, 6, 7, 8, 9, 10, 11]] (by kernel_rfl) (by kernel_rfl) (NoPanic.seq (NoPanic.body)) ?_
   have hS124 := hS113.drew
   revert hS124
   generalize World.drew w112 = w123
   intro hS124
   refine ⟨⟨hS124.cell 0 rfl 3 rfl, hS124.cell 0 rfl 3 rfl, trivial⟩, forallC ?_ (forallN)⟩
   refine segF 3 [.v (sv Ae p3.West ce)] [0, 1, 2, 8, 11, 13, 14, 15, 74, 75] [(0, (sv Aa p0 ca)), (1, (iv p1)), (2, (iv p2)), (8, (pt g1)), (11, (iv t41.1)), (13, (iv (w64 (1 + (Int.tmod (w64 (p4)) (w64 (p2 - 1))))))), (14, (pt g61)), (15, (pt g69)), (74, (sv Ae p3.West ce)), (75, (iv (w64 (1 + (Int.tmod (w64 (p4)) (w64 (p2 - 1)))))))] [] [0] [(1, ⟨g1, 3, none⟩, (sv Ae p3.West ce))] (fun fb => by kernel_rfl) rfl trivial rfl ?_
   refine seg 4 [] [0, 1, 2, 8, 11, 13, 14, 15, 76] [(0, (sv Aa p0 ca)), (1, (iv p1)), (2, (iv p2)), (8, (pt g1)), (11, (iv t41.1)), (13, (iv (w64 (1 + (Int.tmod (w64 (p4)) (w64 (p2 - 1))))))), (14, (pt g61)), (15, (pt g69)), (76, (.slice (subA Ae ce (0 : Int).toNat 1) ((w64 (1 + (Int.tmod (w64 (p4)) (w64 (p2 - 1))))).toNat - (0 : Int).toNat) (ce - (0 : Int).toNat)))] [.idx (some ⟨0, 0, none⟩) (0 : Int) ((w64 (1 + (Int.tmod (w64 (p4)) (w64 (p2 - 1))))).toNat + 1), .idx (some ⟨0, 0, none⟩) (w64 (1 + (Int.tmod (w64 (p4)) (w64 (p2 - 1))))) (ce + 1)] (fun fb => by kernel_rfl) rfl ⟨cut1 h125.1 h125.2.1, cut2 h125.1 h125.2.1 h125.2.2 (hS124.rd 4).1.2, trivial⟩ ?_
   refine WL.reE [0, 1, 2, 8, 11, 13, 14, 15, 76] [(0, (.slice Aa p0.length ca)), (1, (iv p1)), (2, (iv p2)), (8, (pt g1)), (11, (iv t41.1)), (13, (iv (w64 (1 + (Int.tmod (w64 (p4)) (w64 (p2 - 1))))))), (14, (pt g61)), (15, (pt g69)), (76, (.slice (subA Ae ce (0 : Int).toNat 1) ((w64 (1 + (Int.tmod (w64 (p4)) (w64 (p2 - 1))))).toNat - (0 : Int).toNat) (ce - (0 : Int).toNat)))] [(0, (.slice Aa p0.length ca)), (1, (iv p1)), (2, (iv p2)), (8, (pt g1)), (11, (iv t41.1)), (13, (iv (w64 (1 + (Int.tmod (w64 (p4)) (w64 (p2 - 1))))))), (14, (pt g61)), (15, (pt g69)), (76, (.slice (subA Ae ce (0 : Int).toNat 1) (cut p3.West (0 : Int) (w64 (1 + (Int.tmod (w64 (p4)) (w64 (p2 - 1)))))).length (ce - (0 : Int).toNat)))] rfl (by rw [cut_length h125.1 h125.2.1 h125.2.2]) ?_
   have hS127 := hS124.cutR 4 rfl h125.1 h125.2.1 h125.2.2
   refine segF 7 [.v (sv Ae p3.West ce)] [0, 1, 2, 8, 11, 13, 14, 15, 76, 78, 79] [(0, (sv Aa p0 ca)), (1, (iv p1)), (2, (iv p2)), (8, (pt g1)), (11, (iv t41.1)), (13, (iv (w64 (1 + (Int.tmod (w64 (p4)) (w64 (p2 - 1))))))), (14, (pt g61)), (15, (pt g69)), (76, (sv (subA Ae ce (0 : Int).toNat 1) (cut p3.West (0 : Int) (w64 (1 + (Int.tmod (w64 (p4)) (w64 (p2 - 1)))))) (ce - (0 : Int).toNat))), (78, (sv Ae p3.West ce)), (79, (iv (w64 (1 + (Int.tmod (w64 (p4)) (w64 (p2 - 1)))))))] [] [1] [(5, ⟨g1, 3, none⟩, (sv Ae p3.West ce))] (fun fb => by kernel_rfl) rfl trivial rfl ?_
   refine seg 8 [] [0, 1, 2, 8, 11, 13, 14, 15, 76, 80] [(0, (sv Aa p0 ca)), (1, (iv p1)), (2, (iv p2)), (8, (pt g1)), (11, (iv t41.1)), (13, (iv (w64 (1 + (Int.tmod (w64 (p4)) (w64 (p2 - 1))))))), (14, (pt g61)), (15, (pt g69)), (76, (sv (subA Ae ce (0 : Int).toNat 1) (cut p3.West (0 : Int) (w64 (1 + (Int.tmod (w64 (p4)) (w64 (p2 - 1)))))) (ce - (0 : Int).toNat))), (80, (.slice (subA Ae ce (w64 (1 + (Int.tmod (w64 (p4)) (w64 (p2 - 1))))).toNat 1) ((p3.West.length : Int).toNat - (w64 (1 + (Int.tmod (w64 (p4)) (w64 (p2 - 1))))).toNat) (ce - (w64 (1 + (Int.tmod (w64 (p4)) (w64 (p2 - 1))))).toNat)))] [.idx (some ⟨0, 0, none⟩) (w64 (1 + (Int.tmod (w64 (p4)) (w64 (p2 - 1))))) ((p3.West.length : Int).toNat + 1), .idx (some ⟨0, 0, none⟩) (p3.West.length : Int) (ce + 1)] (fun fb => by kernel_rfl) rfl ⟨cut1 h126.1 h126.2.1, cut2 h126.1 h126.2.1 h126.2.2 (hS127.rd 5).1.2, trivial⟩ ?_
   refine WL.reE [0, 1, 2, 8, 11, 13, 14, 15, 76, 80] [(0, (.slice Aa p0.length ca)), (1, (iv p1)), (2, (iv p2)), (8, (pt g1)), (11, (iv t41.1)), (13, (iv (w64 (1 + (Int.tmod (w64 (p4)) (w64 (p2 - 1))))))), (14, (pt g61)), (15, (pt g69)), (76, (.slice (subA Ae ce (0 : Int).toNat 1) (cut p3.West (0 : Int) (w64 (1 + (Int.tmod (w64 (p4)) (w64 (p2 - 1)))))).length (ce - (0 : Int).toNat))), (80, (.slice (subA Ae ce (w64 (1 + (Int.tmod (w64 (p4)) (w64 (p2 - 1))))).toNat 1) ((p3.West.length : Int).toNat - (w64 (1 + (Int.tmod (w64 (p4)) (w64 (p2 - 1))))).toNat) (ce - (w64 (1 + (Int.tmod (w64 (p4)) (w64 (p2 - 1))))).toNat)))] [(0, (.slice Aa p0.length ca)), (1, (iv p1)), (2, (iv p2)), (8, (pt g1)), (11, (iv t41.1)), (13, (iv (w64 (1 + (Int.tmod (w64 (p4)) (w64 (p2 - 1))))))), (14, (pt g61)), (15, (pt g69)), (76, (.slice (subA Ae ce (0 : Int).toNat 1) (cut p3.West (0 : Int) (w64 (1 + (Int.tmod (w64 (p4)) (w64 (p2 - 1)))))).length (ce - (0 : Int).toNat))), (80, (.slice (subA Ae ce (w64 (1 + (Int.tmod (w64 (p4)) (w64 (p2 - 1))))).toNat 1) (cut p3.West (w64 (1 + (Int.tmod (w64 (p4)) (w64 (p2 - 1))))) (p3.West.length : Int)).length (ce - (w64 (1 + (Int.tmod (w64 (p4)) (w64 (p2 - 1))))).toNat)))] rfl (by rw [cut_length h126.1 h126.2.1 h126.2.2]) ?_
   have hS128 := hS127.cutR 5 rfl h126.1 h126.2.1 h126.2.2
   refine seg 9 [] [0, 1, 2, 8, 11, 13, 14, 15, 76, 80, 81] [(0, (sv Aa p0 ca)), (1, (iv p1)), (2, (iv p2)), (8, (pt g1)), (11, (iv t41.1)), (13, (iv (w64 (1 + (Int.tmod (w64 (p4)) (w64 (p2 - 1))))))), (14, (pt g61)), (15, (pt g69)), (76, (sv (subA Ae ce (0 : Int).toNat 1) (cut p3.West (0 : Int) (w64 (1 + (Int.tmod (w64 (p4)) (w64 (p2 - 1)))))) (ce - (0 : Int).toNat))), (80, (sv (subA Ae ce (w64 (1 + (Int.tmod (w64 (p4)) (w64 (p2 - 1))))).toNat 1) (cut p3.West (w64 (1 + (Int.tmod (w64 (p4)) (w64 (p2 - 1))))) (p3.West.length : Int)) (ce - (w64 (1 + (Int.tmod (w64 (p4)) (w64 (p2 - 1))))).toNat))), (81, (.pointer (some ⟨g61, 3, none⟩)))] [] (fun fb => by kernel_rfl) rfl trivial ?_
   refine WL.store hS128 1 rfl [(3, (sv (subA Ae ce (0 : Int).toNat 1) (cut p3.West (0 : Int) (w64 (1 + (Int.tmod (w64 (p4)) (w64 (p2 - 1)))))) (ce - (0 : Int).toNat)))] #[(sv A62 x76.1 c63), (sv A65 x76.2.1 c66), (sv Ad p3.South cd), (sv (subA Ae ce (0 : Int).toNat 1) (cut p3.West (0 : Int) (w64 (1 + (Int.tmod (w64 (p4)) (w64 (p2 - 1)))))) (ce - (0 : Int).toNat))] (fun fb => by kernel_rfl) (by kernel_rfl) rfl [0, 2, 3, 4, 5, 6, 7, 8] (by decide) (by decide) (fun w129 hS130 => ?_)
   refine ⟨⟨hS130.cell 1 rfl 3 rfl, trivial⟩, ?_⟩
   refine seg 11 [] [0, 1, 2, 8, 11, 13, 14, 15, 80, 82] [(0, (sv Aa p0 ca)), (1, (iv p1)), (2, (iv p2)), (8, (pt g1)), (11, (iv t41.1)), (13, (iv (w64 (1 + (Int.tmod (w64 (p4)) (w64 (p2 - 1))))))), (14, (pt g61)), (15, (pt g69)), (80, (sv (subA Ae ce (w64 (1 + (Int.tmod (w64 (p4)) (w64 (p2 - 1))))).toNat 1) (cut p3.West (w64 (1 + (Int.tmod (w64 (p4)) (w64 (p2 - 1))))) (p3.West.length : Int)) (ce - (w64 (1 + (Int.tmod (w64 (p4)) (w64 (p2 - 1))))).toNat))), (82, (.pointer (some ⟨g69, 3, none⟩)))] [] (fun fb => by kernel_rfl) rfl trivial ?_
   refine WL.store hS130 5 rfl [(3, (sv (subA Ae ce (w64 (1 + (Int.tmod (w64 (p4)) (w64 (p2 - 1))))).toNat 1) (cut p3.West (w64 (1 + (Int.tmod (w64 (p4)) (w64 (p2 - 1))))) (p3.West.length : Int)) (ce - (w64 (1 + (Int.tmod (w64 (p4)) (w64 (p2 - 1))))).toNat)))] #[(sv Ab p3.North cb), (sv A70 x76.2.2.2.1 c71), (sv A72 x76.2.2.2.2.1 c73), (sv (subA Ae ce (w64 (1 + (Int.tmod (w64 (p4)) (w64 (p2 - 1))))).toNat 1) (cut p3.West (w64 (1 + (Int.tmod (w64 (p4)) (w64 (p2 - 1))))) (p3.West.length : Int)) (ce - (w64 (1 + (Int.tmod (w64 (p4)) (w64 (p2 - 1))))).toNat))] (fun fb => by kernel_rfl) (by kernel_rfl) rfl [0, 1, 2, 3, 4, 6, 7, 8] (by decide) (by decide) (fun w131 hS132 => ?_)
   refine ⟨trivial, ?_⟩
   refine WL.done rfl ?_
   injection hx121 with hx121
   exact WX.to Kx120 (((cut p3.West (0 : Int) (w64 (1 + (Int.tmod (w64 (p4)) (w64 (p2 - 1)))))), (cut p3.West (w64 (1 + (Int.tmod (w64 (p4)) (w64 (p2 - 1))))) (p3.West.length : Int))), (subA Ae ce (0 : Int).toNat 1), (ce - (0 : Int).toNat), (subA Ae ce (w64 (1 + (Int.tmod (w64 (p4)) (w64 (p2 - 1))))).toNat 1), (ce - (w64 (1 + (Int.tmod (w64 (p4)) (w64 (p2 - 1))))).toNat)) [0, 1, 2, 8, 11, 13, 14, 15] rfl ⟨(hS132.subR [1, 0, 2, 3, 4, 5, 6, 7]).sub [2, 1, 3, 4, 0, 6, 7] (by decide), hx121.symm⟩
  refine WC.condF2 (fun fb => by kernel_rfl) h122 ?_
  refine WC.skip ?_
  have hS133 := hS113.freezeRow 4 rfl [0, 1, 2, 3, 5, 6, 7, 8] (by decide) (by decide)
  have hS134 := hS133.freezeRow 7 rfl [0, 1, 2, 3, 4, 5, 6] (by decide) (by decide)
  injection hx121 with hx121
  exact WX.to Kx120 ((x76.2.2.1, x76.2.2.2.2.2), A67, c68, A74, c75) [0, 1, 2, 8, 11, 13, 14, 15] rfl ⟨(hS134.subR [1, 0, 2, 3, 4, 5, 6, 7]).sub [0, 1, 2, 3, 4, 5, 6] (by decide), hx121.symm⟩
 rintro ⟨y138, A116, c117, A118, c119⟩ w135 ⟨hS136, hq137⟩
 subst hq137
 refine WX.next (WC.seq (WC.seq (WC.region ?_)))
 refine seg 4 [.v (sv Ac p3.East cc)] [0, 1, 2, 8, 11, 13, 14, 15, 86] [(0, (sv Aa p0 ca)), (1, (iv p1)), (2, (iv p2)), (8, (pt g1)), (11, (iv t41.1)), (13, (iv (w64 (1 + (Int.tmod (w64 (p4)) (w64 (p2 - 1))))))), (14, (pt g61)), (15, (pt g69)), (86, (bv (decide ((p3.East.length : Int) > 0))))] [.cell ⟨g1, 1, none⟩ (sv Ac p3.East cc)] (fun fb => by kernel_rfl) rfl ⟨hS136.cell 0 rfl 1 rfl, trivial⟩ ?_
 refine WL.done rfl (WX.next ?_)
 obtain ⟨x143, hx144, hf⟩ := bind_some hf
 refine WC.cutN (T := ((List Int) × (List Int)) × (Option Addr) × Nat × (Option Addr) × Nat) (fun t => [(0, (sv Aa p0 ca)), (1, (iv p1)), (2, (iv p2)), (11, (iv t41.1)), (13, (iv (w64 (1 + (Int.tmod (w64 (p4)) (w64 (p2 - 1))))))), (14, (pt g61)), (15, (pt g69))]) (fun t w1 => St NoS w w1 [rowR encInt t.2.1 t.2.2.1 t.1.1, rowR encInt t.2.2.2.1 t.2.2.2.2 t.1.2, rowR encInt A116 c117 x120.1, rowR encInt A118 c119 x120.2, rowR enc_Tile Aa ca p0, rowR encInt Ab cb p3.North, rowR encInt Ac cc p3.East, rowR encInt Ad cd p3.South, rowR encInt Ae ce p3.West, cel ⟨2, 0, none⟩ (iv mG)] [blk g61 (.cells #[(sv A62 x76.1 c63), (sv t.2.1 t.1.1 t.2.2.1), (sv Ad p3.South cd), (sv A116 x120.1 c117)] 44 (0, 0)), rowO 3 encInt A62 c63 x76.1, blk g69 (.cells #[(sv Ab p3.North cb), (sv t.2.2.2.1 t.1.2 t.2.2.2.2), (sv A72 x76.2.2.2.2.1 c73), (sv A118 x120.2 c119)] 44 (0, 0)), rowO 3 encInt A72 c73 x76.2.2.2.2.1] ∧ x143 = t.1) (fun Kx143 => ?_) ?_
 ·
  rcases br_some hx144 with ⟨h145, hx144⟩ | ⟨h145, hx144⟩
  ·refine WC.condT2 (fun fb => by kernel_rfl) h145 ?_
   obtain ⟨h148, hx144⟩ := as_some hx144
   obtain ⟨h149, hx144⟩ := as_some hx144
   refine WC.regionD ([(1, ⟨g1, 1, none⟩, (sv Ac p3.East cc)), (5, ⟨g1, 1, none⟩, (sv Ac p3.East cc))], [0, 1, 2, 3, 4, 5, 6, 7, 8, 10], [[], [0], [], [0, 1, 2], [], [4], [], [4, 5, 6], [0, 1, 2, 3], [0, 1, 2, 3, 8], [0, 1, 2, 3, 4, 5, 6, 7, 8, 9], [0, 1, 2, 3, 4, 5, 6, 7, 8, 9, 10]]) [[0, 1, 2, 3, 4, 5, 6, 7, 8, 9, 10, 11]] (by kernel_rfl) (by kernel_rfl) (NoPanic.seq (NoPanic.body)) ?_
   have hS147 := hS136.drew
   revert hS147
   generalize World.drew w135 = w146
   intro hS147
   refine ⟨⟨hS147.cell 0 rfl 1 rfl, hS147.cell 0 rfl 1 rfl, trivial⟩, forallC ?_ (forallN)⟩
   refine segF 3 [.v (sv Ac p3.East cc)] [0, 1, 2, 8, 11, 13, 14, 15, 88, 89] [(0, (sv Aa p0 ca)), (1, (iv p1)), (2, (iv p2)), (8, (pt g1)), (11, (iv t41.1)), (13, (iv (w64 (1 + (Int.tmod (w64 (p4)) (w64 (p2 - 1))))))), (14, (pt g61)), (15, (pt g69)), (88, (sv Ac p3.East cc)), (89, (iv (w64 (1 + (Int.tmod (w64 (p4)) (w64 (p2 - 1)))))))] [] [0] [(1, ⟨g1, 1, none⟩, (sv Ac p3.East cc))] (fun fb => by kernel_rfl) rfl trivial rfl ?_
   refine seg 4 [] [0, 1, 2, 8, 11, 13, 14, 15, 90] [(0, (sv Aa p0 ca)), (1, (iv p1)), (2, (iv p2)), (8, (pt g1)), (11, (iv t41.1)), (13, (iv (w64 (1 + (Int.tmod (w64 (p4)) (w64 (p2 - 1))))))), (14, (pt g61)), (15, (pt g69)), (90, (.slice (subA Ac cc (0 : Int).toNat 1) ((w64 (1 + (Int.tmod (w64 (p4)) (w64 (p2 - 1))))).toNat - (0 : Int).toNat) (cc - (0 : Int).toNat)))] [.idx (some ⟨0, 0, none⟩) (0 : Int) ((w64 (1 + (Int.tmod (w64 (p4)) (w64 (p2 - 1))))).toNat + 1), .idx (some ⟨0, 0, none⟩) (w64 (1 + (Int.tmod (w64 (p4)) (w64 (p2 - 1))))) (cc + 1)] (fun fb => by kernel_rfl) rfl ⟨cut1 h148.1 h148.2.1, cut2 h148.1 h148.2.1 h148.2.2 (hS147.rd 4).1.2, trivial⟩ ?_
   refine WL.reE [0, 1, 2, 8, 11, 13, 14, 15, 90] [(0, (.slice Aa p0.length ca)), (1, (iv p1)), (2, (iv p2)), (8, (pt g1)), (11, (iv t41.1)), (13, (iv (w64 (1 + (Int.tmod (w64 (p4)) (w64 (p2 - 1))))))), (14, (pt g61)), (15, (pt g69)), (90, (.slice (subA Ac cc (0 : Int).toNat 1) ((w64 (1 + (Int.tmod (w64 (p4)) (w64 (p2 - 1))))).toNat - (0 : Int).toNat) (cc - (0 : Int).toNat)))] [(0, (.slice Aa p0.length ca)), (1, (iv p1)), (2, (iv p2)), (8, (pt g1)), (11, (iv t41.1)), (13, (iv (w64 (1 + (Int.tmod (w64 (p4)) (w64 (p2 - 1))))))), (14, (pt g61)), (15, (pt g69)), (90, (.slice (subA Ac cc (0 : Int).toNat 1) (cut p3.East (0 : Int) (w64 (1 + (Int.tmod (w64 (p4)) (w64 (p2 - 1)))))).length (cc - (0 : Int).toNat)))] rfl (by rw [cut_length h148.1 h148.2.1 h148.2.2]) ?_
   have hS150 := hS147.cutR 4 rfl h148.1 h148.2.1 h148.2.2
   refine segF 7 [.v (sv Ac p3.East cc)] [0, 1, 2, 11, 13, 14, 15, 90, 92, 93] [(0, (sv Aa p0 ca)), (1, (iv p1)), (2, (iv p2)), (11, (iv t41.1)), (13, (iv (w64 (1 + (Int.tmod (w64 (p4)) (w64 (p2 - 1))))))), (14, (pt g61)), (15, (pt g69)), (90, (sv (subA Ac cc (0 : Int).toNat 1) (cut p3.East (0 : Int) (w64 (1 + (Int.tmod (w64 (p4)) (w64 (p2 - 1)))))) (cc - (0 : Int).toNat))), (92, (sv Ac p3.East cc)), (93, (iv (w64 (1 + (Int.tmod (w64 (p4)) (w64 (p2 - 1)))))))] [] [1] [(5, ⟨g1, 1, none⟩, (sv Ac p3.East cc))] (fun fb => by kernel_rfl) rfl trivial rfl ?_
   refine seg 8 [] [0, 1, 2, 11, 13, 14, 15, 90, 94] [(0, (sv Aa p0 ca)), (1, (iv p1)), (2, (iv p2)), (11, (iv t41.1)), (13, (iv (w64 (1 + (Int.tmod (w64 (p4)) (w64 (p2 - 1))))))), (14, (pt g61)), (15, (pt g69)), (90, (sv (subA Ac cc (0 : Int).toNat 1) (cut p3.East (0 : Int) (w64 (1 + (Int.tmod (w64 (p4)) (w64 (p2 - 1)))))) (cc - (0 : Int).toNat))), (94, (.slice (subA Ac cc (w64 (1 + (Int.tmod (w64 (p4)) (w64 (p2 - 1))))).toNat 1) ((p3.East.length : Int).toNat - (w64 (1 + (Int.tmod (w64 (p4)) (w64 (p2 - 1))))).toNat) (cc - (w64 (1 + (Int.tmod (w64 (p4)) (w64 (p2 - 1))))).toNat)))] [.idx (some ⟨0, 0, none⟩) (w64 (1 + (Int.tmod (w64 (p4)) (w64 (p2 - 1))))) ((p3.East.length : Int).toNat + 1), .idx (some ⟨0, 0, none⟩) (p3.East.length : Int) (cc + 1)] (fun fb => by kernel_rfl) rfl ⟨cut1 h149.1 h149.2.1, cut2 h149.1 h149.2.1 h149.2.2 (hS150.rd 5).1.2, trivial⟩ ?_
   refine WL.reE [0, 1, 2, 11, 13, 14, 15, 90, 94] [(0, (.slice Aa p0.length ca)), (1, (iv p1)), (2, (iv p2)), (11, (iv t41.1)), (13, (iv (w64 (1 + (Int.tmod (w64 (p4)) (w64 (p2 - 1))))))), (14, (pt g61)), (15, (pt g69)), (90, (.slice (subA Ac cc (0 : Int).toNat 1) (cut p3.East (0 : Int) (w64 (1 + (Int.tmod (w64 (p4)) (w64 (p2 - 1)))))).length (cc - (0 : Int).toNat))), (94, (.slice (subA Ac cc (w64 (1 + (Int.tmod (w64 (p4)) (w64 (p2 - 1))))).toNat 1) ((p3.East.length : Int).toNat - (w64 (1 + (Int.tmod (w64 (p4)) (w64 (p2 - 1))))).toNat) (cc - (w64 (1 + (Int.tmod (w64 (p4)) (w64 (p2 - 1))))).toNat)))] [(0, (.slice Aa p0.length ca)), (1, (iv p1)), (2, (iv p2)), (11, (iv t41.1)), (13, (iv (w64 (1 + (Int.tmod (w64 (p4)) (w64 (p2 - 1))))))), (14, (pt g61)), (15, (pt g69)), (90, (.slice (subA Ac cc (0 : Int).toNat 1) (cut p3.East (0 : Int) (w64 (1 + (Int.tmod (w64 (p4)) (w64 (p2 - 1)))))).length (cc - (0 : Int).toNat))), (94, (.slice (subA Ac cc (w64 (1 + (Int.tmod (w64 (p4)) (w64 (p2 - 1))))).toNat 1) (cut p3.East (w64 (1 + (Int.tmod (w64 (p4)) (w64 (p2 - 1))))) (p3.East.length : Int)).length (cc - (w64 (1 + (Int.tmod (w64 (p4)) (w64 (p2 - 1))))).toNat)))] rfl (by rw [cut_length h149.1 h149.2.1 h149.2.2]) ?_
   have hS151 := hS150.cutR 5 rfl h149.1 h149.2.1 h149.2.2
   refine seg 9 [] [0, 1, 2, 11, 13, 14, 15, 90, 94, 95] [(0, (sv Aa p0 ca)), (1, (iv p1)), (2, (iv p2)), (11, (iv t41.1)), (13, (iv (w64 (1 + (Int.tmod (w64 (p4)) (w64 (p2 - 1))))))), (14, (pt g61)), (15, (pt g69)), (90, (sv (subA Ac cc (0 : Int).toNat 1) (cut p3.East (0 : Int) (w64 (1 + (Int.tmod (w64 (p4)) (w64 (p2 - 1)))))) (cc - (0 : Int).toNat))), (94, (sv (subA Ac cc (w64 (1 + (Int.tmod (w64 (p4)) (w64 (p2 - 1))))).toNat 1) (cut p3.East (w64 (1 + (Int.tmod (w64 (p4)) (w64 (p2 - 1))))) (p3.East.length : Int)) (cc - (w64 (1 + (Int.tmod (w64 (p4)) (w64 (p2 - 1))))).toNat))), (95, (.pointer (some ⟨g61, 1, none⟩)))] [] (fun fb => by kernel_rfl) rfl trivial ?_
   refine WL.store hS151 1 rfl [(1, (sv (subA Ac cc (0 : Int).toNat 1) (cut p3.East (0 : Int) (w64 (1 + (Int.tmod (w64 (p4)) (w64 (p2 - 1)))))) (cc - (0 : Int).toNat)))] #[(sv A62 x76.1 c63), (sv (subA Ac cc (0 : Int).toNat 1) (cut p3.East (0 : Int) (w64 (1 + (Int.tmod (w64 (p4)) (w64 (p2 - 1)))))) (cc - (0 : Int).toNat)), (sv Ad p3.South cd), (sv A116 x120.1 c117)] (fun fb => by kernel_rfl) (by kernel_rfl) rfl [0, 2, 3, 4, 5, 6] (by decide) (by decide) (fun w152 hS153 => ?_)
   refine ⟨⟨hS153.cell 1 rfl 1 rfl, trivial⟩, ?_⟩
   refine seg 11 [] [0, 1, 2, 11, 13, 14, 15, 94, 96] [(0, (sv Aa p0 ca)), (1, (iv p1)), (2, (iv p2)), (11, (iv t41.1)), (13, (iv (w64 (1 + (Int.tmod (w64 (p4)) (w64 (p2 - 1))))))), (14, (pt g61)), (15, (pt g69)), (94, (sv (subA Ac cc (w64 (1 + (Int.tmod (w64 (p4)) (w64 (p2 - 1))))).toNat 1) (cut p3.East (w64 (1 + (Int.tmod (w64 (p4)) (w64 (p2 - 1))))) (p3.East.length : Int)) (cc - (w64 (1 + (Int.tmod (w64 (p4)) (w64 (p2 - 1))))).toNat))), (96, (.pointer (some ⟨g69, 1, none⟩)))] [] (fun fb => by kernel_rfl) rfl trivial ?_
   refine WL.store hS153 4 rfl [(1, (sv (subA Ac cc (w64 (1 + (Int.tmod (w64 (p4)) (w64 (p2 - 1))))).toNat 1) (cut p3.East (w64 (1 + (Int.tmod (w64 (p4)) (w64 (p2 - 1))))) (p3.East.length : Int)) (cc - (w64 (1 + (Int.tmod (w64 (p4)) (w64 (p2 - 1))))).toNat)))] #[(sv Ab p3.North cb), (sv (subA Ac cc (w64 (1 + (Int.tmod (w64 (p4)) (w64 (p2 - 1))))).toNat 1) (cut p3.East (w64 (1 + (Int.tmod (w64 (p4)) (w64 (p2 - 1))))) (p3.East.length : Int)) (cc - (w64 (1 + (Int.tmod (w64 (p4)) (w64 (p2 - 1))))).toNat)), (sv A72 x76.2.2.2.2.1 c73), (sv A118 x120.2 c119)] (fun fb => by kernel_rfl) (by kernel_rfl) rfl [0, 1, 2, 3, 5, 6] (by decide) (by decide) (fun w154 hS155 => ?_)
   refine ⟨trivial, ?_⟩
   refine WL.done rfl ?_
   injection hx144 with hx144
   exact WX.to Kx143 (((cut p3.East (0 : Int) (w64 (1 + (Int.tmod (w64 (p4)) (w64 (p2 - 1)))))), (cut p3.East (w64 (1 + (Int.tmod (w64 (p4)) (w64 (p2 - 1))))) (p3.East.length : Int))), (subA Ac cc (0 : Int).toNat 1), (cc - (0 : Int).toNat), (subA Ac cc (w64 (1 + (Int.tmod (w64 (p4)) (w64 (p2 - 1))))).toNat 1), (cc - (w64 (1 + (Int.tmod (w64 (p4)) (w64 (p2 - 1))))).toNat)) [0, 1, 2, 11, 13, 14, 15] rfl ⟨(hS155.subR [1, 0, 2, 3, 4, 5, 6, 7, 8, 9]).sub [1, 3, 0, 6] (by decide), hx144.symm⟩
  refine WC.condF2 (fun fb => by kernel_rfl) h145 ?_
  refine WC.skip ?_
  have hS156 := hS136.freezeRow 3 rfl [0, 1, 2, 4, 5, 6] (by decide) (by decide)
  have hS157 := hS156.freezeRow 4 rfl [0, 1, 2, 3, 5] (by decide) (by decide)
  injection hx144 with hx144
  exact WX.to Kx143 ((x76.2.1, x76.2.2.2.1), A65, c66, A70, c71) [0, 1, 2, 11, 13, 14, 15] rfl ⟨(hS157.subR [1, 0, 2, 3, 4, 5, 6, 7, 8, 9]).sub [1, 2, 3, 4] (by decide), hx144.symm⟩
 rintro ⟨y161, A139, c140, A141, c142⟩ w158 ⟨hS159, hq160⟩
 subst hq160
 refine WX.next (WC.seq (WC.region ?_))
 refine seg 1 [] [0, 1, 2, 11, 13, 14, 15, 97] [(0, (sv Aa p0 ca)), (1, (iv p1)), (2, (iv p2)), (11, (iv t41.1)), (13, (iv (w64 (1 + (Int.tmod (w64 (p4)) (w64 (p2 - 1))))))), (14, (pt g61)), (15, (pt g69)), (97, (sv Aa p0 ca))] [] (fun fb => by kernel_rfl) rfl trivial ?_
 obtain ⟨t162, ht163, hf⟩ := bind_some hf
 refine WL.call (some 98) 38 #[(sv Aa p0 ca)] (fun fb => by kernel_rfl) (ref02_Colours_calls _ p0 Aa ca t162 _ (hS159.rd 4) ht163) (fun v w164 hR165 => ?_)
 obtain ⟨A167, c168, rfl, hk_⟩ := hR165
 have hS166 : St NoS w w164 [rowR encInt A139 c140 x143.1, rowR encInt A141 c142 x143.2, rowR encInt A116 c117 x120.1, rowR encInt A118 c119 x120.2, rowR enc_Tile Aa ca p0, rowR encInt Ab cb p3.North, rowR encInt Ac cc p3.East, rowR encInt Ad cd p3.South, rowR encInt Ae ce p3.West, cel ⟨2, 0, none⟩ (iv mG)] [rowO 3 encInt A167 c168 t162, blk g61 (.cells #[(.slice A62 x76.1.length c63), (.slice A139 x143.1.length c140), (.slice Ad p3.South.length cd), (.slice A116 x120.1.length c117)] 44 (0, 0)), rowO 3 encInt A62 c63 x76.1, blk g69 (.cells #[(.slice Ab p3.North.length cb), (.slice A141 x143.2.length c142), (.slice A72 x76.2.2.2.2.1.length c73), (.slice A118 x120.2.length c119)] 44 (0, 0)), rowO 3 encInt A72 c73 x76.2.2.2.2.1] := hS159.call hk_ [] [0, 1, 2, 3] (fun g hg => hg.elim) (by simp) (by decide)
 refine ⟨trivial, ?_⟩
 refine seg 3 [] [0, 1, 2, 11, 13, 14, 15, 98, 99] [(0, (sv Aa p0 ca)), (1, (iv p1)), (2, (iv p2)), (11, (iv t41.1)), (13, (iv (w64 (1 + (Int.tmod (w64 (p4)) (w64 (p2 - 1))))))), (14, (pt g61)), (15, (pt g69)), (98, (sv A167 t162 c168)), (99, (iv p1))] [] (fun fb => by kernel_rfl) rfl trivial ?_
 obtain ⟨t169, ht170, hf⟩ := bind_some hf
 refine WL.call (some 100) 39 #[(sv A167 t162 c168), (iv p1)] (fun fb => by kernel_rfl) (law02_lists_calls _ t162 p1 A167 c168 t169 _ (hS166.ow 0).ofO ht170) (fun v w171 hR172 => ?_)
 obtain ⟨A174, c175, H176, rfl, hk_⟩ := hR172
 have hS173 := hS166.go w171 [rowO 25 (encSl Int) A174 c175 (tag H176 t169), rowsO 3 encInt H176 t169, rowO 3 encInt A167 c168 t162, blk g61 (.cells #[(.slice A62 x76.1.length c63), (.slice A139 x143.1.length c140), (.slice Ad p3.South.length cd), (.slice A116 x120.1.length c117)] 44 (0, 0)), rowO 3 encInt A62 c63 x76.1, blk g69 (.cells #[(.slice Ab p3.North.length cb), (.slice A141 x143.2.length c142), (.slice A72 x76.2.2.2.2.1.length c73), (.slice A118 x120.2.length c119)] 44 (0, 0)), rowO 3 encInt A72 c73 x76.2.2.2.2.1] (hS166.call hk_ [] [0, 1, 2, 3, 4] (fun g hg => hg.elim) (by simp) (by decide))
 refine ⟨trivial, ?_⟩
 refine seg 5 [] [0, 1, 2, 11, 13, 14, 15, 16] [(0, (sv Aa p0 ca)), (1, (iv p1)), (2, (iv p2)), (11, (iv t41.1)), (13, (iv (w64 (1 + (Int.tmod (w64 (p4)) (w64 (p2 - 1))))))), (14, (pt g61)), (15, (pt g69)), (16, (sv A174 t169 c175))] [] (fun fb => by kernel_rfl) rfl trivial ?_
 refine WL.done rfl (WX.next (WC.seq (WC.region ?_)))
 refine seg 1 [] [0, 1, 2, 11, 13, 14, 15, 16, 17] [(0, (sv Aa p0 ca)), (1, (iv p1)), (2, (iv p2)), (11, (iv t41.1)), (13, (iv (w64 (1 + (Int.tmod (w64 (p4)) (w64 (p2 - 1))))))), (14, (pt g61)), (15, (pt g69)), (16, (sv A174 t169 c175)), (17, (iv 0))] [] (fun fb => by kernel_rfl) rfl trivial ?_
 refine WL.done rfl (WX.next (WC.seq (WC.seq (WC.region ?_))))
 refine seg 1 [] [0, 1, 2, 11, 13, 14, 15, 16, 17, 18] [(0, (sv Aa p0 ca)), (1, (iv p1)), (2, (iv p2)), (11, (iv t41.1)), (13, (iv (w64 (1 + (Int.tmod (w64 (p4)) (w64 (p2 - 1))))))), (14, (pt g61)), (15, (pt g69)), (16, (sv A174 t169 c175)), (17, (iv 0)), (18, (iv 0))] [] (fun fb => by kernel_rfl) rfl trivial ?_
 refine WL.done rfl (WX.next ?_)
 have hS177 : St NoS w w171 [rowsO 3 encInt H176 t169, rowR encInt A139 c140 x143.1, rowR encInt A141 c142 x143.2, rowR encInt A116 c117 x120.1, rowR encInt A118 c119 x120.2, rowR enc_Tile Aa ca p0, rowR encInt Ab cb p3.North, rowR encInt Ac cc p3.East, rowR encInt Ad cd p3.South, rowR encInt Ae ce p3.West, cel ⟨2, 0, none⟩ (iv mG)] [rowO 25 (encSl Int) A174 c175 (tag H176 t169), rowO 3 encInt A167 c168 t162, blk g61 (.cells #[(sv A62 x76.1 c63), (sv A139 x143.1 c140), (sv Ad p3.South cd), (sv A116 x120.1 c117)] 44 (0, 0)), rowO 3 encInt A62 c63 x76.1, blk g69 (.cells #[(sv Ab p3.North cb), (sv A141 x143.2 c142), (sv A72 x76.2.2.2.2.1 c73), (sv A118 x120.2 c119)] 44 (0, 0)), rowO 3 encInt A72 c73 x76.2.2.2.2.1] := hS173.freezeO 1 [0, 2, 3, 4, 5, 6] (by decide) (by decide)
 have hS178 : St NoS w w171 [rowR (encSl Int) A174 c175 (tag H176 t169), rowsO 3 encInt H176 t169, rowR encInt A139 c140 x143.1, rowR encInt A141 c142 x143.2, rowR encInt A116 c117 x120.1, rowR encInt A118 c119 x120.2, rowR enc_Tile Aa ca p0, rowR encInt Ab cb p3.North, rowR encInt Ac cc p3.East, rowR encInt Ad cd p3.South, rowR encInt Ae ce p3.West, cel ⟨2, 0, none⟩ (iv mG)] [rowO 3 encInt A167 c168 t162, blk g61 (.cells #[(sv A62 x76.1 c63), (sv A139 x143.1 c140), (sv Ad p3.South cd), (sv A116 x120.1 c117)] 44 (0, 0)), rowO 3 encInt A62 c63 x76.1, blk g69 (.cells #[(sv Ab p3.North cb), (sv A141 x143.2 c142), (sv A72 x76.2.2.2.2.1 c73), (sv A118 x120.2 c119)] 44 (0, 0)), rowO 3 encInt A72 c73 x76.2.2.2.2.1] := hS177.freezeRow 0 rfl [1, 2, 3, 4, 5] (by decide) (by decide)
 obtain ⟨x183, hx184, hf⟩ := bind_some hf
 refine WC.cutN (T := Int) (fun t => [(11, (iv t41.1)), (17, (iv t))]) (fun t w1 => St NoS w w1 [rowR (encSl Int) A174 c175 (tag H176 t169), rowsO 3 encInt H176 t169, rowR encInt A139 c140 x143.1, rowR encInt A141 c142 x143.2, rowR encInt A116 c117 x120.1, rowR encInt A118 c119 x120.2, rowR enc_Tile Aa ca p0, rowR encInt Ab cb p3.North, rowR encInt Ac cc p3.East, rowR encInt Ad cd p3.South, rowR encInt Ae ce p3.West, cel ⟨2, 0, none⟩ (iv mG)] [] ∧ x183 = .inr t) (fun Kx183 => ?_) ?_
 ·
  refine WC.block ?_
  refine WC.loop (T := (Int × Int) × Value × Value) (fun t => [(0, (sv Aa p0 ca)), (1, (iv p1)), (2, (iv p2)), (11, (iv t41.1)), (13, (iv (w64 (1 + (Int.tmod (w64 (p4)) (w64 (p2 - 1))))))), (14, (pt g61)), (15, (pt g69)), (16, (sv A174 t169 c175)), (17, (iv t.1.1)), (18, (iv t.1.2))]) (fun n t w1 => St NoS w w1 [rowR (encSl Int) A174 c175 (tag H176 t169), rowsO 3 encInt H176 t169, rowR encInt A139 c140 x143.1, rowR encInt A141 c142 x143.2, rowR encInt A116 c117 x120.1, rowR encInt A118 c119 x120.2, rowR enc_Tile Aa ca p0, rowR encInt Ab cb p3.North, rowR encInt Ac cc p3.East, rowR encInt Ad cd p3.South, rowR encInt Ae ce p3.West, cel ⟨2, 0, none⟩ (iv mG)] [blk g61 (.cells #[t.2.1, (sv A139 x143.1 c140), (sv Ad p3.South cd), (sv A116 x120.1 c117)] 44 (0, 0)), blk g69 (.cells #[(sv Ab p3.North cb), (sv A141 x143.2 c142), t.2.2, (sv A118 x120.2 c119)] 44 (0, 0))] ∧ law02_FillStacked.l0 n t.1.1 t.1.2 p0 p1 p2 p3 p4 t41 x120 x143 t169 = some x183) k ((0, 0), (sv A62 x76.1 c63), (sv A72 x76.2.2.2.2.1 c73)) [0, 1, 2, 11, 13, 14, 15, 16, 17, 18] rfl ⟨(hS178.subR [0, 1, 2, 3, 4, 5, 6, 7, 8, 9, 10, 11]).sub [1, 3] (by decide), hx184⟩ ?_
  rintro k185 ⟨⟨x181, x182⟩, v179, v180⟩ w186 ⟨hS187, hl188⟩
  cases k185 with
  | zero => rw [law02_FillStacked.l0] at hl188; cases hl188
  | succ k185 =>
   rw [law02_FillStacked.l0] at hl188
   refine WC.seq (WC.seq (WC.region ?_))
   refine seg 4 [] [0, 1, 2, 11, 13, 14, 15, 16, 17, 18, 104] [(0, (sv Aa p0 ca)), (1, (iv p1)), (2, (iv p2)), (11, (iv t41.1)), (13, (iv (w64 (1 + (Int.tmod (w64 (p4)) (w64 (p2 - 1))))))), (14, (pt g61)), (15, (pt g69)), (16, (sv A174 t169 c175)), (17, (iv x181)), (18, (iv x182)), (104, (bv (decide (x182 < (t169.length : Int)))))] [] (fun fb => by kernel_rfl) rfl trivial ?_
   refine WL.done rfl (WX.next ?_)
   rcases br_some hl188 with ⟨h189, hl188⟩ | ⟨h189, hl188⟩
   ·refine WC.condT2 (fun fb => by kernel_rfl) h189 ?_
    refine WC.skip (WX.next (WC.seq ?_))
    obtain ⟨x190, hx191, hl188⟩ := bind_some hl188
    refine WC.cutN (T := Int) (fun t => [(0, (sv Aa p0 ca)), (1, (iv p1)), (2, (iv p2)), (11, (iv t41.1)), (13, (iv (w64 (1 + (Int.tmod (w64 (p4)) (w64 (p2 - 1))))))), (14, (pt g61)), (15, (pt g69)), (16, (sv A174 t169 c175)), (17, (iv t)), (18, (iv x182))]) (fun t w1 => St NoS w w1 [rowR (encSl Int) A174 c175 (tag H176 t169), rowsO 3 encInt H176 t169, rowR encInt A139 c140 x143.1, rowR encInt A141 c142 x143.2, rowR encInt A116 c117 x120.1, rowR encInt A118 c119 x120.2, rowR enc_Tile Aa ca p0, rowR encInt Ab cb p3.North, rowR encInt Ac cc p3.East, rowR encInt Ad cd p3.South, rowR encInt Ae ce p3.West, cel ⟨2, 0, none⟩ (iv mG)] [blk g61 (.cells #[(sv ((H176 x182.toNat).1) (rdD t169 x182 []) ((H176 x182.toNat).2)), (sv A139 x143.1 c140), (sv Ad p3.South cd), (sv A116 x120.1 c117)] 44 (0, 0)), blk g69 (.cells #[(sv Ab p3.North cb), (sv A141 x143.2 c142), (sv ((H176 x182.toNat).1) (rdD t169 x182 []) ((H176 x182.toNat).2)), (sv A118 x120.2 c119)] 44 (0, 0))] ∧ x190 = .inr t) (fun Kx190 => ?_) ?_
    ·
     refine WC.block (WC.seq ?_)
     obtain ⟨h194, hx191⟩ := as_some hx191
     refine WC.regionD ([(3, ((adr A174).add ((x182).toNat * 1)), (sv ((H176 x182.toNat).1) (rdD t169 x182 []) ((H176 x182.toNat).2))), (7, ((adr A174).add ((x182).toNat * 1)), (sv ((H176 x182.toNat).1) (rdD t169 x182 []) ((H176 x182.toNat).2)))], [0, 1, 2, 3, 4, 5, 6, 7, 8, 10], [[], [], [0, 1], [0, 1, 2], [], [], [4, 5], [4, 5, 6], [0, 1, 2, 3], [0, 1, 2, 3, 8], [0, 1, 2, 3, 4, 5, 6, 7, 8, 9], [0, 1, 2, 3, 4, 5, 6, 7, 8, 9, 10]]) [[0, 1, 2, 3, 4, 5, 6, 7, 8, 9, 10, 11]] (by kernel_rfl) (by kernel_rfl) (NoPanic.seq (NoPanic.block (NoPanic.seq (NoPanic.seq (NoPanic.block (NoPanic.seq (NoPanic.body))))))) ?_
     have hS193 := hS187.drew
     revert hS193
     generalize World.drew w186 = w192
     intro hS193
     refine ⟨⟨nrow_cell (hS193.rd 0).1 [] h194.1 h194.2 0 rfl, nrow_cell (hS193.rd 0).1 [] h194.1 h194.2 0 rfl, trivial⟩, forallC ?_ (forallN)⟩
     refine segF 9 [.v (sv ((H176 x182.toNat).1) (rdD t169 x182 []) ((H176 x182.toNat).2)), .v (sv ((H176 x182.toNat).1) (rdD t169 x182 []) ((H176 x182.toNat).2))] [0, 1, 2, 11, 13, 14, 15, 16, 17, 18, 110, 114, 115] [(0, (sv Aa p0 ca)), (1, (iv p1)), (2, (iv p2)), (11, (iv t41.1)), (13, (iv (w64 (1 + (Int.tmod (w64 (p4)) (w64 (p2 - 1))))))), (14, (pt g61)), (15, (pt g69)), (16, (sv A174 t169 c175)), (17, (iv x181)), (18, (iv x182)), (110, (sv ((H176 x182.toNat).1) (rdD t169 x182 []) ((H176 x182.toNat).2))), (114, (sv ((H176 x182.toNat).1) (rdD t169 x182 []) ((H176 x182.toNat).2))), (115, (pt g61))] [.idx A174 x182 t169.length, .idx A174 x182 t169.length] [0, 1] [(3, ((adr A174).add ((x182).toNat * 1)), (sv ((H176 x182.toNat).1) (rdD t169 x182 []) ((H176 x182.toNat).2))), (7, ((adr A174).add ((x182).toNat * 1)), (sv ((H176 x182.toNat).1) (rdD t169 x182 []) ((H176 x182.toNat).2)))] (fun fb => by kernel_rfl) rfl ⟨nrow_adr (hS193.rd 0).1 h194.1 h194.2, nrow_adr (hS193.rd 0).1 h194.1 h194.2, trivial⟩ rfl ?_
     have hS195 : St NoS w w192 [rowR encInt ((H176 x182.toNat).1) ((H176 x182.toNat).2) (rdD t169 x182 []), rowR (encSl Int) A174 c175 (tag H176 t169), rowsO 3 encInt H176 t169, rowR encInt A139 c140 x143.1, rowR encInt A141 c142 x143.2, rowR encInt A116 c117 x120.1, rowR encInt A118 c119 x120.2, rowR enc_Tile Aa ca p0, rowR encInt Ab cb p3.North, rowR encInt Ac cc p3.East, rowR encInt Ad cd p3.South, rowR encInt Ae ce p3.West, cel ⟨2, 0, none⟩ (iv mG)] [blk g61 (.cells #[v179, (sv A139 x143.1 c140), (sv Ad p3.South cd), (sv A116 x120.1 c117)] 44 (0, 0)), blk g69 (.cells #[(sv Ab p3.North cb), (sv A141 x143.2 c142), v180, (sv A118 x120.2 c119)] 44 (0, 0))] := hS193.addR _ (rowsO.ro (hS193.rdL 1) h194.1 h194.2).ofO
     refine WL.store hS195 0 rfl [(0, (sv ((H176 x182.toNat).1) (rdD t169 x182 []) ((H176 x182.toNat).2)))] #[(sv ((H176 x182.toNat).1) (rdD t169 x182 []) ((H176 x182.toNat).2)), (sv A139 x143.1 c140), (sv Ad p3.South cd), (sv A116 x120.1 c117)] (fun fb => by kernel_rfl) (by kernel_rfl) rfl [1] (by decide) (by decide) (fun w196 hS197 => ?_)
     refine ⟨⟨nrow_cell (hS197.rd 1).1 [] h194.1 h194.2 0 rfl, trivial⟩, ?_⟩
     refine seg 11 [] [0, 1, 2, 11, 13, 14, 15, 16, 17, 18, 114, 116] [(0, (sv Aa p0 ca)), (1, (iv p1)), (2, (iv p2)), (11, (iv t41.1)), (13, (iv (w64 (1 + (Int.tmod (w64 (p4)) (w64 (p2 - 1))))))), (14, (pt g61)), (15, (pt g69)), (16, (sv A174 t169 c175)), (17, (iv x181)), (18, (iv x182)), (114, (sv ((H176 x182.toNat).1) (rdD t169 x182 []) ((H176 x182.toNat).2))), (116, (.pointer (some ⟨g69, 2, none⟩)))] [] (fun fb => by kernel_rfl) rfl trivial ?_
     have hS198 : St NoS w w196 [rowR encInt ((H176 x182.toNat).1) ((H176 x182.toNat).2) (rdD t169 x182 []), rowR encInt ((H176 x182.toNat).1) ((H176 x182.toNat).2) (rdD t169 x182 []), rowR (encSl Int) A174 c175 (tag H176 t169), rowsO 3 encInt H176 t169, rowR encInt A139 c140 x143.1, rowR encInt A141 c142 x143.2, rowR encInt A116 c117 x120.1, rowR encInt A118 c119 x120.2, rowR enc_Tile Aa ca p0, rowR encInt Ab cb p3.North, rowR encInt Ac cc p3.East, rowR encInt Ad cd p3.South, rowR encInt Ae ce p3.West, cel ⟨2, 0, none⟩ (iv mG)] [blk g61 (.cells #[(sv ((H176 x182.toNat).1) (rdD t169 x182 []) ((H176 x182.toNat).2)), (sv A139 x143.1 c140), (sv Ad p3.South cd), (sv A116 x120.1 c117)] 44 (0, 0)), blk g69 (.cells #[(sv Ab p3.North cb), (sv A141 x143.2 c142), v180, (sv A118 x120.2 c119)] 44 (0, 0))] := hS197.addR _ (rowsO.ro (hS197.rdL 2) h194.1 h194.2).ofO
     refine WL.store hS198 1 rfl [(2, (sv ((H176 x182.toNat).1) (rdD t169 x182 []) ((H176 x182.toNat).2)))] #[(sv Ab p3.North cb), (sv A141 x143.2 c142), (sv ((H176 x182.toNat).1) (rdD t169 x182 []) ((H176 x182.toNat).2)), (sv A118 x120.2 c119)] (fun fb => by kernel_rfl) (by kernel_rfl) rfl [0] (by decide) (by decide) (fun w199 hS200 => ?_)
     refine ⟨trivial, ?_⟩
     refine WL.done rfl (WX.next (WC.seq (WC.region ?_)))
     refine seg 4 [.v (sv ((H176 x182.toNat).1) (rdD t169 x182 []) ((H176 x182.toNat).2)), .v (sv A139 x143.1 c140), .v (sv Ad p3.South cd), .v (sv A116 x120.1 c117)] [0, 1, 2, 11, 13, 14, 15, 16, 17, 18, 118, 119, 120, 121] [(0, (sv Aa p0 ca)), (1, (iv p1)), (2, (iv p2)), (11, (iv t41.1)), (13, (iv (w64 (1 + (Int.tmod (w64 (p4)) (w64 (p2 - 1))))))), (14, (pt g61)), (15, (pt g69)), (16, (sv A174 t169 c175)), (17, (iv x181)), (18, (iv x182)), (118, (sv Aa p0 ca)), (119, (iv p1)), (120, (iv (w64 (1 + (Int.tmod (w64 (p4)) (w64 (p2 - 1))))))), (121, (.agg #[(sv ((H176 x182.toNat).1) (rdD t169 x182 []) ((H176 x182.toNat).2)), (sv A139 x143.1 c140), (sv Ad p3.South cd), (sv A116 x120.1 c117)]))] [.cell ⟨g61, 0, none⟩ (sv ((H176 x182.toNat).1) (rdD t169 x182 []) ((H176 x182.toNat).2)), .cell ⟨g61, 1, none⟩ (sv A139 x143.1 c140), .cell ⟨g61, 2, none⟩ (sv Ad p3.South cd), .cell ⟨g61, 3, none⟩ (sv A116 x120.1 c117)] (fun fb => by kernel_rfl) rfl ⟨hS200.cell 1 rfl 0 rfl, hS200.cell 1 rfl 1 rfl, hS200.cell 1 rfl 2 rfl, hS200.cell 1 rfl 3 rfl, trivial⟩ ?_
     obtain ⟨t201, ht202, hx191⟩ := bind_some hx191
     refine WL.call (some 122) 28 #[(sv Aa p0 ca), (iv p1), (iv (w64 (1 + (Int.tmod (w64 (p4)) (w64 (p2 - 1)))))), (.agg #[(sv ((H176 x182.toNat).1) (rdD t169 x182 []) ((H176 x182.toNat).2)), (sv A139 x143.1 c140), (sv Ad p3.South cd), (sv A116 x120.1 c117)])] (fun fb => by kernel_rfl) (fill_Count_calls _ p0 p1 (w64 (1 + (Int.tmod (w64 (p4)) (w64 (p2 - 1))))) (Edges.mk (rdD t169 x182 []) x143.1 p3.South x120.1) Aa ca ((H176 x182.toNat).1) ((H176 x182.toNat).2) A139 c140 Ad cd A116 c117 t201 _ (hS200.rd 8) (hS200.rd 1) (hS200.rd 4) (hS200.rd 11) (hS200.rd 6) ht202) (fun v w203 hR204 => ?_)
     obtain ⟨rfl, hk_⟩ := hR204
     have hS205 := hS200.keepN hk_
     refine ⟨trivial, ?_⟩
     refine seg 10 [] [0, 1, 2, 11, 13, 14, 15, 16, 17, 18, 19, 20] [(0, (sv Aa p0 ca)), (1, (iv p1)), (2, (iv p2)), (11, (iv t41.1)), (13, (iv (w64 (1 + (Int.tmod (w64 (p4)) (w64 (p2 - 1))))))), (14, (pt g61)), (15, (pt g69)), (16, (sv A174 t169 c175)), (17, (iv x181)), (18, (iv x182)), (19, (iv t201.1)), (20, (iv t201.2))] [] (fun fb => by kernel_rfl) rfl trivial ?_
     refine WL.done rfl (WX.next (WC.seq (WC.region ?_)))
     refine seg 6 [.v (sv Ab p3.North cb), .v (sv A141 x143.2 c142), .v (sv ((H176 x182.toNat).1) (rdD t169 x182 []) ((H176 x182.toNat).2)), .v (sv A118 x120.2 c119)] [0, 1, 2, 11, 13, 14, 15, 16, 17, 18, 19, 20, 126, 127, 130, 131] [(0, (sv Aa p0 ca)), (1, (iv p1)), (2, (iv p2)), (11, (iv t41.1)), (13, (iv (w64 (1 + (Int.tmod (w64 (p4)) (w64 (p2 - 1))))))), (14, (pt g61)), (15, (pt g69)), (16, (sv A174 t169 c175)), (17, (iv x181)), (18, (iv x182)), (19, (iv t201.1)), (20, (iv t201.2)), (126, (sv Aa p0 ca)), (127, (iv p1)), (130, (iv (w64 (p2 - (w64 (1 + (Int.tmod (w64 (p4)) (w64 (p2 - 1))))))))), (131, (.agg #[(sv Ab p3.North cb), (sv A141 x143.2 c142), (sv ((H176 x182.toNat).1) (rdD t169 x182 []) ((H176 x182.toNat).2)), (sv A118 x120.2 c119)]))] [.cell ⟨g69, 0, none⟩ (sv Ab p3.North cb), .cell ⟨g69, 1, none⟩ (sv A141 x143.2 c142), .cell ⟨g69, 2, none⟩ (sv ((H176 x182.toNat).1) (rdD t169 x182 []) ((H176 x182.toNat).2)), .cell ⟨g69, 3, none⟩ (sv A118 x120.2 c119)] (fun fb => by kernel_rfl) rfl ⟨hS205.cell 0 rfl 0 rfl, hS205.cell 0 rfl 1 rfl, hS205.cell 0 rfl 2 rfl, hS205.cell 0 rfl 3 rfl, trivial⟩ ?_
     obtain ⟨t206, ht207, hx191⟩ := bind_some hx191
     refine WL.call (some 132) 28 #[(sv Aa p0 ca), (iv p1), (iv (w64 (p2 - (w64 (1 + (Int.tmod (w64 (p4)) (w64 (p2 - 1)))))))), (.agg #[(sv Ab p3.North cb), (sv A141 x143.2 c142), (sv ((H176 x182.toNat).1) (rdD t169 x182 []) ((H176 x182.toNat).2)), (sv A118 x120.2 c119)])] (fun fb => by kernel_rfl) (fill_Count_calls _ p0 p1 (w64 (p2 - (w64 (1 + (Int.tmod (w64 (p4)) (w64 (p2 - 1))))))) (Edges.mk p3.North x143.2 (rdD t169 x182 []) x120.2) Aa ca Ab cb A141 c142 ((H176 x182.toNat).1) ((H176 x182.toNat).2) A118 c119 t206 _ (hS205.rd 8) (hS205.rd 9) (hS205.rd 5) (hS205.rd 0) (hS205.rd 7) ht207) (fun v w208 hR209 => ?_)
     obtain ⟨rfl, hk_⟩ := hR209
     have hS210 := hS205.keepN hk_
     refine ⟨trivial, ?_⟩
     refine seg 12 [] [0, 1, 2, 11, 13, 14, 15, 16, 17, 18, 19, 20, 21, 22] [(0, (sv Aa p0 ca)), (1, (iv p1)), (2, (iv p2)), (11, (iv t41.1)), (13, (iv (w64 (1 + (Int.tmod (w64 (p4)) (w64 (p2 - 1))))))), (14, (pt g61)), (15, (pt g69)), (16, (sv A174 t169 c175)), (17, (iv x181)), (18, (iv x182)), (19, (iv t201.1)), (20, (iv t201.2)), (21, (iv t206.1)), (22, (iv t206.2))] [] (fun fb => by kernel_rfl) rfl trivial ?_
     refine WL.done rfl (WX.next (WC.seq (WC.seq (WC.region ?_))))
     refine seg 3 [] [0, 1, 2, 11, 13, 14, 15, 16, 17, 18, 19, 20, 21, 22, 137] [(0, (sv Aa p0 ca)), (1, (iv p1)), (2, (iv p2)), (11, (iv t41.1)), (13, (iv (w64 (1 + (Int.tmod (w64 (p4)) (w64 (p2 - 1))))))), (14, (pt g61)), (15, (pt g69)), (16, (sv A174 t169 c175)), (17, (iv x181)), (18, (iv x182)), (19, (iv t201.1)), (20, (iv t201.2)), (21, (iv t206.1)), (22, (iv t206.2)), (137, (bv (t201.1 == 0)))] [] (fun fb => by kernel_rfl) rfl trivial ?_
     refine WL.cutV (T := Bool) 6 (fun t => [(140, (bv t)), (0, (sv Aa p0 ca)), (1, (iv p1)), (2, (iv p2)), (11, (iv t41.1)), (13, (iv (w64 (1 + (Int.tmod (w64 (p4)) (w64 (p2 - 1))))))), (14, (pt g61)), (15, (pt g69)), (16, (sv A174 t169 c175)), (17, (iv x181)), (18, (iv x182)), (19, (iv t201.1)), (20, (iv t201.2)), (21, (iv t206.1)), (22, (iv t206.2))]) (fun t => ((t201.1 == 0) && (t201.2 == 0)) = t) (fun K => ?_) ?_
     ·
      rcases Bool.eq_false_or_eq_true (t201.1 == 0) with h211 | h211
      ·
       refine WL.setB 137 h211 rfl ?_
       refine seg 6 [] [0, 1, 2, 11, 13, 14, 15, 16, 17, 18, 19, 20, 21, 22, 140] [(0, (sv Aa p0 ca)), (1, (iv p1)), (2, (iv p2)), (11, (iv t41.1)), (13, (iv (w64 (1 + (Int.tmod (w64 (p4)) (w64 (p2 - 1))))))), (14, (pt g61)), (15, (pt g69)), (16, (sv A174 t169 c175)), (17, (iv x181)), (18, (iv x182)), (19, (iv t201.1)), (20, (iv t201.2)), (21, (iv t206.1)), (22, (iv t206.2)), (140, (bv (t201.2 == 0)))] [] (fun fb => by kernel_rfl) rfl trivial ?_
       exact WL.toV K (t201.2 == 0) [140, 0, 1, 2, 11, 13, 14, 15, 16, 17, 18, 19, 20, 21, 22] rfl (by first | (rw [h211]; done) | (rw [h211]; rfl))
      refine WL.setB 137 h211 rfl ?_
      refine seg 6 [] [0, 1, 2, 11, 13, 14, 15, 16, 17, 18, 19, 20, 21, 22, 140] [(0, (sv Aa p0 ca)), (1, (iv p1)), (2, (iv p2)), (11, (iv t41.1)), (13, (iv (w64 (1 + (Int.tmod (w64 (p4)) (w64 (p2 - 1))))))), (14, (pt g61)), (15, (pt g69)), (16, (sv A174 t169 c175)), (17, (iv x181)), (18, (iv x182)), (19, (iv t201.1)), (20, (iv t201.2)), (21, (iv t206.1)), (22, (iv t206.2)), (140, (bv false))] [] (fun fb => by kernel_rfl) rfl trivial ?_
      exact WL.toV K false [140, 0, 1, 2, 11, 13, 14, 15, 16, 17, 18, 19, 20, 21, 22] rfl (by first | (rw [h211]; done) | (rw [h211]; rfl))
     rintro b212 rfl
     refine seg 7 [] [0, 1, 2, 11, 13, 14, 15, 16, 17, 18, 19, 20, 21, 22, 141] [(0, (sv Aa p0 ca)), (1, (iv p1)), (2, (iv p2)), (11, (iv t41.1)), (13, (iv (w64 (1 + (Int.tmod (w64 (p4)) (w64 (p2 - 1))))))), (14, (pt g61)), (15, (pt g69)), (16, (sv A174 t169 c175)), (17, (iv x181)), (18, (iv x182)), (19, (iv t201.1)), (20, (iv t201.2)), (21, (iv t206.1)), (22, (iv t206.2)), (141, (bv ((t201.1 == 0) && (t201.2 == 0))))] [] (fun fb => by kernel_rfl) rfl trivial ?_
     refine WL.cutV (T := Bool) 14 (fun t => [(148, (bv t)), (0, (sv Aa p0 ca)), (1, (iv p1)), (2, (iv p2)), (11, (iv t41.1)), (13, (iv (w64 (1 + (Int.tmod (w64 (p4)) (w64 (p2 - 1))))))), (14, (pt g61)), (15, (pt g69)), (16, (sv A174 t169 c175)), (17, (iv x181)), (18, (iv x182)), (19, (iv t201.1)), (20, (iv t201.2)), (21, (iv t206.1)), (22, (iv t206.2))]) (fun t => (((t201.1 == 0) && (t201.2 == 0)) || ((t206.1 == 0) && (t206.2 == 0))) = t) (fun K => ?_) ?_
     ·
      rcases Bool.eq_false_or_eq_true ((t201.1 == 0) && (t201.2 == 0)) with h213 | h213
      ·
       refine WL.setB 141 h213 rfl ?_
       refine seg 14 [] [0, 1, 2, 11, 13, 14, 15, 16, 17, 18, 19, 20, 21, 22, 148] [(0, (sv Aa p0 ca)), (1, (iv p1)), (2, (iv p2)), (11, (iv t41.1)), (13, (iv (w64 (1 + (Int.tmod (w64 (p4)) (w64 (p2 - 1))))))), (14, (pt g61)), (15, (pt g69)), (16, (sv A174 t169 c175)), (17, (iv x181)), (18, (iv x182)), (19, (iv t201.1)), (20, (iv t201.2)), (21, (iv t206.1)), (22, (iv t206.2)), (148, (bv true))] [] (fun fb => by kernel_rfl) rfl trivial ?_
       exact WL.toV K true [148, 0, 1, 2, 11, 13, 14, 15, 16, 17, 18, 19, 20, 21, 22] rfl (by first | (rw [h213]; done) | (rw [h213]; rfl))
      refine WL.setB 141 h213 rfl ?_
      refine seg 10 [] [0, 1, 2, 11, 13, 14, 15, 16, 17, 18, 19, 20, 21, 22, 141, 144] [(0, (sv Aa p0 ca)), (1, (iv p1)), (2, (iv p2)), (11, (iv t41.1)), (13, (iv (w64 (1 + (Int.tmod (w64 (p4)) (w64 (p2 - 1))))))), (14, (pt g61)), (15, (pt g69)), (16, (sv A174 t169 c175)), (17, (iv x181)), (18, (iv x182)), (19, (iv t201.1)), (20, (iv t201.2)), (21, (iv t206.1)), (22, (iv t206.2)), (141, (bv false)), (144, (bv (t206.1 == 0)))] [] (fun fb => by kernel_rfl) rfl trivial ?_
      refine WL.cutV (T := Bool) 13 (fun t => [(147, (bv t)), (0, (sv Aa p0 ca)), (1, (iv p1)), (2, (iv p2)), (11, (iv t41.1)), (13, (iv (w64 (1 + (Int.tmod (w64 (p4)) (w64 (p2 - 1))))))), (14, (pt g61)), (15, (pt g69)), (16, (sv A174 t169 c175)), (17, (iv x181)), (18, (iv x182)), (19, (iv t201.1)), (20, (iv t201.2)), (21, (iv t206.1)), (22, (iv t206.2)), (141, (bv false))]) (fun t => ((t206.1 == 0) && (t206.2 == 0)) = t) (fun K => ?_) ?_
      ·
       rcases Bool.eq_false_or_eq_true (t206.1 == 0) with h214 | h214
       ·
        refine WL.setB 144 h214 rfl ?_
        refine seg 13 [] [0, 1, 2, 11, 13, 14, 15, 16, 17, 18, 19, 20, 21, 22, 141, 147] [(0, (sv Aa p0 ca)), (1, (iv p1)), (2, (iv p2)), (11, (iv t41.1)), (13, (iv (w64 (1 + (Int.tmod (w64 (p4)) (w64 (p2 - 1))))))), (14, (pt g61)), (15, (pt g69)), (16, (sv A174 t169 c175)), (17, (iv x181)), (18, (iv x182)), (19, (iv t201.1)), (20, (iv t201.2)), (21, (iv t206.1)), (22, (iv t206.2)), (141, (bv false)), (147, (bv (t206.2 == 0)))] [] (fun fb => by kernel_rfl) rfl trivial ?_
        exact WL.toV K (t206.2 == 0) [147, 0, 1, 2, 11, 13, 14, 15, 16, 17, 18, 19, 20, 21, 22, 141] rfl (by first | (rw [h214]; done) | (rw [h214]; rfl))
       refine WL.setB 144 h214 rfl ?_
       refine seg 13 [] [0, 1, 2, 11, 13, 14, 15, 16, 17, 18, 19, 20, 21, 22, 141, 147] [(0, (sv Aa p0 ca)), (1, (iv p1)), (2, (iv p2)), (11, (iv t41.1)), (13, (iv (w64 (1 + (Int.tmod (w64 (p4)) (w64 (p2 - 1))))))), (14, (pt g61)), (15, (pt g69)), (16, (sv A174 t169 c175)), (17, (iv x181)), (18, (iv x182)), (19, (iv t201.1)), (20, (iv t201.2)), (21, (iv t206.1)), (22, (iv t206.2)), (141, (bv false)), (147, (bv false))] [] (fun fb => by kernel_rfl) rfl trivial ?_
       exact WL.toV K false [147, 0, 1, 2, 11, 13, 14, 15, 16, 17, 18, 19, 20, 21, 22, 141] rfl (by first | (rw [h214]; done) | (rw [h214]; rfl))
      rintro b215 rfl
      refine seg 14 [] [0, 1, 2, 11, 13, 14, 15, 16, 17, 18, 19, 20, 21, 22, 148] [(0, (sv Aa p0 ca)), (1, (iv p1)), (2, (iv p2)), (11, (iv t41.1)), (13, (iv (w64 (1 + (Int.tmod (w64 (p4)) (w64 (p2 - 1))))))), (14, (pt g61)), (15, (pt g69)), (16, (sv A174 t169 c175)), (17, (iv x181)), (18, (iv x182)), (19, (iv t201.1)), (20, (iv t201.2)), (21, (iv t206.1)), (22, (iv t206.2)), (148, (bv ((t206.1 == 0) && (t206.2 == 0))))] [] (fun fb => by kernel_rfl) rfl trivial ?_
      exact WL.toV K ((t206.1 == 0) && (t206.2 == 0)) [148, 0, 1, 2, 11, 13, 14, 15, 16, 17, 18, 19, 20, 21, 22] rfl (by first | (rw [h213]; done) | (rw [h213]; rfl))
     rintro b216 rfl
     refine WL.done rfl (WX.next ?_)
     rcases br_some hx191 with ⟨h217, hx191⟩ | ⟨h217, hx191⟩
     ·refine WC.condT2 (fun fb => by kernel_rfl) h217 ?_
      refine WC.exit ?_
      injection hx191 with hx191
      exact WX.thenX (WX.blockHere (WX.to Kx190 x181 [0, 1, 2, 11, 13, 14, 15, 16, 17, 18] rfl ⟨(hS210.subR [2, 3, 4, 5, 6, 7, 8, 9, 10, 11, 12, 13]).sub [1, 0] (by decide), hx191.symm⟩))
     refine WC.condF2 (fun fb => by kernel_rfl) h217 ?_
     refine WC.skip (WX.next (WC.seq (WC.seq (WC.region ?_))))
     refine seg 3 [] [0, 1, 2, 11, 13, 14, 15, 16, 17, 18, 19, 21, 22, 151] [(0, (sv Aa p0 ca)), (1, (iv p1)), (2, (iv p2)), (11, (iv t41.1)), (13, (iv (w64 (1 + (Int.tmod (w64 (p4)) (w64 (p2 - 1))))))), (14, (pt g61)), (15, (pt g69)), (16, (sv A174 t169 c175)), (17, (iv x181)), (18, (iv x182)), (19, (iv t201.1)), (21, (iv t206.1)), (22, (iv t206.2)), (151, (bv (t201.2 != 0)))] [] (fun fb => by kernel_rfl) rfl trivial ?_
     refine WL.cutV (T := Bool) 6 (fun t => [(154, (bv t)), (0, (sv Aa p0 ca)), (1, (iv p1)), (2, (iv p2)), (11, (iv t41.1)), (13, (iv (w64 (1 + (Int.tmod (w64 (p4)) (w64 (p2 - 1))))))), (14, (pt g61)), (15, (pt g69)), (16, (sv A174 t169 c175)), (17, (iv x181)), (18, (iv x182)), (19, (iv t201.1)), (21, (iv t206.1))]) (fun t => ((t201.2 != 0) || (t206.2 != 0)) = t) (fun K => ?_) ?_
     ·
      rcases Bool.eq_false_or_eq_true (t201.2 != 0) with h218 | h218
      ·
       refine WL.setB 151 h218 rfl ?_
       refine seg 6 [] [0, 1, 2, 11, 13, 14, 15, 16, 17, 18, 19, 21, 154] [(0, (sv Aa p0 ca)), (1, (iv p1)), (2, (iv p2)), (11, (iv t41.1)), (13, (iv (w64 (1 + (Int.tmod (w64 (p4)) (w64 (p2 - 1))))))), (14, (pt g61)), (15, (pt g69)), (16, (sv A174 t169 c175)), (17, (iv x181)), (18, (iv x182)), (19, (iv t201.1)), (21, (iv t206.1)), (154, (bv true))] [] (fun fb => by kernel_rfl) rfl trivial ?_
       exact WL.toV K true [154, 0, 1, 2, 11, 13, 14, 15, 16, 17, 18, 19, 21] rfl (by first | (rw [h218]; done) | (rw [h218]; rfl))
      refine WL.setB 151 h218 rfl ?_
      refine seg 6 [] [0, 1, 2, 11, 13, 14, 15, 16, 17, 18, 19, 21, 154] [(0, (sv Aa p0 ca)), (1, (iv p1)), (2, (iv p2)), (11, (iv t41.1)), (13, (iv (w64 (1 + (Int.tmod (w64 (p4)) (w64 (p2 - 1))))))), (14, (pt g61)), (15, (pt g69)), (16, (sv A174 t169 c175)), (17, (iv x181)), (18, (iv x182)), (19, (iv t201.1)), (21, (iv t206.1)), (154, (bv (t206.2 != 0)))] [] (fun fb => by kernel_rfl) rfl trivial ?_
      exact WL.toV K (t206.2 != 0) [154, 0, 1, 2, 11, 13, 14, 15, 16, 17, 18, 19, 21] rfl (by first | (rw [h218]; done) | (rw [h218]; rfl))
     rintro b219 rfl
     refine seg 7 [] [0, 1, 2, 11, 13, 14, 15, 16, 17, 18, 19, 21, 155] [(0, (sv Aa p0 ca)), (1, (iv p1)), (2, (iv p2)), (11, (iv t41.1)), (13, (iv (w64 (1 + (Int.tmod (w64 (p4)) (w64 (p2 - 1))))))), (14, (pt g61)), (15, (pt g69)), (16, (sv A174 t169 c175)), (17, (iv x181)), (18, (iv x182)), (19, (iv t201.1)), (21, (iv t206.1)), (155, (bv ((t201.2 != 0) || (t206.2 != 0))))] [] (fun fb => by kernel_rfl) rfl trivial ?_
     refine WL.cutV (T := Bool) 10 (fun t => [(158, (bv t)), (0, (sv Aa p0 ca)), (1, (iv p1)), (2, (iv p2)), (11, (iv t41.1)), (13, (iv (w64 (1 + (Int.tmod (w64 (p4)) (w64 (p2 - 1))))))), (14, (pt g61)), (15, (pt g69)), (16, (sv A174 t169 c175)), (17, (iv x181)), (18, (iv x182)), (19, (iv t201.1)), (21, (iv t206.1))]) (fun t => (((t201.2 != 0) || (t206.2 != 0)) || (decide (t201.1 < 0))) = t) (fun K => ?_) ?_
     ·
      rcases Bool.eq_false_or_eq_true ((t201.2 != 0) || (t206.2 != 0)) with h220 | h220
      ·
       refine WL.setB 155 h220 rfl ?_
       refine seg 10 [] [0, 1, 2, 11, 13, 14, 15, 16, 17, 18, 19, 21, 158] [(0, (sv Aa p0 ca)), (1, (iv p1)), (2, (iv p2)), (11, (iv t41.1)), (13, (iv (w64 (1 + (Int.tmod (w64 (p4)) (w64 (p2 - 1))))))), (14, (pt g61)), (15, (pt g69)), (16, (sv A174 t169 c175)), (17, (iv x181)), (18, (iv x182)), (19, (iv t201.1)), (21, (iv t206.1)), (158, (bv true))] [] (fun fb => by kernel_rfl) rfl trivial ?_
       exact WL.toV K true [158, 0, 1, 2, 11, 13, 14, 15, 16, 17, 18, 19, 21] rfl (by first | (rw [h220]; done) | (rw [h220]; rfl))
      refine WL.setB 155 h220 rfl ?_
      refine seg 10 [] [0, 1, 2, 11, 13, 14, 15, 16, 17, 18, 19, 21, 158] [(0, (sv Aa p0 ca)), (1, (iv p1)), (2, (iv p2)), (11, (iv t41.1)), (13, (iv (w64 (1 + (Int.tmod (w64 (p4)) (w64 (p2 - 1))))))), (14, (pt g61)), (15, (pt g69)), (16, (sv A174 t169 c175)), (17, (iv x181)), (18, (iv x182)), (19, (iv t201.1)), (21, (iv t206.1)), (158, (bv (decide (t201.1 < 0))))] [] (fun fb => by kernel_rfl) rfl trivial ?_
      exact WL.toV K (decide (t201.1 < 0)) [158, 0, 1, 2, 11, 13, 14, 15, 16, 17, 18, 19, 21] rfl (by first | (rw [h220]; done) | (rw [h220]; rfl))
     rintro b221 rfl
     refine seg 11 [] [0, 1, 2, 11, 13, 14, 15, 16, 17, 18, 19, 21, 159] [(0, (sv Aa p0 ca)), (1, (iv p1)), (2, (iv p2)), (11, (iv t41.1)), (13, (iv (w64 (1 + (Int.tmod (w64 (p4)) (w64 (p2 - 1))))))), (14, (pt g61)), (15, (pt g69)), (16, (sv A174 t169 c175)), (17, (iv x181)), (18, (iv x182)), (19, (iv t201.1)), (21, (iv t206.1)), (159, (bv (((t201.2 != 0) || (t206.2 != 0)) || (decide (t201.1 < 0)))))] [] (fun fb => by kernel_rfl) rfl trivial ?_
     refine WL.cutV (T := Bool) 14 (fun t => [(162, (bv t)), (0, (sv Aa p0 ca)), (1, (iv p1)), (2, (iv p2)), (11, (iv t41.1)), (13, (iv (w64 (1 + (Int.tmod (w64 (p4)) (w64 (p2 - 1))))))), (14, (pt g61)), (15, (pt g69)), (16, (sv A174 t169 c175)), (17, (iv x181)), (18, (iv x182)), (19, (iv t201.1)), (21, (iv t206.1))]) (fun t => ((((t201.2 != 0) || (t206.2 != 0)) || (decide (t201.1 < 0))) || (decide (t206.1 < 0))) = t) (fun K => ?_) ?_
     ·
      rcases Bool.eq_false_or_eq_true (((t201.2 != 0) || (t206.2 != 0)) || (decide (t201.1 < 0))) with h222 | h222
      ·
       refine WL.setB 159 h222 rfl ?_
       refine seg 14 [] [0, 1, 2, 11, 13, 14, 15, 16, 17, 18, 19, 21, 162] [(0, (sv Aa p0 ca)), (1, (iv p1)), (2, (iv p2)), (11, (iv t41.1)), (13, (iv (w64 (1 + (Int.tmod (w64 (p4)) (w64 (p2 - 1))))))), (14, (pt g61)), (15, (pt g69)), (16, (sv A174 t169 c175)), (17, (iv x181)), (18, (iv x182)), (19, (iv t201.1)), (21, (iv t206.1)), (162, (bv true))] [] (fun fb => by kernel_rfl) rfl trivial ?_
       exact WL.toV K true [162, 0, 1, 2, 11, 13, 14, 15, 16, 17, 18, 19, 21] rfl (by first | (rw [h222]; done) | (rw [h222]; rfl))
      refine WL.setB 159 h222 rfl ?_
      refine seg 14 [] [0, 1, 2, 11, 13, 14, 15, 16, 17, 18, 19, 21, 162] [(0, (sv Aa p0 ca)), (1, (iv p1)), (2, (iv p2)), (11, (iv t41.1)), (13, (iv (w64 (1 + (Int.tmod (w64 (p4)) (w64 (p2 - 1))))))), (14, (pt g61)), (15, (pt g69)), (16, (sv A174 t169 c175)), (17, (iv x181)), (18, (iv x182)), (19, (iv t201.1)), (21, (iv t206.1)), (162, (bv (decide (t206.1 < 0))))] [] (fun fb => by kernel_rfl) rfl trivial ?_
      exact WL.toV K (decide (t206.1 < 0)) [162, 0, 1, 2, 11, 13, 14, 15, 16, 17, 18, 19, 21] rfl (by first | (rw [h222]; done) | (rw [h222]; rfl))
     rintro b223 rfl
     refine seg 15 [] [0, 1, 2, 11, 13, 14, 15, 16, 17, 18, 19, 21, 163] [(0, (sv Aa p0 ca)), (1, (iv p1)), (2, (iv p2)), (11, (iv t41.1)), (13, (iv (w64 (1 + (Int.tmod (w64 (p4)) (w64 (p2 - 1))))))), (14, (pt g61)), (15, (pt g69)), (16, (sv A174 t169 c175)), (17, (iv x181)), (18, (iv x182)), (19, (iv t201.1)), (21, (iv t206.1)), (163, (bv ((((t201.2 != 0) || (t206.2 != 0)) || (decide (t201.1 < 0))) || (decide (t206.1 < 0)))))] [] (fun fb => by kernel_rfl) rfl trivial ?_
     obtain ⟨b224, hv225, hx191⟩ := bind_some hx191
     refine WL.cutV (T := Unit) 21 (fun t => [(169, (bv b224)), (0, (sv Aa p0 ca)), (1, (iv p1)), (2, (iv p2)), (11, (iv t41.1)), (13, (iv (w64 (1 + (Int.tmod (w64 (p4)) (w64 (p2 - 1))))))), (14, (pt g61)), (15, (pt g69)), (16, (sv A174 t169 c175)), (17, (iv x181)), (18, (iv x182)), (19, (iv t201.1)), (21, (iv t206.1))]) (fun t => True) (fun K => ?_) ?_
     ·
      rcases br_some hv225 with ⟨h226, hv225⟩ | ⟨h226, hv225⟩
      ·
       refine WL.setB 163 h226 rfl ?_
       refine seg 21 [] [0, 1, 2, 11, 13, 14, 15, 16, 17, 18, 19, 21, 169] [(0, (sv Aa p0 ca)), (1, (iv p1)), (2, (iv p2)), (11, (iv t41.1)), (13, (iv (w64 (1 + (Int.tmod (w64 (p4)) (w64 (p2 - 1))))))), (14, (pt g61)), (15, (pt g69)), (16, (sv A174 t169 c175)), (17, (iv x181)), (18, (iv x182)), (19, (iv t201.1)), (21, (iv t206.1)), (169, (bv true))] [] (fun fb => by kernel_rfl) rfl trivial ?_
       injection hv225 with hv225
       subst hv225
       exact WL.toV K () [169, 0, 1, 2, 11, 13, 14, 15, 16, 17, 18, 19, 21] rfl trivial
      refine WL.setB 163 h226 rfl ?_
      refine seg 18 [] [0, 1, 2, 11, 13, 14, 15, 16, 17, 18, 19, 21, 163, 164, 165, 166] [(0, (sv Aa p0 ca)), (1, (iv p1)), (2, (iv p2)), (11, (iv t41.1)), (13, (iv (w64 (1 + (Int.tmod (w64 (p4)) (w64 (p2 - 1))))))), (14, (pt g61)), (15, (pt g69)), (16, (sv A174 t169 c175)), (17, (iv x181)), (18, (iv x182)), (19, (iv t201.1)), (21, (iv t206.1)), (163, (bv false)), (164, (iv t201.1)), (165, (iv t41.1)), (166, (iv t206.1))] [] (fun fb => by kernel_rfl) rfl trivial ?_
      obtain ⟨h227, hv225⟩ := as_some hv225
      refine seg 21 [] [0, 1, 2, 11, 13, 14, 15, 16, 17, 18, 19, 21, 169] [(0, (sv Aa p0 ca)), (1, (iv p1)), (2, (iv p2)), (11, (iv t41.1)), (13, (iv (w64 (1 + (Int.tmod (w64 (p4)) (w64 (p2 - 1))))))), (14, (pt g61)), (15, (pt g69)), (16, (sv A174 t169 c175)), (17, (iv x181)), (18, (iv x182)), (19, (iv t201.1)), (21, (iv t206.1)), (169, (bv (decide (t201.1 > w64 (Int.tdiv t41.1 t206.1)))))] [.ne t206.1] (fun fb => by kernel_rfl) rfl ⟨h227, trivial⟩ ?_
      injection hv225 with hv225
      subst hv225
      exact WL.toV K () [169, 0, 1, 2, 11, 13, 14, 15, 16, 17, 18, 19, 21] rfl trivial
     rintro _ _
     refine WL.done rfl (WX.next ?_)
     rcases br_some hx191 with ⟨h228, hx191⟩ | ⟨h228, hx191⟩
     ·refine WC.condT2 (fun fb => by kernel_rfl) h228 ?_
      refine WC.seq (WC.region ?_)
      refine seg 1 [] [10] [(10, (bv false))] [] (fun fb => by kernel_rfl) rfl trivial ?_
      refine WL.done rfl (WX.next ?_)
      refine WC.ret ?_
      injection hx191 with hx191
      subst hx191
      injection hl188 with hl188
      subst hl188
      injection hf with hf
      subst hf
      exact WX.thenR (WX.blockR (WX.thenR (WX.thenR (WX.blockR (WX.thenR (WX.ret_ [] (bv false) [] (fun fb => by kernel_rfl) trivial ⟨_, rfl, rfl, hS210.keep⟩))))))
     refine WC.condF2 (fun fb => by kernel_rfl) h228 ?_
     refine WC.skip (WX.next (WC.region ?_))
     refine seg 7 [] [0, 1, 2, 11, 13, 14, 15, 16, 17, 18] [(0, (sv Aa p0 ca)), (1, (iv p1)), (2, (iv p2)), (11, (iv t41.1)), (13, (iv (w64 (1 + (Int.tmod (w64 (p4)) (w64 (p2 - 1))))))), (14, (pt g61)), (15, (pt g69)), (16, (sv A174 t169 c175)), (17, (iv (minI (w64 (x181 + (w64 (t201.1 * t206.1)))) 1152921504606846977))), (18, (iv x182))] [] (fun fb => by kernel_rfl) rfl trivial ?_
     refine WL.done rfl ?_
     injection hx191 with hx191
     exact WX.blockN (WX.to Kx190 (minI (w64 (x181 + (w64 (t201.1 * t206.1)))) 1152921504606846977) [0, 1, 2, 11, 13, 14, 15, 16, 17, 18] rfl ⟨(hS210.subR [2, 3, 4, 5, 6, 7, 8, 9, 10, 11, 12, 13]).sub [1, 0] (by decide), hx191.symm⟩)
    rintro y232 w229 ⟨hS230, hq231⟩
    subst hq231
    have hl188 := sum_inr hl188
    refine WX.next (WC.region ?_)
    refine seg 3 [] [0, 1, 2, 11, 13, 14, 15, 16, 17, 18] [(0, (sv Aa p0 ca)), (1, (iv p1)), (2, (iv p2)), (11, (iv t41.1)), (13, (iv (w64 (1 + (Int.tmod (w64 (p4)) (w64 (p2 - 1))))))), (14, (pt g61)), (15, (pt g69)), (16, (sv A174 t169 c175)), (17, (iv y232)), (18, (iv (w64 (x182 + 1))))] [] (fun fb => by kernel_rfl) rfl trivial ?_
    refine WL.done rfl ?_
    exact WX.again k185 (Nat.lt_succ_self _) ((y232, w64 (x182 + 1)), (sv ((H176 x182.toNat).1) (rdD t169 x182 []) ((H176 x182.toNat).2)), (sv ((H176 x182.toNat).1) (rdD t169 x182 []) ((H176 x182.toNat).2))) [0, 1, 2, 11, 13, 14, 15, 16, 17, 18] rfl ⟨(hS230.subR [0, 1, 2, 3, 4, 5, 6, 7, 8, 9, 10, 11]).sub [0, 1] (by decide), hl188⟩
   refine WC.condF2 (fun fb => by kernel_rfl) h189 ?_
   refine WC.exit ?_
   injection hl188 with hl188
   exact WX.thenX (WX.thenX (WX.blockHere (WX.to Kx183 x181 [11, 17] rfl ⟨(hS187.subR [0, 1, 2, 3, 4, 5, 6, 7, 8, 9, 10, 11]).sub [] (by decide), hl188.symm⟩)))
 rintro y236 w233 ⟨hS234, hq235⟩
 subst hq235
 have hf := sum_inr hf
 refine WX.next (WC.seq (WC.region ?_))
 refine seg 4 [] [179] [(179, (bv (y236 == t41.1)))] [] (fun fb => by kernel_rfl) rfl trivial ?_
 obtain ⟨x237, hx238, hf⟩ := bind_some hf
 refine WL.cutW (T := Bool) 6 (fun t => [(181, (bv t))]) (fun t w1 => (St NoS w w1 [rowR (encSl Int) A174 c175 (tag H176 t169), rowsO 3 encInt H176 t169, rowR encInt A139 c140 x143.1, rowR encInt A141 c142 x143.2, rowR encInt A116 c117 x120.1, rowR encInt A118 c119 x120.2, rowR enc_Tile Aa ca p0, rowR encInt Ab cb p3.North, rowR encInt Ac cc p3.East, rowR encInt Ad cd p3.South, rowR encInt Ae ce p3.West, cel ⟨2, 0, none⟩ (iv mG)] [] ∧ x237 = t) ∧ CellsOK [] w1) (fun K => ?_) ?_
 ·
  rcases br_some hx238 with ⟨h239, hx238⟩ | ⟨h239, hx238⟩
  ·
   refine WL.setB 179 h239 rfl ?_
   obtain ⟨t240, ht241, hx238⟩ := bind_some hx238
   refine WL.call (some 180) 26 #[] (fun fb => by kernel_rfl) (law02_awake_calls _ mG t240 _ (hS234.rd 11) ht241) (fun v w242 hR243 => ?_)
   obtain ⟨rfl, hk_⟩ := hR243
   have hS244 := hS234.keepN hk_
   refine ⟨trivial, ?_⟩
   refine seg 6 [] [181] [(181, (bv t240))] [] (fun fb => by kernel_rfl) rfl trivial ?_
   injection hx238 with hx238
   exact WL.to K t240 [181] rfl ⟨⟨(hS244.subR [0, 1, 2, 3, 4, 5, 6, 7, 8, 9, 10, 11]).sub [] (by decide), hx238.symm⟩, trivial⟩
  refine WL.setB 179 h239 rfl ?_
  refine seg 6 [] [181] [(181, (bv false))] [] (fun fb => by kernel_rfl) rfl trivial ?_
  injection hx238 with hx238
  exact WL.to K false [181] rfl ⟨⟨(hS234.subR [0, 1, 2, 3, 4, 5, 6, 7, 8, 9, 10, 11]).sub [] (by decide), hx238.symm⟩, trivial⟩
 rintro y245 w247 ⟨⟨hS248, hq246⟩, hF249⟩
 subst hq246
 refine seg 7 [] [10] [(10, (bv x237))] [] (fun fb => by kernel_rfl) rfl trivial ?_
 refine WL.done rfl (WX.next ?_)
 refine WC.ret ?_
 injection hf with hf
 subst hf
 exact WX.ret_ [] (bv x237) [] (fun fb => by kernel_rfl) trivial ⟨_, rfl, rfl, hS248.keep⟩
end Gp
