/- Walks: each function of the program computes its plain function. -/
import Derived.Test.YtjfmjfheeijfiaaDoorGx2
set_option linter.unusedVariables false
set_option linter.unusedSimpArgs false
set_option maxHeartbeats 4000000
namespace Gp
open Go Gw Go.Proofs
theorem law02_lists_calls (k : Nat) (p0 : List Int) (p1 : Int) (Aa : Option Addr) (ca : Nat) (r : (List (List Int))) (w : World) (hR0 : RO NoS w (rowR encInt Aa ca p0)) (hf : law02_lists k p0 p1 = some r) :
  CallsR Tryd.prog 39 #[(sv Aa p0 ca), (iv p1)] w (fun v w' => ∃ (A1_ : Option Addr), ∃ (c1_ : Nat), ∃ (z1_ : HF), v = (sv A1_ r c1_) ∧ St NoS w w' [] [rowO 25 (encSl Int) A1_ c1_ (tag z1_ r), rowsO 3 encInt z1_ r]) := by
 have hS : St NoS w w [rowR encInt Aa ca p0] [] := St.init (ro_cons hR0 (ro_nil _ _))
 refine enter 46 Tryd.func39 rfl Tryd.ntmps39 rfl ?_
 unfold law02_lists at hf
 refine WC.seq (WC.region ?_)
 refine seg 1 [] [0, 1] [(0, (sv Aa p0 ca)), (1, (iv p1))] [] (fun fb => by kernel_rfl) rfl trivial ?_
 refine WL.done rfl (WX.next (WC.seq (WC.region ?_)))
 refine WL.new hS 10 [] (fun g => (.slice (some ⟨g, 0, none⟩) 0 0)) (.cells #[] 3 (0, 0)) [] (fun fb g => by kernel_rfl) trivial (fun g3 w4 hS5 => ?_)
 refine ⟨trivial, ?_⟩
 have hS6 := hS.go w4 [rowO 3 encInt (some ⟨g3, 0, none⟩) 0 ([] : List Int)] (hS5.map1 0 _ (fun h => rowO.ofBlk h rfl (Nat.le_of_ble_eq_true (by kernel_rfl))) (fun _ h => by obtain ⟨_, h1, h2⟩ := h; injection h1 with h1; subst h1; exact h2) [] (by decide) (by decide))
 refine WL.new hS6 11 [] (fun g => (.slice (some ⟨g, 0, none⟩) 1 1)) (.cells #[(sv (some ⟨g3, 0, none⟩) ([] : List Int) 0)] 25 (0, 0)) [] (fun fb g => by kernel_rfl) trivial (fun g7 w8 hS9 => ?_)
 refine ⟨trivial, ?_⟩
 have hS10 := hS6.go w8 [rowO 25 (encSl Int) (some ⟨g7, 0, none⟩) 1 (tag (fun _ => ((some ⟨g3, 0, none⟩), 0)) [([] : List Int)]), rowO 3 encInt (some ⟨g3, 0, none⟩) 0 ([] : List Int)] (hS9.map1 0 _ (fun h => rowO.ofBlk h rfl (Nat.le_of_ble_eq_true (by kernel_rfl))) (fun _ h => by obtain ⟨_, h1, h2⟩ := h; injection h1 with h1; subst h1; exact h2) [1] (by decide) (by decide))
 have hS11 := hS10.go w8 [rowsO 3 encInt (fun _ => ((some ⟨g3, 0, none⟩), 0)) [([] : List Int)], rowO 25 (encSl Int) (some ⟨g7, 0, none⟩) 1 (tag (fun _ => ((some ⟨g3, 0, none⟩), 0)) [([] : List Int)])] (hS10.rowsOne 1 rfl [0] (by decide) (by decide))
 refine seg 3 [] [0, 1, 5] [(0, (sv Aa p0 ca)), (1, (iv p1)), (5, (sv (some ⟨g7, 0, none⟩) [([] : List Int)] 1))] [] (fun fb => by kernel_rfl) rfl trivial ?_
 refine WL.done rfl (WX.next (WC.seq (WC.seq (WC.region ?_))))
 refine seg 1 [] [0, 1, 5, 6] [(0, (sv Aa p0 ca)), (1, (iv p1)), (5, (sv (some ⟨g7, 0, none⟩) [([] : List Int)] 1)), (6, (iv 0))] [] (fun fb => by kernel_rfl) rfl trivial ?_
 refine WL.done rfl (WX.next ?_)
 obtain ⟨x20, hx21, hf⟩ := bind_some hf
 refine WC.cutN (T := (List (List Int)) × (Option Addr) × Nat × HF) (fun t => [(5, (sv t.2.1 t.1 t.2.2.1))]) (fun t w1 => St NoS w w1 [rowR encInt Aa ca p0] [rowO 25 (encSl Int) t.2.1 t.2.2.1 (tag t.2.2.2 t.1), rowsO 3 encInt t.2.2.2 t.1] ∧ x20 = t.1) (fun Kx20 => ?_) ?_
 ·
  refine WC.block ?_
  refine WC.loop (T := ((List (List Int)) × Int) × (Option Addr) × Nat × HF) (fun t => [(0, (sv Aa p0 ca)), (1, (iv p1)), (5, (sv t.2.1 t.1.1 t.2.2.1)), (6, (iv t.1.2))]) (fun n t w1 => St NoS w w1 [rowR encInt Aa ca p0] [rowO 25 (encSl Int) t.2.1 t.2.2.1 (tag t.2.2.2 t.1.1), rowsO 3 encInt t.2.2.2 t.1.1] ∧ law02_lists.l0 n t.1.1 t.1.2 p0 p1 = some x20) k (([([] : List Int)], 0), (some ⟨g7, 0, none⟩), 1, (fun _ => ((some ⟨g3, 0, none⟩), 0))) [0, 1, 5, 6] rfl ⟨(hS11.subR [0]).sub [1, 0] (by decide), hx21⟩ ?_
  rintro k22 ⟨⟨l14, x16⟩, A12, c13, H15⟩ w23 ⟨hS24, hl25⟩
  cases k22 with
  | zero => rw [law02_lists.l0] at hl25; cases hl25
  | succ k22 =>
   rw [law02_lists.l0] at hl25
   refine WC.seq (WC.seq (WC.region ?_))
   refine seg 3 [] [0, 1, 5, 6, 14] [(0, (sv Aa p0 ca)), (1, (iv p1)), (5, (sv A12 l14 c13)), (6, (iv x16)), (14, (bv (decide (x16 < p1))))] [] (fun fb => by kernel_rfl) rfl trivial ?_
   refine WL.done rfl (WX.next ?_)
   rcases br_some hl25 with ⟨h26, hl25⟩ | ⟨h26, hl25⟩
   ·refine WC.condT2 (fun fb => by kernel_rfl) h26 ?_
    refine WC.skip (WX.next (WC.seq (WC.block (WC.seq (WC.region ?_)))))
    refine seg 1 [] [0, 1, 5, 6, 7] [(0, (sv Aa p0 ca)), (1, (iv p1)), (5, (sv A12 l14 c13)), (6, (iv x16)), (7, (.slice none 0 0))] [] (fun fb => by kernel_rfl) rfl trivial ?_
    refine WL.done rfl (WX.next (WC.seq (WC.seq (WC.region ?_))))
    refine seg 1 [] [0, 1, 5, 6, 7, 8] [(0, (sv Aa p0 ca)), (1, (iv p1)), (5, (sv A12 l14 c13)), (6, (iv x16)), (7, (.slice none 0 0)), (8, (iv 0))] [] (fun fb => by kernel_rfl) rfl trivial ?_
    refine WL.done rfl (WX.next ?_)
    have hS27 := hS11.go w23 [rowO 25 (encSl Int) none 0 (tag hf0 ([] : List (List Int))), rowO 25 (encSl Int) A12 c13 (tag H15 l14), rowsO 3 encInt H15 l14] (hS24.nilrow 25 (encSl Int))
    have hS28 := hS27.go w23 [rowsO 3 encInt hf0 ([] : List (List Int)), rowO 25 (encSl Int) none 0 (tag hf0 ([] : List (List Int))), rowO 25 (encSl Int) A12 c13 (tag H15 l14), rowsO 3 encInt H15 l14] (hS27.rowsNil 3 encInt 0)
    obtain ⟨x37, hx38, hl25⟩ := bind_some hl25
    refine WC.cutN (T := (List (List Int)) × (Option Addr) × Nat × HF) (fun t => [(0, (sv Aa p0 ca)), (1, (iv p1)), (6, (iv x16)), (7, (sv t.2.1 t.1 t.2.2.1))]) (fun t w1 => St NoS w w1 [rowR encInt Aa ca p0] [rowO 25 (encSl Int) t.2.1 t.2.2.1 (tag t.2.2.2 t.1), rowsO 3 encInt t.2.2.2 t.1] ∧ x37 = t.1) (fun Kx37 => ?_) ?_
    ·
     refine WC.block ?_
     refine WC.loop (T := ((List (List Int)) × Int) × (Option Addr) × Nat × HF) (fun t => [(0, (sv Aa p0 ca)), (1, (iv p1)), (5, (sv A12 l14 c13)), (6, (iv x16)), (7, (sv t.2.1 t.1.1 t.2.2.1)), (8, (iv t.1.2))]) (fun n t w1 => St NoS w w1 [rowR encInt Aa ca p0] [rowO 25 (encSl Int) A12 c13 (tag H15 l14), rowsO 3 encInt H15 l14, rowO 25 (encSl Int) t.2.1 t.2.2.1 (tag t.2.2.2 t.1.1), rowsO 3 encInt t.2.2.2 t.1.1] ∧ law02_lists.l1 n t.1.1 t.1.2 p0 l14 = some x37) k22 ((([] : List (List Int)), 0), none, 0, hf0) [0, 1, 5, 6, 7, 8] rfl ⟨(hS28.subR [0]).sub [2, 3, 1, 0] (by decide), hx38⟩ ?_
     rintro k40 ⟨⟨l31, x33⟩, A29, c30, H32⟩ w41 ⟨hS42, hl43⟩
     cases k40 with
     | zero => rw [law02_lists.l1] at hl43; cases hl43
     | succ k40 =>
      rw [law02_lists.l1] at hl43
      refine WC.seq (WC.seq (WC.region ?_))
      refine seg 4 [] [0, 1, 5, 6, 7, 8, 20] [(0, (sv Aa p0 ca)), (1, (iv p1)), (5, (sv A12 l14 c13)), (6, (iv x16)), (7, (sv A29 l31 c30)), (8, (iv x33)), (20, (bv (decide (x33 < (l14.length : Int)))))] [] (fun fb => by kernel_rfl) rfl trivial ?_
      refine WL.done rfl (WX.next ?_)
      rcases br_some hl43 with ⟨h44, hl43⟩ | ⟨h44, hl43⟩
      ·refine WC.condT2 (fun fb => by kernel_rfl) h44 ?_
       refine WC.skip (WX.next (WC.seq (WC.block (WC.seq (WC.region ?_)))))
       refine seg 1 [] [0, 1, 5, 6, 7, 8, 9] [(0, (sv Aa p0 ca)), (1, (iv p1)), (5, (sv A12 l14 c13)), (6, (iv x16)), (7, (sv A29 l31 c30)), (8, (iv x33)), (9, (iv 0))] [] (fun fb => by kernel_rfl) rfl trivial ?_
       refine WL.done rfl (WX.next ?_)
       obtain ⟨x53, hx54, hl43⟩ := bind_some hl43
       refine WC.cutN (T := (List (List Int)) × (Option Addr) × Nat × HF) (fun t => [(0, (sv Aa p0 ca)), (1, (iv p1)), (5, (sv A12 l14 c13)), (6, (iv x16)), (7, (sv t.2.1 t.1 t.2.2.1)), (8, (iv x33))]) (fun t w1 => St NoS w w1 [rowR encInt Aa ca p0] [rowO 25 (encSl Int) A12 c13 (tag H15 l14), rowsO 3 encInt H15 l14, rowO 25 (encSl Int) t.2.1 t.2.2.1 (tag t.2.2.2 t.1), rowsO 3 encInt t.2.2.2 t.1] ∧ x53 = t.1) (fun Kx53 => ?_) ?_
       ·
        refine WC.block ?_
        refine WC.loop (T := ((List (List Int)) × Int) × (Option Addr) × Nat × HF) (fun t => [(0, (sv Aa p0 ca)), (1, (iv p1)), (5, (sv A12 l14 c13)), (6, (iv x16)), (7, (sv t.2.1 t.1.1 t.2.2.1)), (8, (iv x33)), (9, (iv t.1.2))]) (fun n t w1 => St NoS w w1 [rowR encInt Aa ca p0] [rowO 25 (encSl Int) A12 c13 (tag H15 l14), rowsO 3 encInt H15 l14, rowO 25 (encSl Int) t.2.1 t.2.2.1 (tag t.2.2.2 t.1.1), rowsO 3 encInt t.2.2.2 t.1.1] ∧ law02_lists.l2 n t.1.1 t.1.2 p0 l14 x33 = some x53) k40 ((l31, 0), A29, c30, H32) [0, 1, 5, 6, 7, 8, 9] rfl ⟨(hS42.subR [0]).sub [0, 1, 2, 3] (by decide), hx54⟩ ?_
        rintro k55 ⟨⟨l47, x49⟩, A45, c46, H48⟩ w56 ⟨hS57, hl58⟩
        cases k55 with
        | zero => rw [law02_lists.l2] at hl58; cases hl58
        | succ k55 =>
         rw [law02_lists.l2] at hl58
         refine WC.seq (WC.seq (WC.region ?_))
         refine seg 4 [] [0, 1, 5, 6, 7, 8, 9, 26] [(0, (sv Aa p0 ca)), (1, (iv p1)), (5, (sv A12 l14 c13)), (6, (iv x16)), (7, (sv A45 l47 c46)), (8, (iv x33)), (9, (iv x49)), (26, (bv (decide (x49 < (p0.length : Int)))))] [] (fun fb => by kernel_rfl) rfl trivial ?_
         refine WL.done rfl (WX.next ?_)
         rcases br_some hl58 with ⟨h59, hl58⟩ | ⟨h59, hl58⟩
         ·refine WC.condT2 (fun fb => by kernel_rfl) h59 ?_
          refine WC.skip (WX.next (WC.seq (WC.block ?_)))
          obtain ⟨x63, hx65, hl58⟩ := bind_some hl58
          refine WC.cutN (T := (List (List Int)) × (Option Addr) × Nat × HF) (fun t => [(0, (sv Aa p0 ca)), (1, (iv p1)), (5, (sv A12 l14 c13)), (6, (iv x16)), (7, (sv t.2.1 t.1 t.2.2.1)), (8, (iv x33)), (9, (iv x49))]) (fun t w1 => St NoS w w1 [rowR encInt Aa ca p0] [rowO 25 (encSl Int) A12 c13 (tag H15 l14), rowsO 3 encInt H15 l14, rowO 25 (encSl Int) t.2.1 t.2.2.1 (tag t.2.2.2 t.1), rowsO 3 encInt t.2.2.2 t.1] ∧ x63 = t.1) (fun Kx63 => ?_) ?_
          ·
           obtain ⟨h68, hx65⟩ := as_some hx65
           obtain ⟨h69, hx65⟩ := as_some hx65
           refine WC.regionD ([(5, ((adr A12).add ((x33).toNat * 1)), (sv ((H15 x33.toNat).1) (rdD l14 x33 []) ((H15 x33.toNat).2))), (10, ((adr Aa).add ((x49).toNat * 1)), (iv (rdD p0 x49 0)))], [0, 2, 3, 4, 5, 7, 8, 9, 10, 15], [[], [], [], [], [2, 3], [2, 3, 4], [1, 2, 3, 4, 5], [], [], [7, 8], [7, 8, 9], [7, 8, 9, 10], [1, 2, 3, 4, 5, 6, 7, 8, 9, 10, 11], [1, 2, 3, 4, 5, 6, 7, 8, 9, 10, 11, 12], [0, 1, 2, 3, 4, 5, 6, 7, 8, 9, 10, 11, 12, 13], [0, 1, 2, 3, 4, 5, 6, 7, 8, 9, 10, 11, 12, 13, 14]]) [[0, 2, 3, 4, 5, 7, 8, 9, 10, 1, 6, 11, 12, 13, 14, 15], [0, 2, 3, 4, 5, 7, 8, 9, 10, 1, 11, 6, 12, 13, 14, 15], [0, 2, 3, 4, 5, 7, 8, 9, 10, 11, 1, 6, 12, 13, 14, 15]] (by kernel_rfl) (by kernel_rfl) (NoPanic.block (NoPanic.seq (NoPanic.seq (NoPanic.block (NoPanic.block (NoPanic.seq (NoPanic.seq (NoPanic.block (NoPanic.seq (NoPanic.block (NoPanic.seq (NoPanic.seq (NoPanic.block (NoPanic.seq (NoPanic.body))))))))))))))) ?_
           have hS67 := hS57.drew
           revert hS67
           generalize World.drew w56 = w66
           intro hS67
           refine ⟨⟨nrow_cell (rowO.rd (hS67.own 0).1) [] h68.1 h68.2 0 rfl, rowR.cell (hS67.rd 0).1 0 h69.1 h69.2 0 rfl, trivial⟩, forallC ?_ (forallC ?_ (forallC ?_ (forallN)))⟩
           ·
            refine segF 9 [.v (sv ((H15 x33.toNat).1) (rdD l14 x33 []) ((H15 x33.toNat).2)), .v (iv (rdD p0 x49 0))] [0, 1, 5, 6, 8, 9, 29, 34, 39] [(0, (sv Aa p0 ca)), (1, (iv p1)), (5, (sv A12 l14 c13)), (6, (iv x16)), (8, (iv x33)), (9, (iv x49)), (29, (sv A45 l47 c46)), (34, (sv ((H15 x33.toNat).1) (rdD l14 x33 []) ((H15 x33.toNat).2))), (39, (iv (rdD p0 x49 0)))] [.idx A12 x33 l14.length, .idx Aa x49 p0.length] [0, 1] [(5, ((adr A12).add ((x33).toNat * 1)), (sv ((H15 x33.toNat).1) (rdD l14 x33 []) ((H15 x33.toNat).2))), (10, ((adr Aa).add ((x49).toNat * 1)), (iv (rdD p0 x49 0)))] (fun fb => by kernel_rfl) rfl ⟨nrow_adr (rowO.rd (hS67.own 0).1) h68.1 h68.2, rowR.adr (hS67.rd 0).1 h69.1 h69.2, trivial⟩ rfl ?_
            refine WL.new hS67 30 [] (fun g => (.slice (some ⟨g, 0, none⟩) 0 0)) (.cells #[] 3 (0, 0)) [] (fun fb g => by kernel_rfl) trivial (fun g70 w71 hS72 => ?_)
            refine ⟨⟨nrow_cell (rowO.rd (hS72.own 1).1) [] h68.1 h68.2 0 rfl, rowR.cell (hS72.rd 0).1 0 h69.1 h69.2 0 rfl, trivial⟩, ?_⟩
            have hS73 := hS28.go w71 [rowO 3 encInt (some ⟨g70, 0, none⟩) 0 ([] : List Int), rowO 25 (encSl Int) A12 c13 (tag H15 l14), rowsO 3 encInt H15 l14, rowO 25 (encSl Int) A45 c46 (tag H48 l47), rowsO 3 encInt H48 l47] (hS72.map1 0 _ (fun h => rowO.ofBlk h rfl (Nat.le_of_ble_eq_true (by kernel_rfl))) (fun _ h => by obtain ⟨_, h1, h2⟩ := h; injection h1 with h1; subst h1; exact h2) [1, 2, 3, 4] (by decide) (by decide))
            obtain ⟨h74, hx65⟩ := as_some hx65
            refine WL.append hS73 0 (d := 35) (tS := 25) (z := (iv 0)) (bytes := 8) (c2 := (H15 x33.toNat).2) rfl (fun fb => by kernel_rfl) (rowO.rd (rowsO.at (hS73.own 2).1 h68.1 h68.2)) (by kernel_rfl) (by kernel_rfl) rfl (by decide) h74 (by decide) [1, 2, 3, 4] (by decide) (by decide) (fun A75 c76 w77 hS78 => ?_)
            refine ⟨⟨rowR.cell (hS78.rd 0).1 0 h69.1 h69.2 0 rfl, trivial⟩, ?_⟩
            refine WL.new hS78 40 [] (fun g => (.slice (some ⟨g, 0, none⟩) 1 1)) (.cells #[(iv (rdD p0 x49 0))] 3 (0, 0)) [] (fun fb g => by kernel_rfl) trivial (fun g79 w80 hS81 => ?_)
            refine ⟨⟨nrow_cell (rowO.rd (hS81.own 2).1) [] h68.1 h68.2 0 rfl, trivial⟩, ?_⟩
            have hS82 := hS73.go w80 [rowO 3 encInt (some ⟨g79, 0, none⟩) 1 [(rdD p0 x49 0)], rowO 3 encInt A75 c76 (([] : List Int) ++ (rdD l14 x33 [])), rowO 25 (encSl Int) A12 c13 (tag H15 l14), rowsO 3 encInt H15 l14, rowO 25 (encSl Int) A45 c46 (tag H48 l47), rowsO 3 encInt H48 l47] (hS81.map1 0 _ (fun h => rowO.ofBlk h rfl (Nat.le_of_ble_eq_true (by kernel_rfl))) (fun _ h => by obtain ⟨_, h1, h2⟩ := h; injection h1 with h1; subst h1; exact h2) [1, 2, 3, 4, 5] (by decide) (by decide))
            obtain ⟨h83, hx65⟩ := as_some hx65
            refine WL.append hS82 1 (d := 41) (tS := 25) (z := (iv 0)) (bytes := 8) (c2 := 1) rfl (fun fb => by kernel_rfl) (rowO.rd (hS82.own 0).1) (by kernel_rfl) (by kernel_rfl) rfl (by decide) h83 (by decide) [0, 2, 3, 4, 5] (by decide) (by decide) (fun A84 c85 w86 hS87 => ?_)
            refine ⟨trivial, ?_⟩
            refine WL.new hS87 42 [] (fun g => (.slice (some ⟨g, 0, none⟩) 1 1)) (.cells #[(sv A84 ((([] : List Int) ++ (rdD l14 x33 [])) ++ [(rdD p0 x49 0)]) c85)] 25 (0, 0)) [] (fun fb g => by kernel_rfl) trivial (fun g88 w89 hS90 => ?_)
            refine ⟨trivial, ?_⟩
            have hS91 := hS82.go w89 [rowO 25 (encSl Int) (some ⟨g88, 0, none⟩) 1 (tag (fun _ => (A84, c85)) [(([] : List Int) ++ (rdD l14 x33 [])) ++ [(rdD p0 x49 0)]]), rowO 3 encInt A84 c85 ((([] : List Int) ++ (rdD l14 x33 [])) ++ [(rdD p0 x49 0)]), rowO 3 encInt (some ⟨g79, 0, none⟩) 1 [(rdD p0 x49 0)], rowO 25 (encSl Int) A12 c13 (tag H15 l14), rowsO 3 encInt H15 l14, rowO 25 (encSl Int) A45 c46 (tag H48 l47), rowsO 3 encInt H48 l47] (hS90.map1 0 _ (fun h => rowO.ofBlk h rfl (Nat.le_of_ble_eq_true (by kernel_rfl))) (fun _ h => by obtain ⟨_, h1, h2⟩ := h; injection h1 with h1; subst h1; exact h2) [1, 2, 3, 4, 5, 6] (by decide) (by decide))
            have hS92 := hS91.go w89 [rowsO 3 encInt (fun _ => (A84, c85)) [(([] : List Int) ++ (rdD l14 x33 [])) ++ [(rdD p0 x49 0)]], rowO 25 (encSl Int) (some ⟨g88, 0, none⟩) 1 (tag (fun _ => (A84, c85)) [(([] : List Int) ++ (rdD l14 x33 [])) ++ [(rdD p0 x49 0)]]), rowO 3 encInt (some ⟨g79, 0, none⟩) 1 [(rdD p0 x49 0)], rowO 25 (encSl Int) A12 c13 (tag H15 l14), rowsO 3 encInt H15 l14, rowO 25 (encSl Int) A45 c46 (tag H48 l47), rowsO 3 encInt H48 l47] (hS91.rowsOne 1 rfl [0, 2, 3, 4, 5, 6] (by decide) (by decide))
            obtain ⟨h93, hx65⟩ := as_some hx65
            refine WL.appendN hS92 5 (d := 43) (tS := 58) (z := (.slice none 0 0)) (bytes := 24) (c2 := 1) (hx := (A84, c85)) (x := ((([] : List Int) ++ (rdD l14 x33 [])) ++ [(rdD p0 x49 0)])) rfl (fun fb => by kernel_rfl) (rowO.rd (hS92.own 1).1) (by kernel_rfl) (by kernel_rfl) rfl (by decide) h93 (by decide) [0, 1, 2, 3, 4, 6] (by decide) (by decide) (fun A94 c95 w96 hS97 => ?_)
            have hS98 := hS92.go w96 [rowsO 3 encInt (updH H48 l47.length (A84, c85)) (l47 ++ [(([] : List Int) ++ (rdD l14 x33 [])) ++ [(rdD p0 x49 0)]]), rowO 25 (encSl Int) A94 c95 (tag (updH H48 l47.length (A84, c85)) (l47 ++ [(([] : List Int) ++ (rdD l14 x33 [])) ++ [(rdD p0 x49 0)]])), rowO 25 (encSl Int) (some ⟨g88, 0, none⟩) 1 (tag (fun _ => (A84, c85)) [(([] : List Int) ++ (rdD l14 x33 [])) ++ [(rdD p0 x49 0)]]), rowO 3 encInt (some ⟨g79, 0, none⟩) 1 [(rdD p0 x49 0)], rowO 25 (encSl Int) A12 c13 (tag H15 l14), rowsO 3 encInt H15 l14] (hS97.rowsPush 6 1 rfl rfl (by decide) [0, 2, 3, 4, 5] (by decide) (by decide))
            refine ⟨trivial, ?_⟩
            refine seg 16 [] [0, 1, 5, 6, 7, 8, 9] [(0, (sv Aa p0 ca)), (1, (iv p1)), (5, (sv A12 l14 c13)), (6, (iv x16)), (7, (sv A94 (l47 ++ [(([] : List Int) ++ (rdD l14 x33 [])) ++ [(rdD p0 x49 0)]]) c95)), (8, (iv x33)), (9, (iv x49))] [] (fun fb => by kernel_rfl) rfl trivial ?_
            refine WL.done rfl ?_
            injection hx65 with hx65
            exact WX.to Kx63 (l47 ++ [(([] : List Int) ++ (rdD l14 x33 [])) ++ [(rdD p0 x49 0)]], A94, c95, (updH H48 l47.length (A84, c85))) [0, 1, 5, 6, 7, 8, 9] rfl ⟨(hS98.subR [0]).sub [4, 5, 1, 0] (by decide), hx65.symm⟩
           ·
            refine segF 9 [.v (sv ((H15 x33.toNat).1) (rdD l14 x33 []) ((H15 x33.toNat).2)), .v (iv (rdD p0 x49 0))] [0, 1, 5, 6, 8, 9, 29, 34, 39] [(0, (sv Aa p0 ca)), (1, (iv p1)), (5, (sv A12 l14 c13)), (6, (iv x16)), (8, (iv x33)), (9, (iv x49)), (29, (sv A45 l47 c46)), (34, (sv ((H15 x33.toNat).1) (rdD l14 x33 []) ((H15 x33.toNat).2))), (39, (iv (rdD p0 x49 0)))] [.idx A12 x33 l14.length, .idx Aa x49 p0.length] [0, 1] [(5, ((adr A12).add ((x33).toNat * 1)), (sv ((H15 x33.toNat).1) (rdD l14 x33 []) ((H15 x33.toNat).2))), (10, ((adr Aa).add ((x49).toNat * 1)), (iv (rdD p0 x49 0)))] (fun fb => by kernel_rfl) rfl ⟨nrow_adr (rowO.rd (hS67.own 0).1) h68.1 h68.2, rowR.adr (hS67.rd 0).1 h69.1 h69.2, trivial⟩ rfl ?_
            refine WL.new hS67 30 [] (fun g => (.slice (some ⟨g, 0, none⟩) 0 0)) (.cells #[] 3 (0, 0)) [] (fun fb g => by kernel_rfl) trivial (fun g99 w100 hS101 => ?_)
            refine ⟨⟨nrow_cell (rowO.rd (hS101.own 1).1) [] h68.1 h68.2 0 rfl, rowR.cell (hS101.rd 0).1 0 h69.1 h69.2 0 rfl, trivial⟩, ?_⟩
            have hS102 := hS28.go w100 [rowO 3 encInt (some ⟨g99, 0, none⟩) 0 ([] : List Int), rowO 25 (encSl Int) A12 c13 (tag H15 l14), rowsO 3 encInt H15 l14, rowO 25 (encSl Int) A45 c46 (tag H48 l47), rowsO 3 encInt H48 l47] (hS101.map1 0 _ (fun h => rowO.ofBlk h rfl (Nat.le_of_ble_eq_true (by kernel_rfl))) (fun _ h => by obtain ⟨_, h1, h2⟩ := h; injection h1 with h1; subst h1; exact h2) [1, 2, 3, 4] (by decide) (by decide))
            refine WL.new hS102 40 [] (fun g => (.slice (some ⟨g, 0, none⟩) 1 1)) (.cells #[(iv (rdD p0 x49 0))] 3 (0, 0)) [] (fun fb g => by kernel_rfl) trivial (fun g103 w104 hS105 => ?_)
            refine ⟨⟨nrow_cell (rowO.rd (hS105.own 2).1) [] h68.1 h68.2 0 rfl, trivial⟩, ?_⟩
            have hS106 := hS102.go w104 [rowO 3 encInt (some ⟨g103, 0, none⟩) 1 [(rdD p0 x49 0)], rowO 3 encInt (some ⟨g99, 0, none⟩) 0 ([] : List Int), rowO 25 (encSl Int) A12 c13 (tag H15 l14), rowsO 3 encInt H15 l14, rowO 25 (encSl Int) A45 c46 (tag H48 l47), rowsO 3 encInt H48 l47] (hS105.map1 0 _ (fun h => rowO.ofBlk h rfl (Nat.le_of_ble_eq_true (by kernel_rfl))) (fun _ h => by obtain ⟨_, h1, h2⟩ := h; injection h1 with h1; subst h1; exact h2) [1, 2, 3, 4, 5] (by decide) (by decide))
            obtain ⟨h107, hx65⟩ := as_some hx65
            refine WL.append hS106 1 (d := 35) (tS := 25) (z := (iv 0)) (bytes := 8) (c2 := (H15 x33.toNat).2) rfl (fun fb => by kernel_rfl) (rowO.rd (rowsO.at (hS106.own 3).1 h68.1 h68.2)) (by kernel_rfl) (by kernel_rfl) rfl (by decide) h107 (by decide) [0, 2, 3, 4, 5] (by decide) (by decide) (fun A108 c109 w110 hS111 => ?_)
            refine ⟨⟨rowR.cell (hS111.rd 0).1 0 h69.1 h69.2 0 rfl, trivial⟩, ?_⟩
            obtain ⟨h112, hx65⟩ := as_some hx65
            refine WL.append hS111 0 (d := 41) (tS := 25) (z := (iv 0)) (bytes := 8) (c2 := 1) rfl (fun fb => by kernel_rfl) (rowO.rd (hS111.own 1).1) (by kernel_rfl) (by kernel_rfl) rfl (by decide) h112 (by decide) [1, 2, 3, 4, 5] (by decide) (by decide) (fun A113 c114 w115 hS116 => ?_)
            refine ⟨trivial, ?_⟩
            refine WL.new hS116 42 [] (fun g => (.slice (some ⟨g, 0, none⟩) 1 1)) (.cells #[(sv A113 ((([] : List Int) ++ (rdD l14 x33 [])) ++ [(rdD p0 x49 0)]) c114)] 25 (0, 0)) [] (fun fb g => by kernel_rfl) trivial (fun g117 w118 hS119 => ?_)
            refine ⟨trivial, ?_⟩
            have hS120 := hS106.go w118 [rowO 25 (encSl Int) (some ⟨g117, 0, none⟩) 1 (tag (fun _ => (A113, c114)) [(([] : List Int) ++ (rdD l14 x33 [])) ++ [(rdD p0 x49 0)]]), rowO 3 encInt A113 c114 ((([] : List Int) ++ (rdD l14 x33 [])) ++ [(rdD p0 x49 0)]), rowO 3 encInt (some ⟨g103, 0, none⟩) 1 [(rdD p0 x49 0)], rowO 25 (encSl Int) A12 c13 (tag H15 l14), rowsO 3 encInt H15 l14, rowO 25 (encSl Int) A45 c46 (tag H48 l47), rowsO 3 encInt H48 l47] (hS119.map1 0 _ (fun h => rowO.ofBlk h rfl (Nat.le_of_ble_eq_true (by kernel_rfl))) (fun _ h => by obtain ⟨_, h1, h2⟩ := h; injection h1 with h1; subst h1; exact h2) [1, 2, 3, 4, 5, 6] (by decide) (by decide))
            have hS121 := hS120.go w118 [rowsO 3 encInt (fun _ => (A113, c114)) [(([] : List Int) ++ (rdD l14 x33 [])) ++ [(rdD p0 x49 0)]], rowO 25 (encSl Int) (some ⟨g117, 0, none⟩) 1 (tag (fun _ => (A113, c114)) [(([] : List Int) ++ (rdD l14 x33 [])) ++ [(rdD p0 x49 0)]]), rowO 3 encInt (some ⟨g103, 0, none⟩) 1 [(rdD p0 x49 0)], rowO 25 (encSl Int) A12 c13 (tag H15 l14), rowsO 3 encInt H15 l14, rowO 25 (encSl Int) A45 c46 (tag H48 l47), rowsO 3 encInt H48 l47] (hS120.rowsOne 1 rfl [0, 2, 3, 4, 5, 6] (by decide) (by decide))
            obtain ⟨h122, hx65⟩ := as_some hx65
            refine WL.appendN hS121 5 (d := 43) (tS := 58) (z := (.slice none 0 0)) (bytes := 24) (c2 := 1) (hx := (A113, c114)) (x := ((([] : List Int) ++ (rdD l14 x33 [])) ++ [(rdD p0 x49 0)])) rfl (fun fb => by kernel_rfl) (rowO.rd (hS121.own 1).1) (by kernel_rfl) (by kernel_rfl) rfl (by decide) h122 (by decide) [0, 1, 2, 3, 4, 6] (by decide) (by decide) (fun A123 c124 w125 hS126 => ?_)
            have hS127 := hS121.go w125 [rowsO 3 encInt (updH H48 l47.length (A113, c114)) (l47 ++ [(([] : List Int) ++ (rdD l14 x33 [])) ++ [(rdD p0 x49 0)]]), rowO 25 (encSl Int) A123 c124 (tag (updH H48 l47.length (A113, c114)) (l47 ++ [(([] : List Int) ++ (rdD l14 x33 [])) ++ [(rdD p0 x49 0)]])), rowO 25 (encSl Int) (some ⟨g117, 0, none⟩) 1 (tag (fun _ => (A113, c114)) [(([] : List Int) ++ (rdD l14 x33 [])) ++ [(rdD p0 x49 0)]]), rowO 3 encInt (some ⟨g103, 0, none⟩) 1 [(rdD p0 x49 0)], rowO 25 (encSl Int) A12 c13 (tag H15 l14), rowsO 3 encInt H15 l14] (hS126.rowsPush 6 1 rfl rfl (by decide) [0, 2, 3, 4, 5] (by decide) (by decide))
            refine ⟨trivial, ?_⟩
            refine seg 16 [] [0, 1, 5, 6, 7, 8, 9] [(0, (sv Aa p0 ca)), (1, (iv p1)), (5, (sv A12 l14 c13)), (6, (iv x16)), (7, (sv A123 (l47 ++ [(([] : List Int) ++ (rdD l14 x33 [])) ++ [(rdD p0 x49 0)]]) c124)), (8, (iv x33)), (9, (iv x49))] [] (fun fb => by kernel_rfl) rfl trivial ?_
            refine WL.done rfl ?_
            injection hx65 with hx65
            exact WX.to Kx63 (l47 ++ [(([] : List Int) ++ (rdD l14 x33 [])) ++ [(rdD p0 x49 0)]], A123, c124, (updH H48 l47.length (A113, c114))) [0, 1, 5, 6, 7, 8, 9] rfl ⟨(hS127.subR [0]).sub [4, 5, 1, 0] (by decide), hx65.symm⟩
           refine segF 9 [.v (sv ((H15 x33.toNat).1) (rdD l14 x33 []) ((H15 x33.toNat).2)), .v (iv (rdD p0 x49 0))] [0, 1, 5, 6, 8, 9, 29, 34, 39] [(0, (sv Aa p0 ca)), (1, (iv p1)), (5, (sv A12 l14 c13)), (6, (iv x16)), (8, (iv x33)), (9, (iv x49)), (29, (sv A45 l47 c46)), (34, (sv ((H15 x33.toNat).1) (rdD l14 x33 []) ((H15 x33.toNat).2))), (39, (iv (rdD p0 x49 0)))] [.idx A12 x33 l14.length, .idx Aa x49 p0.length] [0, 1] [(5, ((adr A12).add ((x33).toNat * 1)), (sv ((H15 x33.toNat).1) (rdD l14 x33 []) ((H15 x33.toNat).2))), (10, ((adr Aa).add ((x49).toNat * 1)), (iv (rdD p0 x49 0)))] (fun fb => by kernel_rfl) rfl ⟨nrow_adr (rowO.rd (hS67.own 0).1) h68.1 h68.2, rowR.adr (hS67.rd 0).1 h69.1 h69.2, trivial⟩ rfl ?_
           refine WL.new hS67 40 [] (fun g => (.slice (some ⟨g, 0, none⟩) 1 1)) (.cells #[(iv (rdD p0 x49 0))] 3 (0, 0)) [] (fun fb g => by kernel_rfl) trivial (fun g128 w129 hS130 => ?_)
           refine ⟨⟨nrow_cell (rowO.rd (hS130.own 1).1) [] h68.1 h68.2 0 rfl, trivial⟩, ?_⟩
           have hS131 := hS28.go w129 [rowO 3 encInt (some ⟨g128, 0, none⟩) 1 [(rdD p0 x49 0)], rowO 25 (encSl Int) A12 c13 (tag H15 l14), rowsO 3 encInt H15 l14, rowO 25 (encSl Int) A45 c46 (tag H48 l47), rowsO 3 encInt H48 l47] (hS130.map1 0 _ (fun h => rowO.ofBlk h rfl (Nat.le_of_ble_eq_true (by kernel_rfl))) (fun _ h => by obtain ⟨_, h1, h2⟩ := h; injection h1 with h1; subst h1; exact h2) [1, 2, 3, 4] (by decide) (by decide))
           refine WL.new hS131 30 [] (fun g => (.slice (some ⟨g, 0, none⟩) 0 0)) (.cells #[] 3 (0, 0)) [] (fun fb g => by kernel_rfl) trivial (fun g132 w133 hS134 => ?_)
           refine ⟨⟨nrow_cell (rowO.rd (hS134.own 2).1) [] h68.1 h68.2 0 rfl, rowR.cell (hS134.rd 0).1 0 h69.1 h69.2 0 rfl, trivial⟩, ?_⟩
           have hS135 := hS131.go w133 [rowO 3 encInt (some ⟨g132, 0, none⟩) 0 ([] : List Int), rowO 3 encInt (some ⟨g128, 0, none⟩) 1 [(rdD p0 x49 0)], rowO 25 (encSl Int) A12 c13 (tag H15 l14), rowsO 3 encInt H15 l14, rowO 25 (encSl Int) A45 c46 (tag H48 l47), rowsO 3 encInt H48 l47] (hS134.map1 0 _ (fun h => rowO.ofBlk h rfl (Nat.le_of_ble_eq_true (by kernel_rfl))) (fun _ h => by obtain ⟨_, h1, h2⟩ := h; injection h1 with h1; subst h1; exact h2) [1, 2, 3, 4, 5] (by decide) (by decide))
           obtain ⟨h136, hx65⟩ := as_some hx65
           refine WL.append hS135 0 (d := 35) (tS := 25) (z := (iv 0)) (bytes := 8) (c2 := (H15 x33.toNat).2) rfl (fun fb => by kernel_rfl) (rowO.rd (rowsO.at (hS135.own 3).1 h68.1 h68.2)) (by kernel_rfl) (by kernel_rfl) rfl (by decide) h136 (by decide) [1, 2, 3, 4, 5] (by decide) (by decide) (fun A137 c138 w139 hS140 => ?_)
           refine ⟨⟨rowR.cell (hS140.rd 0).1 0 h69.1 h69.2 0 rfl, trivial⟩, ?_⟩
           obtain ⟨h141, hx65⟩ := as_some hx65
           refine WL.append hS140 0 (d := 41) (tS := 25) (z := (iv 0)) (bytes := 8) (c2 := 1) rfl (fun fb => by kernel_rfl) (rowO.rd (hS140.own 1).1) (by kernel_rfl) (by kernel_rfl) rfl (by decide) h141 (by decide) [1, 2, 3, 4, 5] (by decide) (by decide) (fun A142 c143 w144 hS145 => ?_)
           refine ⟨trivial, ?_⟩
           refine WL.new hS145 42 [] (fun g => (.slice (some ⟨g, 0, none⟩) 1 1)) (.cells #[(sv A142 ((([] : List Int) ++ (rdD l14 x33 [])) ++ [(rdD p0 x49 0)]) c143)] 25 (0, 0)) [] (fun fb g => by kernel_rfl) trivial (fun g146 w147 hS148 => ?_)
           refine ⟨trivial, ?_⟩
           have hS149 := hS135.go w147 [rowO 25 (encSl Int) (some ⟨g146, 0, none⟩) 1 (tag (fun _ => (A142, c143)) [(([] : List Int) ++ (rdD l14 x33 [])) ++ [(rdD p0 x49 0)]]), rowO 3 encInt A142 c143 ((([] : List Int) ++ (rdD l14 x33 [])) ++ [(rdD p0 x49 0)]), rowO 3 encInt (some ⟨g128, 0, none⟩) 1 [(rdD p0 x49 0)], rowO 25 (encSl Int) A12 c13 (tag H15 l14), rowsO 3 encInt H15 l14, rowO 25 (encSl Int) A45 c46 (tag H48 l47), rowsO 3 encInt H48 l47] (hS148.map1 0 _ (fun h => rowO.ofBlk h rfl (Nat.le_of_ble_eq_true (by kernel_rfl))) (fun _ h => by obtain ⟨_, h1, h2⟩ := h; injection h1 with h1; subst h1; exact h2) [1, 2, 3, 4, 5, 6] (by decide) (by decide))
           have hS150 := hS149.go w147 [rowsO 3 encInt (fun _ => (A142, c143)) [(([] : List Int) ++ (rdD l14 x33 [])) ++ [(rdD p0 x49 0)]], rowO 25 (encSl Int) (some ⟨g146, 0, none⟩) 1 (tag (fun _ => (A142, c143)) [(([] : List Int) ++ (rdD l14 x33 [])) ++ [(rdD p0 x49 0)]]), rowO 3 encInt (some ⟨g128, 0, none⟩) 1 [(rdD p0 x49 0)], rowO 25 (encSl Int) A12 c13 (tag H15 l14), rowsO 3 encInt H15 l14, rowO 25 (encSl Int) A45 c46 (tag H48 l47), rowsO 3 encInt H48 l47] (hS149.rowsOne 1 rfl [0, 2, 3, 4, 5, 6] (by decide) (by decide))
           obtain ⟨h151, hx65⟩ := as_some hx65
           refine WL.appendN hS150 5 (d := 43) (tS := 58) (z := (.slice none 0 0)) (bytes := 24) (c2 := 1) (hx := (A142, c143)) (x := ((([] : List Int) ++ (rdD l14 x33 [])) ++ [(rdD p0 x49 0)])) rfl (fun fb => by kernel_rfl) (rowO.rd (hS150.own 1).1) (by kernel_rfl) (by kernel_rfl) rfl (by decide) h151 (by decide) [0, 1, 2, 3, 4, 6] (by decide) (by decide) (fun A152 c153 w154 hS155 => ?_)
           have hS156 := hS150.go w154 [rowsO 3 encInt (updH H48 l47.length (A142, c143)) (l47 ++ [(([] : List Int) ++ (rdD l14 x33 [])) ++ [(rdD p0 x49 0)]]), rowO 25 (encSl Int) A152 c153 (tag (updH H48 l47.length (A142, c143)) (l47 ++ [(([] : List Int) ++ (rdD l14 x33 [])) ++ [(rdD p0 x49 0)]])), rowO 25 (encSl Int) (some ⟨g146, 0, none⟩) 1 (tag (fun _ => (A142, c143)) [(([] : List Int) ++ (rdD l14 x33 [])) ++ [(rdD p0 x49 0)]]), rowO 3 encInt (some ⟨g128, 0, none⟩) 1 [(rdD p0 x49 0)], rowO 25 (encSl Int) A12 c13 (tag H15 l14), rowsO 3 encInt H15 l14] (hS155.rowsPush 6 1 rfl rfl (by decide) [0, 2, 3, 4, 5] (by decide) (by decide))
           refine ⟨trivial, ?_⟩
           refine seg 16 [] [0, 1, 5, 6, 7, 8, 9] [(0, (sv Aa p0 ca)), (1, (iv p1)), (5, (sv A12 l14 c13)), (6, (iv x16)), (7, (sv A152 (l47 ++ [(([] : List Int) ++ (rdD l14 x33 [])) ++ [(rdD p0 x49 0)]]) c153)), (8, (iv x33)), (9, (iv x49))] [] (fun fb => by kernel_rfl) rfl trivial ?_
           refine WL.done rfl ?_
           injection hx65 with hx65
           exact WX.to Kx63 (l47 ++ [(([] : List Int) ++ (rdD l14 x33 [])) ++ [(rdD p0 x49 0)]], A152, c153, (updH H48 l47.length (A142, c143))) [0, 1, 5, 6, 7, 8, 9] rfl ⟨(hS156.subR [0]).sub [4, 5, 1, 0] (by decide), hx65.symm⟩
          rintro ⟨y160, A60, c61, H62⟩ w157 ⟨hS158, hq159⟩
          subst hq159
          refine WX.blockN (WX.next ?_)
          refine WC.region ?_
          refine seg 3 [] [0, 1, 5, 6, 7, 8, 9] [(0, (sv Aa p0 ca)), (1, (iv p1)), (5, (sv A12 l14 c13)), (6, (iv x16)), (7, (sv A60 x63 c61)), (8, (iv x33)), (9, (iv (w64 (x49 + 1))))] [] (fun fb => by kernel_rfl) rfl trivial ?_
          refine WL.done rfl ?_
          exact WX.again k55 (Nat.lt_succ_self _) ((x63, w64 (x49 + 1)), A60, c61, H62) [0, 1, 5, 6, 7, 8, 9] rfl ⟨(hS158.subR [0]).sub [0, 1, 2, 3] (by decide), hl58⟩
         refine WC.condF2 (fun fb => by kernel_rfl) h59 ?_
         refine WC.exit ?_
         injection hl58 with hl58
         exact WX.thenX (WX.thenX (WX.blockHere (WX.to Kx53 (l47, A45, c46, H48) [0, 1, 5, 6, 7, 8] rfl ⟨(hS57.subR [0]).sub [0, 1, 2, 3] (by decide), hl58.symm⟩)))
       rintro ⟨y164, A50, c51, H52⟩ w161 ⟨hS162, hq163⟩
       subst hq163
       refine WX.blockN (WX.next ?_)
       refine WC.region ?_
       refine seg 3 [] [0, 1, 5, 6, 7, 8] [(0, (sv Aa p0 ca)), (1, (iv p1)), (5, (sv A12 l14 c13)), (6, (iv x16)), (7, (sv A50 x53 c51)), (8, (iv (w64 (x33 + 1))))] [] (fun fb => by kernel_rfl) rfl trivial ?_
       refine WL.done rfl ?_
       exact WX.again k40 (Nat.lt_succ_self _) ((x53, w64 (x33 + 1)), A50, c51, H52) [0, 1, 5, 6, 7, 8] rfl ⟨(hS162.subR [0]).sub [0, 1, 2, 3] (by decide), hl43⟩
      refine WC.condF2 (fun fb => by kernel_rfl) h44 ?_
      refine WC.exit ?_
      injection hl43 with hl43
      exact WX.thenX (WX.thenX (WX.blockHere (WX.to Kx37 (l31, A29, c30, H32) [0, 1, 6, 7] rfl ⟨(hS42.subR [0]).sub [2, 3] (by decide), hl43.symm⟩)))
    rintro ⟨y168, A34, c35, H36⟩ w165 ⟨hS166, hq167⟩
    subst hq167
    refine WX.next (WC.region ?_)
    refine seg 2 [] [0, 1, 5, 6] [(0, (sv Aa p0 ca)), (1, (iv p1)), (5, (sv A34 x37 c35)), (6, (iv x16))] [] (fun fb => by kernel_rfl) rfl trivial ?_
    refine WL.done rfl ?_
    refine WX.blockN (WX.next ?_)
    refine WC.region ?_
    refine seg 3 [] [0, 1, 5, 6] [(0, (sv Aa p0 ca)), (1, (iv p1)), (5, (sv A34 x37 c35)), (6, (iv (w64 (x16 + 1))))] [] (fun fb => by kernel_rfl) rfl trivial ?_
    refine WL.done rfl ?_
    exact WX.again k22 (Nat.lt_succ_self _) ((x37, w64 (x16 + 1)), A34, c35, H36) [0, 1, 5, 6] rfl ⟨(hS166.subR [0]).sub [0, 1] (by decide), hl25⟩
   refine WC.condF2 (fun fb => by kernel_rfl) h26 ?_
   refine WC.exit ?_
   injection hl25 with hl25
   exact WX.thenX (WX.thenX (WX.blockHere (WX.to Kx20 (l14, A12, c13, H15) [5] rfl ⟨(hS24.subR [0]).sub [0, 1] (by decide), hl25.symm⟩)))
 rintro ⟨y172, A17, c18, H19⟩ w169 ⟨hS170, hq171⟩
 subst hq171
 refine WX.next (WC.seq (WC.region ?_))
 refine seg 2 [] [4] [(4, (sv A17 x20 c18))] [] (fun fb => by kernel_rfl) rfl trivial ?_
 refine WL.done rfl (WX.next ?_)
 refine WC.ret ?_
 injection hf with hf
 subst hf
 exact WX.ret_ [] (sv A17 x20 c18) [] (fun fb => by kernel_rfl) trivial ⟨_, rfl, A17, c18, H19, rfl, (hS170.sub [0, 1] (by decide)).noR⟩
theorem law02_FillSum_calls (k : Nat) (p0 : List Tile) (p1 : Int) (p2 : Int) (p3 : Edges) (Aa : Option Addr) (ca : Nat) (Ab : Option Addr) (cb : Nat) (Ac : Option Addr) (cc : Nat) (Ad : Option Addr) (cd : Nat) (Ae : Option Addr) (ce : Nat) (mG : Int) (r : Bool) (w : World) (hR0 : RO NoS w (rowR enc_Tile Aa ca p0)) (hR1 : RO NoS w (rowR encInt Ab cb p3.North)) (hR2 : RO NoS w (rowR encInt Ac cc p3.East)) (hR3 : RO NoS w (rowR encInt Ad cd p3.South)) (hR4 : RO NoS w (rowR encInt Ae ce p3.West)) (hR5 : RO NoS w (cel ⟨2, 0, none⟩ (iv mG))) (hf : law02_FillSum k p0 p1 p2 p3 = some r) :
  CallsR Tryd.prog 9 #[(sv Aa p0 ca), (iv p1), (iv p2), (.agg #[(sv Ab p3.North cb), (sv Ac p3.East cc), (sv Ad p3.South cd), (sv Ae p3.West ce)])] w (fun v w' => v = (bv r) ∧ Keeps NoS w w') := by
 have hS : St NoS w w [rowR enc_Tile Aa ca p0, rowR encInt Ab cb p3.North, rowR encInt Ac cc p3.East, rowR encInt Ad cd p3.South, rowR encInt Ae ce p3.West, cel ⟨2, 0, none⟩ (iv mG)] [] := St.init (ro_cons hR0 (ro_cons hR1 (ro_cons hR2 (ro_cons hR3 (ro_cons hR4 (ro_cons hR5 (ro_nil _ _)))))))
 refine enter 91 Tryd.func9 rfl Tryd.ntmps9 rfl ?_
 unfold law02_FillSum at hf
 refine WC.seq (WC.region ?_)
 refine WL.new hS 7 [] (fun g => (pt g)) (.cells #[(sv Ab p3.North cb), (sv Ac p3.East cc), (sv Ad p3.South cd), (sv Ae p3.West ce)] 44 (0, 0)) [] (fun fb g => by kernel_rfl) trivial (fun g1 w2 hS3 => ?_)
 refine ⟨trivial, ?_⟩
 refine seg 2 [] [0, 1, 2, 7] [(0, (sv Aa p0 ca)), (1, (iv p1)), (2, (iv p2)), (7, (pt g1))] [] (fun fb => by kernel_rfl) rfl trivial ?_
 refine WL.done rfl (WX.next (WC.seq (WC.region ?_)))
 refine seg 1 [] [0, 1, 2, 7, 16] [(0, (sv Aa p0 ca)), (1, (iv p1)), (2, (iv p2)), (7, (pt g1)), (16, (pt g1))] [] (fun fb => by kernel_rfl) rfl trivial ?_
 refine WL.store hS3 0 rfl [(0, (.slice none 0 0))] #[(.slice none 0 0), (sv Ac p3.East cc), (sv Ad p3.South cd), (sv Ae p3.West ce)] (fun fb => by kernel_rfl) (by kernel_rfl) rfl [] (by decide) (by decide) (fun w5 hS6 => ?_)
 refine ⟨trivial, ?_⟩
 refine WL.done rfl (WX.next (WC.seq (WC.seq (WC.region ?_))))
 refine seg 4 [.v (.slice none 0 0), .v (sv Ac p3.East cc), .v (sv Ad p3.South cd), .v (sv Ae p3.West ce)] [0, 1, 2, 7, 17, 18, 19, 20] [(0, (sv Aa p0 ca)), (1, (iv p1)), (2, (iv p2)), (7, (pt g1)), (17, (sv Aa p0 ca)), (18, (iv p1)), (19, (iv p2)), (20, (.agg #[(.slice none 0 0), (sv Ac p3.East cc), (sv Ad p3.South cd), (sv Ae p3.West ce)]))] [.cell ⟨g1, 0, none⟩ (.slice none 0 0), .cell ⟨g1, 1, none⟩ (sv Ac p3.East cc), .cell ⟨g1, 2, none⟩ (sv Ad p3.South cd), .cell ⟨g1, 3, none⟩ (sv Ae p3.West ce)] (fun fb => by kernel_rfl) rfl ⟨hS6.cell 0 rfl 0 rfl, hS6.cell 0 rfl 1 rfl, hS6.cell 0 rfl 2 rfl, hS6.cell 0 rfl 3 rfl, trivial⟩ ?_
 obtain ⟨t7, ht8, hf⟩ := bind_some hf
 refine WL.call (some 21) 34 #[(sv Aa p0 ca), (iv p1), (iv p2), (.agg #[(.slice none 0 0), (sv Ac p3.East cc), (sv Ad p3.South cd), (sv Ae p3.West ce)])] (fun fb => by kernel_rfl) (law02_small_calls _ p0 p1 p2 (Edges.mk ([] : List Int) p3.East p3.South p3.West) Aa ca none 0 Ac cc Ad cd Ae ce t7 _ (hS6.rd 0) (RO.nilR _ _ _) (hS6.rd 2) (hS6.rd 3) (hS6.rd 4) ht8) (fun v w10 hR11 => ?_)
 obtain ⟨rfl, hk_⟩ := hR11
 have hS12 := hS6.keepN hk_
 refine ⟨trivial, ?_⟩
 refine seg 7 [] [0, 1, 2, 7, 23] [(0, (sv Aa p0 ca)), (1, (iv p1)), (2, (iv p2)), (7, (pt g1)), (23, (bv (!t7)))] [] (fun fb => by kernel_rfl) rfl trivial ?_
 obtain ⟨x13, hx14, hf⟩ := bind_some hf
 refine WL.cutW (T := Bool) 14 (fun t => [(0, (sv Aa p0 ca)), (1, (iv p1)), (2, (iv p2)), (7, (pt g1)), (30, (bv t))]) (fun t w1 => (St NoS w w1 [rowR enc_Tile Aa ca p0, rowR encInt Ab cb p3.North, rowR encInt Ac cc p3.East, rowR encInt Ad cd p3.South, rowR encInt Ae ce p3.West, cel ⟨2, 0, none⟩ (iv mG)] [blk g1 (.cells #[(.slice none 0 0), (sv Ac p3.East cc), (sv Ad p3.South cd), (sv Ae p3.West ce)] 44 (0, 0))] ∧ x13 = t) ∧ CellsOK [] w1) (fun K => ?_) ?_
 ·
  rcases br_some hx14 with ⟨h15, hx14⟩ | ⟨h15, hx14⟩
  ·
   refine WL.setB 23 h15 rfl ?_
   refine seg 14 [] [0, 1, 2, 7, 30] [(0, (sv Aa p0 ca)), (1, (iv p1)), (2, (iv p2)), (7, (pt g1)), (30, (bv true))] [] (fun fb => by kernel_rfl) rfl trivial ?_
   injection hx14 with hx14
   exact WL.to K true [0, 1, 2, 7, 30] rfl ⟨⟨(hS12.subR [0, 1, 2, 3, 4, 5]).sub [0] (by decide), hx14.symm⟩, trivial⟩
  refine WL.setB 23 h15 rfl ?_
  refine seg 8 [] [0, 1, 2, 7, 23, 24] [(0, (sv Aa p0 ca)), (1, (iv p1)), (2, (iv p2)), (7, (pt g1)), (23, (bv false)), (24, (sv Aa p0 ca))] [] (fun fb => by kernel_rfl) rfl trivial ?_
  obtain ⟨t16, ht17, hx14⟩ := bind_some hx14
  refine WL.call (some 25) 38 #[(sv Aa p0 ca)] (fun fb => by kernel_rfl) (ref02_Colours_calls _ p0 Aa ca t16 _ (hS12.rd 0) ht17) (fun v w18 hR19 => ?_)
  obtain ⟨A21, c22, rfl, hk_⟩ := hR19
  have hS20 := hS.go w18 [rowO 3 encInt A21 c22 t16, blk g1 (.cells #[(.slice none 0 0), (.slice Ac p3.East.length cc), (.slice Ad p3.South.length cd), (.slice Ae p3.West.length ce)] 44 (0, 0))] (hS12.call hk_ [] [0] (fun g hg => hg.elim) (by simp) (by decide))
  refine ⟨trivial, ?_⟩
  refine seg 11 [] [0, 1, 2, 7, 23, 26, 27] [(0, (sv Aa p0 ca)), (1, (iv p1)), (2, (iv p2)), (7, (pt g1)), (23, (bv false)), (26, (iv (t16.length : Int))), (27, (iv p1))] [] (fun fb => by kernel_rfl) rfl trivial ?_
  obtain ⟨t23, ht24, hx14⟩ := bind_some hx14
  refine WL.call (some 28) 24 #[(iv (t16.length : Int)), (iv p1)] (fun fb => by kernel_rfl) (ref02_Power_calls _ (t16.length : Int) p1 t23 _ ht24) (fun v w25 hR26 => ?_)
  obtain ⟨rfl, hk_⟩ := hR26
  have hS27 := hS20.keepN hk_
  refine ⟨trivial, ?_⟩
  refine seg 14 [] [0, 1, 2, 7, 30] [(0, (sv Aa p0 ca)), (1, (iv p1)), (2, (iv p2)), (7, (pt g1)), (30, (bv (decide (t23 > 300))))] [] (fun fb => by kernel_rfl) rfl trivial ?_
  injection hx14 with hx14
  exact WL.to K (decide (t23 > 300)) [0, 1, 2, 7, 30] rfl ⟨⟨(hS27.subR [0, 1, 2, 3, 4, 5]).sub [1] (by decide), hx14.symm⟩, trivial⟩
 rintro y28 w30 ⟨⟨hS31, hq29⟩, hF32⟩
 subst hq29
 refine WL.done rfl (WX.next ?_)
 rcases br_some hf with ⟨h33, hf⟩ | ⟨h33, hf⟩
 ·refine WC.condT2 (fun fb => by kernel_rfl) h33 ?_
  refine WC.seq (WC.region ?_)
  obtain ⟨t34, ht35, hf⟩ := bind_some hf
  refine WL.call (some 31) 26 #[] (fun fb => by kernel_rfl) (law02_awake_calls _ mG t34 _ (hS31.rd 5) ht35) (fun v w36 hR37 => ?_)
  obtain ⟨rfl, hk_⟩ := hR37
  have hS38 := hS31.keepN hk_
  refine ⟨trivial, ?_⟩
  refine seg 2 [] [8] [(8, (bv t34))] [] (fun fb => by kernel_rfl) rfl trivial ?_
  refine WL.done rfl (WX.next ?_)
  refine WC.ret ?_
  injection hf with hf
  subst hf
  exact WX.thenR (WX.ret_ [] (bv t34) [] (fun fb => by kernel_rfl) trivial ⟨_, rfl, rfl, hS38.keep⟩)
 refine WC.condF2 (fun fb => by kernel_rfl) h33 ?_
 refine WC.skip (WX.next (WC.seq (WC.region ?_)))
 refine seg 4 [.v (.slice none 0 0), .v (sv Ac p3.East cc), .v (sv Ad p3.South cd), .v (sv Ae p3.West ce)] [0, 1, 2, 7, 33, 34, 35, 36] [(0, (sv Aa p0 ca)), (1, (iv p1)), (2, (iv p2)), (7, (pt g1)), (33, (sv Aa p0 ca)), (34, (iv p1)), (35, (iv p2)), (36, (.agg #[(.slice none 0 0), (sv Ac p3.East cc), (sv Ad p3.South cd), (sv Ae p3.West ce)]))] [.cell ⟨g1, 0, none⟩ (.slice none 0 0), .cell ⟨g1, 1, none⟩ (sv Ac p3.East cc), .cell ⟨g1, 2, none⟩ (sv Ad p3.South cd), .cell ⟨g1, 3, none⟩ (sv Ae p3.West ce)] (fun fb => by kernel_rfl) rfl ⟨hS31.cell 0 rfl 0 rfl, hS31.cell 0 rfl 1 rfl, hS31.cell 0 rfl 2 rfl, hS31.cell 0 rfl 3 rfl, trivial⟩ ?_
 obtain ⟨t39, ht40, hf⟩ := bind_some hf
 refine WL.call (some 37) 28 #[(sv Aa p0 ca), (iv p1), (iv p2), (.agg #[(.slice none 0 0), (sv Ac p3.East cc), (sv Ad p3.South cd), (sv Ae p3.West ce)])] (fun fb => by kernel_rfl) (fill_Count_calls _ p0 p1 p2 (Edges.mk ([] : List Int) p3.East p3.South p3.West) Aa ca none 0 Ac cc Ad cd Ae ce t39 _ (hS31.rd 0) (RO.nilR _ _ _) (hS31.rd 2) (hS31.rd 3) (hS31.rd 4) ht40) (fun v w41 hR42 => ?_)
 obtain ⟨rfl, hk_⟩ := hR42
 have hS43 := hS31.keepN hk_
 refine ⟨trivial, ?_⟩
 refine seg 10 [] [0, 1, 2, 7, 9, 10] [(0, (sv Aa p0 ca)), (1, (iv p1)), (2, (iv p2)), (7, (pt g1)), (9, (iv t39.1)), (10, (iv t39.2))] [] (fun fb => by kernel_rfl) rfl trivial ?_
 refine WL.done rfl (WX.next (WC.seq (WC.seq (WC.region ?_))))
 refine seg 2 [] [0, 1, 2, 7, 9, 10, 41] [(0, (sv Aa p0 ca)), (1, (iv p1)), (2, (iv p2)), (7, (pt g1)), (9, (iv t39.1)), (10, (iv t39.2)), (41, (bv (t39.2 != 0)))] [] (fun fb => by kernel_rfl) rfl trivial ?_
 refine WL.done rfl (WX.next ?_)
 rcases br_some hf with ⟨h44, hf⟩ | ⟨h44, hf⟩
 ·refine WC.condT2 (fun fb => by kernel_rfl) h44 ?_
  refine WC.seq (WC.region ?_)
  refine seg 3 [] [44] [(44, (bv (t39.2 == 4)))] [] (fun fb => by kernel_rfl) rfl trivial ?_
  obtain ⟨x45, hx46, hf⟩ := bind_some hf
  refine WL.cutW (T := Bool) 5 (fun t => [(46, (bv t))]) (fun t w1 => (St NoS w w1 [rowR enc_Tile Aa ca p0, rowR encInt Ab cb p3.North, rowR encInt Ac cc p3.East, rowR encInt Ad cd p3.South, rowR encInt Ae ce p3.West, cel ⟨2, 0, none⟩ (iv mG)] [] ∧ x45 = t) ∧ CellsOK [] w1) (fun K => ?_) ?_
  ·
   rcases br_some hx46 with ⟨h47, hx46⟩ | ⟨h47, hx46⟩
   ·
    refine WL.setB 44 h47 rfl ?_
    obtain ⟨t48, ht49, hx46⟩ := bind_some hx46
    refine WL.call (some 45) 26 #[] (fun fb => by kernel_rfl) (law02_awake_calls _ mG t48 _ (hS43.rd 5) ht49) (fun v w50 hR51 => ?_)
    obtain ⟨rfl, hk_⟩ := hR51
    have hS52 := hS43.keepN hk_
    refine ⟨trivial, ?_⟩
    refine seg 5 [] [46] [(46, (bv t48))] [] (fun fb => by kernel_rfl) rfl trivial ?_
    injection hx46 with hx46
    exact WL.to K t48 [46] rfl ⟨⟨(hS52.subR [0, 1, 2, 3, 4, 5]).sub [] (by decide), hx46.symm⟩, trivial⟩
   refine WL.setB 44 h47 rfl ?_
   refine seg 5 [] [46] [(46, (bv false))] [] (fun fb => by kernel_rfl) rfl trivial ?_
   injection hx46 with hx46
   exact WL.to K false [46] rfl ⟨⟨(hS43.subR [0, 1, 2, 3, 4, 5]).sub [] (by decide), hx46.symm⟩, trivial⟩
  rintro y53 w55 ⟨⟨hS56, hq54⟩, hF57⟩
  subst hq54
  refine seg 6 [] [8] [(8, (bv x45))] [] (fun fb => by kernel_rfl) rfl trivial ?_
  refine WL.done rfl (WX.next ?_)
  refine WC.ret ?_
  injection hf with hf
  subst hf
  exact WX.thenR (WX.ret_ [] (bv x45) [] (fun fb => by kernel_rfl) trivial ⟨_, rfl, rfl, hS56.keep⟩)
 refine WC.condF2 (fun fb => by kernel_rfl) h44 ?_
 refine WC.skip (WX.next (WC.seq (WC.region ?_)))
 refine seg 1 [] [0, 1, 2, 7, 9, 47] [(0, (sv Aa p0 ca)), (1, (iv p1)), (2, (iv p2)), (7, (pt g1)), (9, (iv t39.1)), (47, (sv Aa p0 ca))] [] (fun fb => by kernel_rfl) rfl trivial ?_
 obtain ⟨t58, ht59, hf⟩ := bind_some hf
 refine WL.call (some 48) 38 #[(sv Aa p0 ca)] (fun fb => by kernel_rfl) (ref02_Colours_calls _ p0 Aa ca t58 _ (hS43.rd 0) ht59) (fun v w60 hR61 => ?_)
 obtain ⟨A63, c65, rfl, hk_⟩ := hR61
 have hS62 := hS.go w60 [rowO 3 encInt A63 c65 t58, blk g1 (.cells #[(.slice none 0 0), (.slice Ac p3.East.length cc), (.slice Ad p3.South.length cd), (.slice Ae p3.West.length ce)] 44 (0, 0))] (hS43.call hk_ [] [0] (fun g hg => hg.elim) (by simp) (by decide))
 refine ⟨trivial, ?_⟩
 refine seg 3 [] [0, 1, 2, 7, 9, 48, 49] [(0, (sv Aa p0 ca)), (1, (iv p1)), (2, (iv p2)), (7, (pt g1)), (9, (iv t39.1)), (48, (sv A63 t58 c65)), (49, (iv p1))] [] (fun fb => by kernel_rfl) rfl trivial ?_
 obtain ⟨t66, ht67, hf⟩ := bind_some hf
 refine WL.call (some 50) 39 #[(sv A63 t58 c65), (iv p1)] (fun fb => by kernel_rfl) (law02_lists_calls _ t58 p1 A63 c65 t66 _ (hS62.ow 0).ofO ht67) (fun v w68 hR69 => ?_)
 obtain ⟨A71, c72, H73, rfl, hk_⟩ := hR69
 have hS70 := hS62.go w68 [rowO 25 (encSl Int) A71 c72 (tag H73 t66), rowsO 3 encInt H73 t66, rowO 3 encInt A63 c65 t58, blk g1 (.cells #[(.slice none 0 0), (.slice Ac p3.East.length cc), (.slice Ad p3.South.length cd), (.slice Ae p3.West.length ce)] 44 (0, 0))] (hS62.call hk_ [] [0, 1] (fun g hg => hg.elim) (by simp) (by decide))
 refine ⟨trivial, ?_⟩
 refine seg 5 [] [0, 1, 2, 7, 9, 11] [(0, (sv Aa p0 ca)), (1, (iv p1)), (2, (iv p2)), (7, (pt g1)), (9, (iv t39.1)), (11, (sv A71 t66 c72))] [] (fun fb => by kernel_rfl) rfl trivial ?_
 refine WL.done rfl (WX.next (WC.seq (WC.region ?_)))
 refine seg 1 [] [0, 1, 2, 7, 9, 11, 12] [(0, (sv Aa p0 ca)), (1, (iv p1)), (2, (iv p2)), (7, (pt g1)), (9, (iv t39.1)), (11, (sv A71 t66 c72)), (12, (iv 0))] [] (fun fb => by kernel_rfl) rfl trivial ?_
 refine WL.done rfl (WX.next (WC.seq (WC.seq (WC.region ?_))))
 refine seg 1 [] [0, 1, 2, 7, 9, 11, 12, 13] [(0, (sv Aa p0 ca)), (1, (iv p1)), (2, (iv p2)), (7, (pt g1)), (9, (iv t39.1)), (11, (sv A71 t66 c72)), (12, (iv 0)), (13, (iv 0))] [] (fun fb => by kernel_rfl) rfl trivial ?_
 refine WL.done rfl (WX.next ?_)
 have hS74 : St NoS w w68 [rowsO 3 encInt H73 t66, rowR enc_Tile Aa ca p0, rowR encInt Ab cb p3.North, rowR encInt Ac cc p3.East, rowR encInt Ad cd p3.South, rowR encInt Ae ce p3.West, cel ⟨2, 0, none⟩ (iv mG)] [rowO 25 (encSl Int) A71 c72 (tag H73 t66), rowO 3 encInt A63 c65 t58, blk g1 (.cells #[(.slice none 0 0), (sv Ac p3.East cc), (sv Ad p3.South cd), (sv Ae p3.West ce)] 44 (0, 0))] := hS70.freezeO 1 [0, 2, 3] (by decide) (by decide)
 have hS75 : St NoS w w68 [rowR (encSl Int) A71 c72 (tag H73 t66), rowsO 3 encInt H73 t66, rowR enc_Tile Aa ca p0, rowR encInt Ab cb p3.North, rowR encInt Ac cc p3.East, rowR encInt Ad cd p3.South, rowR encInt Ae ce p3.West, cel ⟨2, 0, none⟩ (iv mG)] [rowO 3 encInt A63 c65 t58, blk g1 (.cells #[(.slice none 0 0), (sv Ac p3.East cc), (sv Ad p3.South cd), (sv Ae p3.West ce)] 44 (0, 0))] := hS74.freezeRow 0 rfl [1, 2] (by decide) (by decide)
 obtain ⟨x79, hx80, hf⟩ := bind_some hf
 refine WC.cutN (T := Int) (fun t => [(9, (iv t39.1)), (12, (iv t))]) (fun t w1 => St NoS w w1 [rowR (encSl Int) A71 c72 (tag H73 t66), rowsO 3 encInt H73 t66, rowR enc_Tile Aa ca p0, rowR encInt Ab cb p3.North, rowR encInt Ac cc p3.East, rowR encInt Ad cd p3.South, rowR encInt Ae ce p3.West, cel ⟨2, 0, none⟩ (iv mG)] [] ∧ x79 = .inr t) (fun Kx79 => ?_) ?_
 ·
  refine WC.block ?_
  refine WC.loop (T := (Int × Int) × Value) (fun t => [(0, (sv Aa p0 ca)), (1, (iv p1)), (2, (iv p2)), (7, (pt g1)), (9, (iv t39.1)), (11, (sv A71 t66 c72)), (12, (iv t.1.1)), (13, (iv t.1.2))]) (fun n t w1 => St NoS w w1 [rowR (encSl Int) A71 c72 (tag H73 t66), rowsO 3 encInt H73 t66, rowR enc_Tile Aa ca p0, rowR encInt Ab cb p3.North, rowR encInt Ac cc p3.East, rowR encInt Ad cd p3.South, rowR encInt Ae ce p3.West, cel ⟨2, 0, none⟩ (iv mG)] [blk g1 (.cells #[t.2, (sv Ac p3.East cc), (sv Ad p3.South cd), (sv Ae p3.West ce)] 44 (0, 0))] ∧ law02_FillSum.l0 n t.1.1 t.1.2 p0 p1 p2 p3 t39 t66 = some x79) k ((0, 0), (.slice none 0 0)) [0, 1, 2, 7, 9, 11, 12, 13] rfl ⟨(hS75.subR [0, 1, 2, 3, 4, 5, 6, 7]).sub [1] (by decide), hx80⟩ ?_
  rintro k81 ⟨⟨x77, x78⟩, v76⟩ w82 ⟨hS83, hl84⟩
  cases k81 with
  | zero => rw [law02_FillSum.l0] at hl84; cases hl84
  | succ k81 =>
   rw [law02_FillSum.l0] at hl84
   refine WC.seq (WC.seq (WC.region ?_))
   refine seg 4 [] [0, 1, 2, 7, 9, 11, 12, 13, 54] [(0, (sv Aa p0 ca)), (1, (iv p1)), (2, (iv p2)), (7, (pt g1)), (9, (iv t39.1)), (11, (sv A71 t66 c72)), (12, (iv x77)), (13, (iv x78)), (54, (bv (decide (x78 < (t66.length : Int)))))] [] (fun fb => by kernel_rfl) rfl trivial ?_
   refine WL.done rfl (WX.next ?_)
   rcases br_some hl84 with ⟨h85, hl84⟩ | ⟨h85, hl84⟩
   ·refine WC.condT2 (fun fb => by kernel_rfl) h85 ?_
    refine WC.skip (WX.next (WC.seq (WC.block (WC.seq (WC.region ?_)))))
    refine seg 2 [] [0, 1, 2, 7, 9, 11, 12, 13, 57, 58] [(0, (sv Aa p0 ca)), (1, (iv p1)), (2, (iv p2)), (7, (pt g1)), (9, (iv t39.1)), (11, (sv A71 t66 c72)), (12, (iv x77)), (13, (iv x78)), (57, (sv A71 t66 c72)), (58, (iv x78))] [] (fun fb => by kernel_rfl) rfl trivial ?_
    obtain ⟨h86, hl84⟩ := as_some hl84
    refine seg 5 [.v (sv ((H73 x78.toNat).1) (rdD t66 x78 []) ((H73 x78.toNat).2))] [0, 1, 2, 7, 9, 11, 12, 13, 60, 61] [(0, (sv Aa p0 ca)), (1, (iv p1)), (2, (iv p2)), (7, (pt g1)), (9, (iv t39.1)), (11, (sv A71 t66 c72)), (12, (iv x77)), (13, (iv x78)), (60, (sv ((H73 x78.toNat).1) (rdD t66 x78 []) ((H73 x78.toNat).2))), (61, (pt g1))] [.idx A71 x78 t66.length, .cell ((adr A71).add ((x78).toNat * 1)) (sv ((H73 x78.toNat).1) (rdD t66 x78 []) ((H73 x78.toNat).2))] (fun fb => by kernel_rfl) rfl ⟨nrow_adr (hS83.rd 0).1 h86.1 h86.2, nrow_cell (hS83.rd 0).1 [] h86.1 h86.2 0 rfl, trivial⟩ ?_
    have hS87 : St NoS w w82 [rowR encInt ((H73 x78.toNat).1) ((H73 x78.toNat).2) (rdD t66 x78 []), rowR (encSl Int) A71 c72 (tag H73 t66), rowsO 3 encInt H73 t66, rowR enc_Tile Aa ca p0, rowR encInt Ab cb p3.North, rowR encInt Ac cc p3.East, rowR encInt Ad cd p3.South, rowR encInt Ae ce p3.West, cel ⟨2, 0, none⟩ (iv mG)] [blk g1 (.cells #[v76, (sv Ac p3.East cc), (sv Ad p3.South cd), (sv Ae p3.West ce)] 44 (0, 0))] := hS83.addR _ (rowsO.ro (hS83.rdL 1) h86.1 h86.2).ofO
    refine WL.store hS87 0 rfl [(0, (sv ((H73 x78.toNat).1) (rdD t66 x78 []) ((H73 x78.toNat).2)))] #[(sv ((H73 x78.toNat).1) (rdD t66 x78 []) ((H73 x78.toNat).2)), (sv Ac p3.East cc), (sv Ad p3.South cd), (sv Ae p3.West ce)] (fun fb => by kernel_rfl) (by kernel_rfl) rfl [] (by decide) (by decide) (fun w88 hS89 => ?_)
    refine ⟨trivial, ?_⟩
    refine WL.done rfl (WX.next (WC.seq (WC.region ?_)))
    refine seg 4 [.v (sv ((H73 x78.toNat).1) (rdD t66 x78 []) ((H73 x78.toNat).2)), .v (sv Ac p3.East cc), .v (sv Ad p3.South cd), .v (sv Ae p3.West ce)] [0, 1, 2, 7, 9, 11, 12, 13, 63, 64, 65, 66] [(0, (sv Aa p0 ca)), (1, (iv p1)), (2, (iv p2)), (7, (pt g1)), (9, (iv t39.1)), (11, (sv A71 t66 c72)), (12, (iv x77)), (13, (iv x78)), (63, (sv Aa p0 ca)), (64, (iv p1)), (65, (iv p2)), (66, (.agg #[(sv ((H73 x78.toNat).1) (rdD t66 x78 []) ((H73 x78.toNat).2)), (sv Ac p3.East cc), (sv Ad p3.South cd), (sv Ae p3.West ce)]))] [.cell ⟨g1, 0, none⟩ (sv ((H73 x78.toNat).1) (rdD t66 x78 []) ((H73 x78.toNat).2)), .cell ⟨g1, 1, none⟩ (sv Ac p3.East cc), .cell ⟨g1, 2, none⟩ (sv Ad p3.South cd), .cell ⟨g1, 3, none⟩ (sv Ae p3.West ce)] (fun fb => by kernel_rfl) rfl ⟨hS89.cell 0 rfl 0 rfl, hS89.cell 0 rfl 1 rfl, hS89.cell 0 rfl 2 rfl, hS89.cell 0 rfl 3 rfl, trivial⟩ ?_
    obtain ⟨t90, ht91, hl84⟩ := bind_some hl84
    refine WL.call (some 67) 28 #[(sv Aa p0 ca), (iv p1), (iv p2), (.agg #[(sv ((H73 x78.toNat).1) (rdD t66 x78 []) ((H73 x78.toNat).2)), (sv Ac p3.East cc), (sv Ad p3.South cd), (sv Ae p3.West ce)])] (fun fb => by kernel_rfl) (fill_Count_calls _ p0 p1 p2 (Edges.mk (rdD t66 x78 []) p3.East p3.South p3.West) Aa ca ((H73 x78.toNat).1) ((H73 x78.toNat).2) Ac cc Ad cd Ae ce t90 _ (hS89.rd 3) (hS89.rd 0) (hS89.rd 5) (hS89.rd 6) (hS89.rd 7) ht91) (fun v w92 hR93 => ?_)
    obtain ⟨rfl, hk_⟩ := hR93
    have hS94 := hS89.keepN hk_
    refine ⟨trivial, ?_⟩
    refine seg 10 [] [0, 1, 2, 7, 9, 11, 12, 13, 14, 15] [(0, (sv Aa p0 ca)), (1, (iv p1)), (2, (iv p2)), (7, (pt g1)), (9, (iv t39.1)), (11, (sv A71 t66 c72)), (12, (iv x77)), (13, (iv x78)), (14, (iv t90.1)), (15, (iv t90.2))] [] (fun fb => by kernel_rfl) rfl trivial ?_
    refine WL.done rfl (WX.next (WC.seq (WC.seq (WC.region ?_))))
    refine seg 3 [] [0, 1, 2, 7, 9, 11, 12, 13, 14, 72] [(0, (sv Aa p0 ca)), (1, (iv p1)), (2, (iv p2)), (7, (pt g1)), (9, (iv t39.1)), (11, (sv A71 t66 c72)), (12, (iv x77)), (13, (iv x78)), (14, (iv t90.1)), (72, (bv (t90.2 != 0)))] [] (fun fb => by kernel_rfl) rfl trivial ?_
    refine WL.cutV (T := Bool) 6 (fun t => [(75, (bv t)), (0, (sv Aa p0 ca)), (1, (iv p1)), (2, (iv p2)), (7, (pt g1)), (9, (iv t39.1)), (11, (sv A71 t66 c72)), (12, (iv x77)), (13, (iv x78)), (14, (iv t90.1))]) (fun t => ((t90.2 != 0) || (decide (t90.1 < 0))) = t) (fun K => ?_) ?_
    ·
     rcases Bool.eq_false_or_eq_true (t90.2 != 0) with h95 | h95
     ·
      refine WL.setB 72 h95 rfl ?_
      refine seg 6 [] [0, 1, 2, 7, 9, 11, 12, 13, 14, 75] [(0, (sv Aa p0 ca)), (1, (iv p1)), (2, (iv p2)), (7, (pt g1)), (9, (iv t39.1)), (11, (sv A71 t66 c72)), (12, (iv x77)), (13, (iv x78)), (14, (iv t90.1)), (75, (bv true))] [] (fun fb => by kernel_rfl) rfl trivial ?_
      exact WL.toV K true [75, 0, 1, 2, 7, 9, 11, 12, 13, 14] rfl (by first | (rw [h95]; done) | (rw [h95]; rfl))
     refine WL.setB 72 h95 rfl ?_
     refine seg 6 [] [0, 1, 2, 7, 9, 11, 12, 13, 14, 75] [(0, (sv Aa p0 ca)), (1, (iv p1)), (2, (iv p2)), (7, (pt g1)), (9, (iv t39.1)), (11, (sv A71 t66 c72)), (12, (iv x77)), (13, (iv x78)), (14, (iv t90.1)), (75, (bv (decide (t90.1 < 0))))] [] (fun fb => by kernel_rfl) rfl trivial ?_
     exact WL.toV K (decide (t90.1 < 0)) [75, 0, 1, 2, 7, 9, 11, 12, 13, 14] rfl (by first | (rw [h95]; done) | (rw [h95]; rfl))
    rintro b96 rfl
    refine seg 7 [] [0, 1, 2, 7, 9, 11, 12, 13, 14, 76] [(0, (sv Aa p0 ca)), (1, (iv p1)), (2, (iv p2)), (7, (pt g1)), (9, (iv t39.1)), (11, (sv A71 t66 c72)), (12, (iv x77)), (13, (iv x78)), (14, (iv t90.1)), (76, (bv ((t90.2 != 0) || (decide (t90.1 < 0)))))] [] (fun fb => by kernel_rfl) rfl trivial ?_
    refine WL.cutV (T := Bool) 11 (fun t => [(80, (bv t)), (0, (sv Aa p0 ca)), (1, (iv p1)), (2, (iv p2)), (7, (pt g1)), (9, (iv t39.1)), (11, (sv A71 t66 c72)), (12, (iv x77)), (13, (iv x78)), (14, (iv t90.1))]) (fun t => (((t90.2 != 0) || (decide (t90.1 < 0))) || (decide (t90.1 > t39.1))) = t) (fun K => ?_) ?_
    ·
     rcases Bool.eq_false_or_eq_true ((t90.2 != 0) || (decide (t90.1 < 0))) with h97 | h97
     ·
      refine WL.setB 76 h97 rfl ?_
      refine seg 11 [] [0, 1, 2, 7, 9, 11, 12, 13, 14, 80] [(0, (sv Aa p0 ca)), (1, (iv p1)), (2, (iv p2)), (7, (pt g1)), (9, (iv t39.1)), (11, (sv A71 t66 c72)), (12, (iv x77)), (13, (iv x78)), (14, (iv t90.1)), (80, (bv true))] [] (fun fb => by kernel_rfl) rfl trivial ?_
      exact WL.toV K true [80, 0, 1, 2, 7, 9, 11, 12, 13, 14] rfl (by first | (rw [h97]; done) | (rw [h97]; rfl))
     refine WL.setB 76 h97 rfl ?_
     refine seg 11 [] [0, 1, 2, 7, 9, 11, 12, 13, 14, 80] [(0, (sv Aa p0 ca)), (1, (iv p1)), (2, (iv p2)), (7, (pt g1)), (9, (iv t39.1)), (11, (sv A71 t66 c72)), (12, (iv x77)), (13, (iv x78)), (14, (iv t90.1)), (80, (bv (decide (t90.1 > t39.1))))] [] (fun fb => by kernel_rfl) rfl trivial ?_
     exact WL.toV K (decide (t90.1 > t39.1)) [80, 0, 1, 2, 7, 9, 11, 12, 13, 14] rfl (by first | (rw [h97]; done) | (rw [h97]; rfl))
    rintro b98 rfl
    refine WL.done rfl (WX.next ?_)
    rcases br_some hl84 with ⟨h99, hl84⟩ | ⟨h99, hl84⟩
    ·refine WC.condT2 (fun fb => by kernel_rfl) h99 ?_
     refine WC.seq (WC.region ?_)
     refine seg 1 [] [8] [(8, (bv false))] [] (fun fb => by kernel_rfl) rfl trivial ?_
     refine WL.done rfl (WX.next ?_)
     refine WC.ret ?_
     injection hl84 with hl84
     subst hl84
     injection hf with hf
     subst hf
     exact WX.thenR (WX.blockR (WX.thenR (WX.thenR (WX.blockR (WX.thenR (WX.ret_ [] (bv false) [] (fun fb => by kernel_rfl) trivial ⟨_, rfl, rfl, hS94.keep⟩))))))
    refine WC.condF2 (fun fb => by kernel_rfl) h99 ?_
    refine WC.skip (WX.next (WC.region ?_))
    refine seg 5 [] [0, 1, 2, 7, 9, 11, 12, 13] [(0, (sv Aa p0 ca)), (1, (iv p1)), (2, (iv p2)), (7, (pt g1)), (9, (iv t39.1)), (11, (sv A71 t66 c72)), (12, (iv (minI (w64 (x77 + t90.1)) 1152921504606846977))), (13, (iv x78))] [] (fun fb => by kernel_rfl) rfl trivial ?_
    refine WL.done rfl ?_
    refine WX.blockN (WX.next ?_)
    refine WC.region ?_
    refine seg 3 [] [0, 1, 2, 7, 9, 11, 12, 13] [(0, (sv Aa p0 ca)), (1, (iv p1)), (2, (iv p2)), (7, (pt g1)), (9, (iv t39.1)), (11, (sv A71 t66 c72)), (12, (iv (minI (w64 (x77 + t90.1)) 1152921504606846977))), (13, (iv (w64 (x78 + 1))))] [] (fun fb => by kernel_rfl) rfl trivial ?_
    refine WL.done rfl ?_
    exact WX.again k81 (Nat.lt_succ_self _) ((minI (w64 (x77 + t90.1)) 1152921504606846977, w64 (x78 + 1)), (sv ((H73 x78.toNat).1) (rdD t66 x78 []) ((H73 x78.toNat).2))) [0, 1, 2, 7, 9, 11, 12, 13] rfl ⟨(hS94.subR [1, 2, 3, 4, 5, 6, 7, 8]).sub [0] (by decide), hl84⟩
   refine WC.condF2 (fun fb => by kernel_rfl) h85 ?_
   refine WC.exit ?_
   injection hl84 with hl84
   exact WX.thenX (WX.thenX (WX.blockHere (WX.to Kx79 x77 [9, 12] rfl ⟨(hS83.subR [0, 1, 2, 3, 4, 5, 6, 7]).sub [] (by decide), hl84.symm⟩)))
 rintro y103 w100 ⟨hS101, hq102⟩
 subst hq102
 have hf := sum_inr hf
 refine WX.next (WC.seq (WC.region ?_))
 refine seg 4 [] [88] [(88, (bv (y103 == t39.1)))] [] (fun fb => by kernel_rfl) rfl trivial ?_
 obtain ⟨x104, hx105, hf⟩ := bind_some hf
 refine WL.cutW (T := Bool) 6 (fun t => [(90, (bv t))]) (fun t w1 => (St NoS w w1 [rowR (encSl Int) A71 c72 (tag H73 t66), rowsO 3 encInt H73 t66, rowR enc_Tile Aa ca p0, rowR encInt Ab cb p3.North, rowR encInt Ac cc p3.East, rowR encInt Ad cd p3.South, rowR encInt Ae ce p3.West, cel ⟨2, 0, none⟩ (iv mG)] [] ∧ x104 = t) ∧ CellsOK [] w1) (fun K => ?_) ?_
 ·
  rcases br_some hx105 with ⟨h106, hx105⟩ | ⟨h106, hx105⟩
  ·
   refine WL.setB 88 h106 rfl ?_
   obtain ⟨t107, ht108, hx105⟩ := bind_some hx105
   refine WL.call (some 89) 26 #[] (fun fb => by kernel_rfl) (law02_awake_calls _ mG t107 _ (hS101.rd 7) ht108) (fun v w109 hR110 => ?_)
   obtain ⟨rfl, hk_⟩ := hR110
   have hS111 := hS101.keepN hk_
   refine ⟨trivial, ?_⟩
   refine seg 6 [] [90] [(90, (bv t107))] [] (fun fb => by kernel_rfl) rfl trivial ?_
   injection hx105 with hx105
   exact WL.to K t107 [90] rfl ⟨⟨(hS111.subR [0, 1, 2, 3, 4, 5, 6, 7]).sub [] (by decide), hx105.symm⟩, trivial⟩
  refine WL.setB 88 h106 rfl ?_
  refine seg 6 [] [90] [(90, (bv false))] [] (fun fb => by kernel_rfl) rfl trivial ?_
  injection hx105 with hx105
  exact WL.to K false [90] rfl ⟨⟨(hS101.subR [0, 1, 2, 3, 4, 5, 6, 7]).sub [] (by decide), hx105.symm⟩, trivial⟩
 rintro y112 w114 ⟨⟨hS115, hq113⟩, hF116⟩
 subst hq113
 refine seg 7 [] [8] [(8, (bv x104))] [] (fun fb => by kernel_rfl) rfl trivial ?_
 refine WL.done rfl (WX.next ?_)
 refine WC.ret ?_
 injection hf with hf
 subst hf
 exact WX.ret_ [] (bv x104) [] (fun fb => by kernel_rfl) trivial ⟨_, rfl, rfl, hS115.keep⟩
end Gp
