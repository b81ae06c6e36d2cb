/- Walks: each function of the program computes its plain function. -/
import Derived.Test.YtjfmjfheeijfiaaDoorGx3
set_option linter.unusedVariables false
set_option linter.unusedSimpArgs false
set_option maxHeartbeats 4000000
namespace Gp
open Go Gw Go.Proofs
theorem ref02_extend_calls : ∀ (k : Nat) (p0 : List Tile) (p1 : List Int) (p2 : Row_ref02) (p3 : Int) (p4 : Int) (p5 : List Row_ref02) (Aa : Option Addr) (ca : Nat) (Ab : Option Addr) (cb : Nat) (Ac : Option Addr) (cc : Nat) (Ad : Option Addr) (cd : Nat) (Ha : Nat → HF) (r : (List Row_ref02)) (w : World) (hR0 : RO (fpL [rowO 3 encInt Ac cc p2.Cells, rowO 88 encN_Row_ref02 Ad cd (tag Ha p5), poolO [nestO subN_Row_ref02 Ha p5]]) w (rowR enc_Tile Aa ca p0)) (hR1 : RO (fpL [rowO 3 encInt Ac cc p2.Cells, rowO 88 encN_Row_ref02 Ad cd (tag Ha p5), poolO [nestO subN_Row_ref02 Ha p5]]) w (rowR encInt Ab cb p1)) (hI : IoOK w [rowO 3 encInt Ac cc p2.Cells, rowO 88 encN_Row_ref02 Ad cd (tag Ha p5), poolO [nestO subN_Row_ref02 Ha p5]]) (hf : ref02_extend k p0 p1 p2 p3 p4 p5 = some r),
  CallsR Tryd.prog 85 #[(sv Aa p0 ca), (sv Ab p1 cb), (.agg #[(sv Ac p2.Cells cc), (iv p2.South), (iv p2.North)]), (iv p3), (iv p4), (sv Ad p5 cd)] w (fun v w' => ∃ (A1_ : Option Addr), ∃ (c1_ : Nat), ∃ (h1_ : Nat → HF), v = (sv A1_ r c1_) ∧ St (fpL [rowO 3 encInt Ac cc p2.Cells, rowO 88 encN_Row_ref02 Ad cd (tag Ha p5), poolO [nestO subN_Row_ref02 Ha p5]]) w w' [] [rowO 88 encN_Row_ref02 A1_ c1_ (tag h1_ r), poolO [nestO subN_Row_ref02 h1_ r]]) := by
 intro k
 induction k with
 | zero => intro p0 p1 p2 p3 p4 p5 Aa ca Ab cb Ac cc Ad cd Ha r w hR0 hR1 hI hf; rw [ref02_extend] at hf; cases hf
 | succ k ih_ =>
 intro p0 p1 p2 p3 p4 p5 Aa ca Ab cb Ac cc Ad cd Ha r w hR0 hR1 hI hf
 have hS : St (fpL [rowO 3 encInt Ac cc p2.Cells, rowO 88 encN_Row_ref02 Ad cd (tag Ha p5), poolO [nestO subN_Row_ref02 Ha p5]]) w w [rowR enc_Tile Aa ca p0, rowR encInt Ab cb p1] [rowO 3 encInt Ac cc p2.Cells, rowO 88 encN_Row_ref02 Ad cd (tag Ha p5), poolO [nestO subN_Row_ref02 Ha p5]] := St.initIO (ro_cons hR0 (ro_cons hR1 (ro_nil _ _))) hI
 rw [ref02_extend] at hf
 generalize ref02_extend k = rc_ at hf ih_
 refine enter 93 Tryd.func85 rfl Tryd.ntmps85 rfl ?_
 refine WC.seq (WC.region ?_)
 refine WL.new hS 8 [] (fun g => (pt g)) (.cells #[(sv Ac p2.Cells cc), (iv p2.South), (iv p2.North)] 88 (0, 0)) [] (fun fb g => by kernel_rfl) trivial (fun g6 w7 hS8 => ?_)
 refine ⟨trivial, ?_⟩
 refine seg 2 [] [0, 1, 3, 4, 5, 8] [(0, (sv Aa p0 ca)), (1, (sv Ab p1 cb)), (3, (iv p3)), (4, (iv p4)), (5, (sv Ad p5 cd)), (8, (pt g6))] [] (fun fb => by kernel_rfl) rfl trivial ?_
 refine WL.done rfl (WX.next (WC.seq (WC.seq (WC.region ?_))))
 refine seg 5 [.v (sv Ac p2.Cells cc)] [0, 1, 3, 4, 5, 8, 20] [(0, (sv Aa p0 ca)), (1, (sv Ab p1 cb)), (3, (iv p3)), (4, (iv p4)), (5, (sv Ad p5 cd)), (8, (pt g6)), (20, (bv ((p2.Cells.length : Int) == p3)))] [.cell ⟨g6, 0, none⟩ (sv Ac p2.Cells cc)] (fun fb => by kernel_rfl) rfl ⟨hS8.cell 0 rfl 0 rfl, trivial⟩ ?_
 refine WL.done rfl (WX.next ?_)
 rcases br_some hf with ⟨h9, hf⟩ | ⟨h9, hf⟩
 ·refine WC.condT2 (fun fb => by kernel_rfl) h9 ?_
  refine WC.seq (WC.region ?_)
  refine seg 2 [.v (sv Ac p2.Cells cc), .v (iv p2.South), .v (iv p2.North)] [21, 22] [(21, (sv Ad p5 cd)), (22, (.agg #[(sv Ac p2.Cells cc), (iv p2.South), (iv p2.North)]))] [.cell ⟨g6, 0, none⟩ (sv Ac p2.Cells cc), .cell ⟨g6, 1, none⟩ (iv p2.South), .cell ⟨g6, 2, none⟩ (iv p2.North)] (fun fb => by kernel_rfl) rfl ⟨hS8.cell 0 rfl 0 rfl, hS8.cell 0 rfl 1 rfl, hS8.cell 0 rfl 2 rfl, trivial⟩ ?_
  refine WL.new hS8 23 [] (fun g => (.slice (some ⟨g, 0, none⟩) 1 1)) (.cells #[(sv Ac p2.Cells cc), (iv p2.South), (iv p2.North)] 88 (0, 0)) [] (fun fb g => by kernel_rfl) trivial (fun g10 w11 hS12 => ?_)
  refine ⟨trivial, ?_⟩
  have hS13 := hS.go w11 [rowO 88 encN_Row_ref02 (some ⟨g10, 0, none⟩) 1 [((hd1 Ac cc), p2)], blk g6 (.cells #[(sv Ac p2.Cells cc), (iv p2.South), (iv p2.North)] 88 (0, 0)), rowO 3 encInt Ac cc p2.Cells, rowO 88 encN_Row_ref02 Ad cd (tag Ha p5), poolO [nestO subN_Row_ref02 Ha p5]] (hS12.map1 0 _ (fun h => rowO.ofBlk h rfl (Nat.le_of_ble_eq_true (by kernel_rfl))) (fun _ h => by obtain ⟨_, h1, h2⟩ := h; injection h1 with h1; subst h1; exact h2) [1, 2, 3, 4] (by decide) (by decide))
  obtain ⟨h14, hf⟩ := as_some hf
  refine WL.appendN hS13 3 (d := 24) (tS := 71) (z := (.agg #[(.slice none 0 0), (iv 0), (iv 0)])) (bytes := 40) (c2 := 1) (hx := (hd1 Ac cc)) (x := p2) rfl (fun fb => by kernel_rfl) (rowO.rd (hS13.own 0).1) (by kernel_rfl) (by kernel_rfl) rfl (by decide) h14 (by decide) [0, 1, 2, 4] (by decide) (by decide) (fun A15 c16 w17 hS18 => ?_)
  have hS19 := hS13.go w17 [poolO [nestO subN_Row_ref02 (updH Ha p5.length (hd1 Ac cc)) (p5 ++ [p2])], rowO 88 encN_Row_ref02 A15 c16 (tag (updH Ha p5.length (hd1 Ac cc)) (p5 ++ [p2])), rowO 88 encN_Row_ref02 (some ⟨g10, 0, none⟩) 1 [((hd1 Ac cc), p2)], blk g6 (.cells #[(.slice Ac p2.Cells.length cc), (iv p2.South), (iv p2.North)] 88 (0, 0))] (hS18.poolPush 4 rfl 0 (by simp) rfl (hd1 Ac cc) p2 (hS18.ow 3).ofO [3] (fun g hg => ⟨3, by simp, rowO.fpR (hS18.own 3).1 g hg⟩) _ rfl [0, 1, 2] (by decide) (by decide))
  refine ⟨trivial, ?_⟩
  refine seg 5 [] [12] [(12, (sv A15 (p5 ++ [p2]) c16))] [] (fun fb => by kernel_rfl) rfl trivial ?_
  refine WL.done rfl (WX.next ?_)
  refine WC.ret ?_
  injection hf with hf
  subst hf
  exact WX.thenR (WX.ret_ [] (sv A15 (p5 ++ [p2]) c16) [] (fun fb => by kernel_rfl) trivial ⟨_, rfl, A15, c16, (updH Ha p5.length (hd1 Ac cc)), rfl, (hS19.sub [1, 0] (by decide)).noR⟩)
 refine WC.condF2 (fun fb => by kernel_rfl) h9 ?_
 refine WC.skip (WX.next (WC.seq (WC.seq (WC.region ?_))))
 refine seg 1 [] [0, 1, 3, 4, 5, 8, 13] [(0, (sv Aa p0 ca)), (1, (sv Ab p1 cb)), (3, (iv p3)), (4, (iv p4)), (5, (sv Ad p5 cd)), (8, (pt g6)), (13, (iv 0))] [] (fun fb => by kernel_rfl) rfl trivial ?_
 refine WL.done rfl (WX.next ?_)
 obtain ⟨x28, hx29, hf⟩ := bind_some hf
 refine WC.cutN (T := (List Row_ref02) × (Option Addr) × Nat × (Nat → HF)) (fun t => [(5, (sv t.2.1 t.1 t.2.2.1))]) (fun t w1 => St (fpL [rowO 3 encInt Ac cc p2.Cells, rowO 88 encN_Row_ref02 Ad cd (tag Ha p5), poolO [nestO subN_Row_ref02 Ha p5]]) w w1 [rowR enc_Tile Aa ca p0, rowR encInt Ab cb p1] [rowO 88 encN_Row_ref02 t.2.1 t.2.2.1 (tag t.2.2.2 t.1), poolO [nestO subN_Row_ref02 t.2.2.2 t.1]] ∧ x28 = t.1) (fun Kx28 => ?_) ?_
 ·
  refine WC.block ?_
  refine WC.loop (T := ((List Row_ref02) × Int) × (Option Addr) × Nat × (Nat → HF)) (fun t => [(0, (sv Aa p0 ca)), (1, (sv Ab p1 cb)), (3, (iv p3)), (4, (iv p4)), (5, (sv t.2.1 t.1.1 t.2.2.1)), (8, (pt g6)), (13, (iv t.1.2))]) (fun n t w1 => St (fpL [rowO 3 encInt Ac cc p2.Cells, rowO 88 encN_Row_ref02 Ad cd (tag Ha p5), poolO [nestO subN_Row_ref02 Ha p5]]) w w1 [rowR enc_Tile Aa ca p0, rowR encInt Ab cb p1] [rowO 88 encN_Row_ref02 t.2.1 t.2.2.1 (tag t.2.2.2 t.1.1), poolO [nestO subN_Row_ref02 t.2.2.2 t.1.1], blk g6 (.cells #[(sv Ac p2.Cells cc), (iv p2.South), (iv p2.North)] 88 (0, 0)), rowO 3 encInt Ac cc p2.Cells] ∧ ref02_extend.l0 n t.1.1 t.1.2 p0 p1 p2 p3 p4 rc_ = some x28) k ((p5, 0), Ad, cd, Ha) [0, 1, 3, 4, 5, 8, 13] rfl ⟨(hS8.subR [0, 1]).sub [2, 3, 0, 1] (by decide), hx29⟩ ?_
  rintro k30 ⟨⟨l22, x24⟩, A20, c21, H23⟩ w31 ⟨hS32, hl33⟩
  cases k30 with
  | zero => rw [ref02_extend.l0] at hl33; cases hl33
  | succ k30 =>
   rw [ref02_extend.l0] at hl33
   refine WC.seq (WC.seq (WC.region ?_))
   refine seg 4 [] [0, 1, 3, 4, 5, 8, 13, 28] [(0, (sv Aa p0 ca)), (1, (sv Ab p1 cb)), (3, (iv p3)), (4, (iv p4)), (5, (sv A20 l22 c21)), (8, (pt g6)), (13, (iv x24)), (28, (bv (decide (x24 < (p0.length : Int)))))] [] (fun fb => by kernel_rfl) rfl trivial ?_
   refine WL.done rfl (WX.next ?_)
   rcases br_some hl33 with ⟨h34, hl33⟩ | ⟨h34, hl33⟩
   ·refine WC.condT2 (fun fb => by kernel_rfl) h34 ?_
    refine WC.skip (WX.next (WC.seq ?_))
    obtain ⟨x38, hx39, hl33⟩ := bind_some hl33
    refine WC.cutN (T := (List Row_ref02) × (Option Addr) × Nat × (Nat → HF)) (fun t => [(0, (sv Aa p0 ca)), (1, (sv Ab p1 cb)), (3, (iv p3)), (4, (iv p4)), (5, (sv t.2.1 t.1 t.2.2.1)), (8, (pt g6)), (13, (iv x24))]) (fun t w1 => St (fpL [rowO 3 encInt Ac cc p2.Cells, rowO 88 encN_Row_ref02 Ad cd (tag Ha p5), poolO [nestO subN_Row_ref02 Ha p5]]) w w1 [rowR enc_Tile Aa ca p0, rowR encInt Ab cb p1] [rowO 88 encN_Row_ref02 t.2.1 t.2.2.1 (tag t.2.2.2 t.1), poolO [nestO subN_Row_ref02 t.2.2.2 t.1], blk g6 (.cells #[(sv Ac p2.Cells cc), (iv p2.South), (iv p2.North)] 88 (0, 0)), rowO 3 encInt Ac cc p2.Cells] ∧ x38 = t.1) (fun Kx38 => ?_) ?_
    ·
     refine WC.block (WC.seq (WC.region ?_))
     refine seg 2 [] [0, 1, 3, 4, 5, 8, 13, 31, 32] [(0, (sv Aa p0 ca)), (1, (sv Ab p1 cb)), (3, (iv p3)), (4, (iv p4)), (5, (sv A20 l22 c21)), (8, (pt g6)), (13, (iv x24)), (31, (sv Aa p0 ca)), (32, (iv x24))] [] (fun fb => by kernel_rfl) rfl trivial ?_
     obtain ⟨h40, hx39⟩ := as_some hx39
     refine seg 4 [.v (iv ((rdD p0 x24 z_Tile).N)), .v (iv ((rdD p0 x24 z_Tile).E)), .v (iv ((rdD p0 x24 z_Tile).S)), .v (iv ((rdD p0 x24 z_Tile).W))] [0, 1, 3, 4, 5, 8, 13, 34] [(0, (sv Aa p0 ca)), (1, (sv Ab p1 cb)), (3, (iv p3)), (4, (iv p4)), (5, (sv A20 l22 c21)), (8, (pt g6)), (13, (iv x24)), (34, (.agg #[(iv ((rdD p0 x24 z_Tile).N)), (iv ((rdD p0 x24 z_Tile).E)), (iv ((rdD p0 x24 z_Tile).S)), (iv ((rdD p0 x24 z_Tile).W))]))] [.idx Aa x24 p0.length, .cell ((adr Aa).add ((x24).toNat * 4)) (iv ((rdD p0 x24 z_Tile).N)), .cell (((adr Aa).add ((x24).toNat * 4)).add 1) (iv ((rdD p0 x24 z_Tile).E)), .cell (((adr Aa).add ((x24).toNat * 4)).add 2) (iv ((rdD p0 x24 z_Tile).S)), .cell (((adr Aa).add ((x24).toNat * 4)).add 3) (iv ((rdD p0 x24 z_Tile).W))] (fun fb => by kernel_rfl) rfl ⟨rowR.adr (hS32.rd 0).1 h40.1 h40.2, rowR.cell (hS32.rd 0).1 z_Tile h40.1 h40.2 0 rfl, rowR.cell (hS32.rd 0).1 z_Tile h40.1 h40.2 1 rfl, rowR.cell (hS32.rd 0).1 z_Tile h40.1 h40.2 2 rfl, rowR.cell (hS32.rd 0).1 z_Tile h40.1 h40.2 3 rfl, trivial⟩ ?_
     refine WL.new hS32 14 [] (fun g => (pt g)) (.cells #[(iv 0), (iv 0), (iv 0), (iv 0)] 40 (0, 0)) [] (fun fb g => by kernel_rfl) trivial (fun g41 w42 hS43 => ?_)
     refine ⟨trivial, ?_⟩
     refine WL.store hS43 0 rfl [(0, (iv ((rdD p0 x24 z_Tile).N))), (1, (iv ((rdD p0 x24 z_Tile).E))), (2, (iv ((rdD p0 x24 z_Tile).S))), (3, (iv ((rdD p0 x24 z_Tile).W)))] #[(iv ((rdD p0 x24 z_Tile).N)), (iv ((rdD p0 x24 z_Tile).E)), (iv ((rdD p0 x24 z_Tile).S)), (iv ((rdD p0 x24 z_Tile).W))] (fun fb => by kernel_rfl) (by kernel_rfl) rfl [1, 2, 3, 4] (by decide) (by decide) (fun w44 hS45 => ?_)
     refine ⟨trivial, ?_⟩
     refine WL.done rfl (WX.next (WC.seq (WC.seq ?_)))
     obtain ⟨x46, hx47, hx39⟩ := bind_some hx39
     refine WC.cutN (T := Bool) (fun t => [(0, (sv Aa p0 ca)), (1, (sv Ab p1 cb)), (3, (iv p3)), (4, (iv p4)), (5, (sv A20 l22 c21)), (8, (pt g6)), (13, (iv x24)), (14, (pt g41)), (55, (bv t))]) (fun t w1 => St (fpL [rowO 3 encInt Ac cc p2.Cells, rowO 88 encN_Row_ref02 Ad cd (tag Ha p5), poolO [nestO subN_Row_ref02 Ha p5]]) w w1 [rowR enc_Tile Aa ca p0, rowR encInt Ab cb p1] [rowO 88 encN_Row_ref02 A20 c21 (tag H23 l22), poolO [nestO subN_Row_ref02 H23 l22], blk g6 (.cells #[(sv Ac p2.Cells cc), (iv p2.South), (iv p2.North)] 88 (0, 0)), rowO 3 encInt Ac cc p2.Cells, blk g41 (.cells #[(iv ((rdD p0 x24 z_Tile).N)), (iv ((rdD p0 x24 z_Tile).E)), (iv ((rdD p0 x24 z_Tile).S)), (iv ((rdD p0 x24 z_Tile).W))] 40 (0, 0))] ∧ x46 = t) (fun Kx46 => ?_) ?_
     ·
      rcases br_some hx47 with ⟨h48, hx47⟩ | ⟨h48, hx47⟩
      ·
       obtain ⟨h51, hx47⟩ := as_some hx47
       obtain ⟨h52, hx47⟩ := as_some hx47
       refine WC.regionD ([(1, ⟨g6, 0, none⟩, (sv Ac p2.Cells cc)), (7, ⟨g6, 0, none⟩, (sv Ac p2.Cells cc)), (9, ⟨g6, 0, none⟩, (sv Ac p2.Cells cc)), (13, ((adr Ac).add ((w64 ((p2.Cells.length : Int) - 1)).toNat * 1)), (iv (rdD p2.Cells (w64 ((p2.Cells.length : Int) - 1)) 0))), (16, (((adr Aa).add (((rdD p2.Cells (w64 ((p2.Cells.length : Int) - 1)) 0)).toNat * 4)).add 1), (iv ((rdD p0 (rdD p2.Cells (w64 ((p2.Cells.length : Int) - 1)) 0) z_Tile).E))), (18, ⟨g41, 3, none⟩, (iv ((rdD p0 x24 z_Tile).W)))], [0, 1, 2, 3, 4, 5, 6, 7, 8, 9, 10, 11, 12, 13, 14, 15, 16, 17, 18, 19, 20], [[], [0], [0, 1], [0, 1, 2], [0, 1, 2, 3], [0, 1, 2, 3, 4], [0, 1, 2, 3, 4], [0, 1, 2, 3, 4, 6], [0, 1, 2, 3, 4], [0, 1, 2, 3, 4, 8], [0, 1, 2, 3, 4, 8, 9], [0, 1, 2, 3, 4, 8, 9, 10], [0, 1, 2, 3, 4, 6, 7, 8, 9, 10, 11], [0, 1, 2, 3, 4, 6, 7, 8, 9, 10, 11, 12], [0, 1, 2, 3, 4, 5, 6, 7, 8, 9, 10, 11, 12, 13], [0, 1, 2, 3, 4, 5, 6, 7, 8, 9, 10, 11, 12, 13, 14], [0, 1, 2, 3, 4, 5, 6, 7, 8, 9, 10, 11, 12, 13, 14, 15], [0, 1, 2, 3, 4], [0, 1, 2, 3, 4, 17], [0, 1, 2, 3, 4, 5, 6, 7, 8, 9, 10, 11, 12, 13, 14, 15, 16, 17, 18], [0, 1, 2, 3, 4, 5, 6, 7, 8, 9, 10, 11, 12, 13, 14, 15, 16, 17, 18, 19]]) [[0, 1, 2, 3, 4, 5, 6, 7, 8, 9, 10, 11, 12, 13, 14, 15, 16, 17, 18, 19, 20]] (by kernel_rfl) (by kernel_rfl) (NoPanic.seq (NoPanic.seq (NoPanic.block (NoPanic.seq (NoPanic.seq (NoPanic.block (NoPanic.seq (NoPanic.body)))))))) ?_
       have hS50 := hS45.drew
       revert hS50
       generalize World.drew w44 = w49
       intro hS50
       refine ⟨⟨hS50.cell 3 rfl 0 rfl, hS50.cell 3 rfl 0 rfl, hS50.cell 3 rfl 0 rfl, rowR.cell (rowO.rd (hS50.own 4).1) 0 h51.1 h51.2 0 rfl, rowR.cell (hS50.rd 0).1 z_Tile h52.1 h52.2 1 rfl, hS50.cell 0 rfl 3 rfl, trivial⟩, forallC ?_ (forallN)⟩
       refine segF 5 [.v (sv Ac p2.Cells cc)] [0, 1, 3, 4, 5, 8, 13, 14, 39] [(0, (sv Aa p0 ca)), (1, (sv Ab p1 cb)), (3, (iv p3)), (4, (iv p4)), (5, (sv A20 l22 c21)), (8, (pt g6)), (13, (iv x24)), (14, (pt g41)), (39, (bv (decide ((p2.Cells.length : Int) > 0))))] [] [0] [(1, ⟨g6, 0, none⟩, (sv Ac p2.Cells cc))] (fun fb => by kernel_rfl) rfl trivial rfl ?_
       refine WL.setB 39 h48 rfl ?_
       refine segF 21 [.v (sv Ac p2.Cells cc), .v (sv Ac p2.Cells cc), .v (iv (rdD p2.Cells (w64 ((p2.Cells.length : Int) - 1)) 0)), .v (iv ((rdD p0 (rdD p2.Cells (w64 ((p2.Cells.length : Int) - 1)) 0) z_Tile).E)), .v (iv ((rdD p0 x24 z_Tile).W))] [0, 1, 3, 4, 5, 8, 13, 14, 55] [(0, (sv Aa p0 ca)), (1, (sv Ab p1 cb)), (3, (iv p3)), (4, (iv p4)), (5, (sv A20 l22 c21)), (8, (pt g6)), (13, (iv x24)), (14, (pt g41)), (55, (bv (((rdD p0 (rdD p2.Cells (w64 ((p2.Cells.length : Int) - 1)) 0) z_Tile).E) != ((rdD p0 x24 z_Tile).W))))] [.idx Ac (w64 ((p2.Cells.length : Int) - 1)) p2.Cells.length, .idx Aa (rdD p2.Cells (w64 ((p2.Cells.length : Int) - 1)) 0) p0.length] [1, 2, 3, 4, 5] [(7, ⟨g6, 0, none⟩, (sv Ac p2.Cells cc)), (9, ⟨g6, 0, none⟩, (sv Ac p2.Cells cc)), (13, ((adr Ac).add ((w64 ((p2.Cells.length : Int) - 1)).toNat * 1)), (iv (rdD p2.Cells (w64 ((p2.Cells.length : Int) - 1)) 0))), (16, (((adr Aa).add (((rdD p2.Cells (w64 ((p2.Cells.length : Int) - 1)) 0)).toNat * 4)).add 1), (iv ((rdD p0 (rdD p2.Cells (w64 ((p2.Cells.length : Int) - 1)) 0) z_Tile).E))), (18, ⟨g41, 3, none⟩, (iv ((rdD p0 x24 z_Tile).W)))] (fun fb => by kernel_rfl) rfl ⟨rowR.adr (rowO.rd (hS50.own 4).1) h51.1 h51.2, rowR.adr (hS50.rd 0).1 h52.1 h52.2, trivial⟩ rfl ?_
       refine WL.done rfl ?_
       injection hx47 with hx47
       exact WX.to Kx46 (((rdD p0 (rdD p2.Cells (w64 ((p2.Cells.length : Int) - 1)) 0) z_Tile).E) != ((rdD p0 x24 z_Tile).W)) [0, 1, 3, 4, 5, 8, 13, 14, 55] rfl ⟨(hS50.subR [0, 1]).sub [1, 2, 3, 4, 0] (by decide), hx47.symm⟩
      refine WC.regionD ([(1, ⟨g6, 0, none⟩, (sv Ac p2.Cells cc))], [0, 1, 2, 3, 4, 5, 6, 7, 8, 9, 10, 11, 12, 13, 14, 15, 16, 17, 18, 19, 20], [[], [0], [0, 1], [0, 1, 2], [0, 1, 2, 3], [0, 1, 2, 3, 4], [0, 1, 2, 3, 4], [0, 1, 2, 3, 4, 6], [0, 1, 2, 3, 4], [0, 1, 2, 3, 4, 8], [0, 1, 2, 3, 4, 8, 9], [0, 1, 2, 3, 4, 8, 9, 10], [0, 1, 2, 3, 4, 6, 7, 8, 9, 10, 11], [0, 1, 2, 3, 4, 6, 7, 8, 9, 10, 11, 12], [0, 1, 2, 3, 4, 5, 6, 7, 8, 9, 10, 11, 12, 13], [0, 1, 2, 3, 4, 5, 6, 7, 8, 9, 10, 11, 12, 13, 14], [0, 1, 2, 3, 4, 5, 6, 7, 8, 9, 10, 11, 12, 13, 14, 15], [0, 1, 2, 3, 4], [0, 1, 2, 3, 4, 17], [0, 1, 2, 3, 4, 5, 6, 7, 8, 9, 10, 11, 12, 13, 14, 15, 16, 17, 18], [0, 1, 2, 3, 4, 5, 6, 7, 8, 9, 10, 11, 12, 13, 14, 15, 16, 17, 18, 19]]) [[0, 1, 2, 3, 4, 5, 6, 7, 8, 9, 10, 11, 12, 13, 14, 15, 16, 17, 18, 19, 20]] (by kernel_rfl) (by kernel_rfl) (NoPanic.seq (NoPanic.seq (NoPanic.block (NoPanic.seq (NoPanic.seq (NoPanic.block (NoPanic.seq (NoPanic.body)))))))) ?_
      have hS54 := hS45.drew
      revert hS54
      generalize World.drew w44 = w53
      intro hS54
      refine ⟨⟨hS54.cell 3 rfl 0 rfl, trivial⟩, forallC ?_ (forallN)⟩
      refine segF 5 [.v (sv Ac p2.Cells cc)] [0, 1, 3, 4, 5, 8, 13, 14, 39] [(0, (sv Aa p0 ca)), (1, (sv Ab p1 cb)), (3, (iv p3)), (4, (iv p4)), (5, (sv A20 l22 c21)), (8, (pt g6)), (13, (iv x24)), (14, (pt g41)), (39, (bv (decide ((p2.Cells.length : Int) > 0))))] [] [0] [(1, ⟨g6, 0, none⟩, (sv Ac p2.Cells cc))] (fun fb => by kernel_rfl) rfl trivial rfl ?_
      refine WL.setB 39 h48 rfl ?_
      refine seg 21 [] [0, 1, 3, 4, 5, 8, 13, 14, 55] [(0, (sv Aa p0 ca)), (1, (sv Ab p1 cb)), (3, (iv p3)), (4, (iv p4)), (5, (sv A20 l22 c21)), (8, (pt g6)), (13, (iv x24)), (14, (pt g41)), (55, (bv false))] [] (fun fb => by kernel_rfl) rfl trivial ?_
      refine WL.done rfl ?_
      injection hx47 with hx47
      exact WX.to Kx46 false [0, 1, 3, 4, 5, 8, 13, 14, 55] rfl ⟨(hS54.subR [0, 1]).sub [1, 2, 3, 4, 0] (by decide), hx47.symm⟩
     rintro y58 w55 ⟨hS56, hq57⟩
     subst hq57
     refine WX.next ?_
     rcases br_some hx39 with ⟨h59, hx39⟩ | ⟨h59, hx39⟩
     ·refine WC.condT2 (fun fb => by kernel_rfl) h59 ?_
      refine WC.exit ?_
      injection hx39 with hx39
      exact WX.thenX (WX.blockHere (WX.to Kx38 (l22, A20, c21, H23) [0, 1, 3, 4, 5, 8, 13] rfl ⟨(hS56.subR [0, 1]).sub [0, 1, 2, 3] (by decide), hx39.symm⟩))
     refine WC.condF2 (fun fb => by kernel_rfl) h59 ?_
     refine WC.skip (WX.next (WC.seq ?_))
     obtain ⟨x63, hx65, hx39⟩ := bind_some hx39
     refine WC.cutN (T := ((List Int) × Int × Int) × Nat × (Option Addr) × Nat) (fun t => [(0, (sv Aa p0 ca)), (1, (sv Ab p1 cb)), (3, (iv p3)), (4, (iv p4)), (5, (sv A20 l22 c21)), (8, (pt g6)), (13, (iv x24)), (15, (.pointer (some ⟨t.2.1, 0, none⟩)))]) (fun t w1 => St (fpL [rowO 3 encInt Ac cc p2.Cells, rowO 88 encN_Row_ref02 Ad cd (tag Ha p5), poolO [nestO subN_Row_ref02 Ha p5]]) w w1 [rowR enc_Tile Aa ca p0, rowR encInt Ab cb p1] [rowO 88 encN_Row_ref02 A20 c21 (tag H23 l22), poolO [nestO subN_Row_ref02 H23 l22], blk g6 (.cells #[(sv Ac p2.Cells cc), (iv p2.South), (iv p2.North)] 88 (0, 0)), rowO 3 encInt Ac cc p2.Cells, blk t.2.1 (.cells #[(sv t.2.2.1 t.1.1 t.2.2.2), (iv t.1.2.1), (iv t.1.2.2)] 88 (0, 0)), rowO 3 encInt t.2.2.1 t.2.2.2 t.1.1] ∧ x63 = t.1) (fun Kx63 => ?_) ?_
     ·
      refine WC.regionD ([(2, ⟨g6, 0, none⟩, (sv Ac p2.Cells cc)), (8, ⟨g6, 1, none⟩, (iv p2.South)), (12, ⟨g41, 2, none⟩, (iv ((rdD p0 x24 z_Tile).S))), (17, ⟨g6, 2, none⟩, (iv p2.North)), (21, ⟨g41, 0, none⟩, (iv ((rdD p0 x24 z_Tile).N)))], [1, 2, 4, 7, 8, 9, 10, 11, 12, 14, 15, 16, 17, 18, 19, 20, 21, 23, 24, 25], [[], [], [1], [0, 1, 2], [], [4], [0, 1, 2, 3, 4, 5], [], [7], [], [], [], [11], [0, 1, 2, 3, 4, 5, 6, 10, 11, 12], [0, 1, 2, 3, 4, 5, 6, 9, 10, 11, 12, 13], [0, 1, 2, 3, 4, 5, 6, 7, 8, 9, 10, 11, 12, 13, 14], [], [16], [], [], [], [20], [0, 1, 2, 3, 4, 5, 6, 10, 11, 12, 13, 19, 20, 21], [0, 1, 2, 3, 4, 5, 6, 10, 11, 12, 13, 18, 19, 20, 21, 22], [0, 1, 2, 3, 4, 5, 6, 10, 11, 12, 13, 16, 17, 18, 19, 20, 21, 22, 23], [0, 1, 2, 3, 4, 5, 6, 7, 8, 9, 10, 11, 12, 13, 14, 15, 16, 17, 18, 19, 20, 21, 22, 23, 24], [], [0, 1, 2, 3, 4, 5, 6, 7, 8, 9, 10, 11, 12, 13, 14, 15, 16, 17, 18, 19, 20, 21, 22, 23, 24, 25, 26]]) [[1, 2, 4, 7, 8, 9, 10, 11, 12, 16, 17, 18, 19, 20, 21, 0, 3, 5, 6, 13, 14, 15, 22, 23, 24, 25, 26, 27], [1, 2, 4, 7, 8, 9, 10, 11, 12, 16, 17, 18, 19, 20, 21, 0, 3, 5, 6, 13, 14, 15, 26, 22, 23, 24, 25, 27], [1, 2, 4, 7, 8, 9, 10, 11, 12, 16, 17, 18, 19, 20, 21, 0, 3, 5, 6, 26, 13, 14, 15, 22, 23, 24, 25, 27], [1, 2, 4, 7, 8, 9, 10, 11, 12, 16, 17, 18, 19, 20, 21, 0, 3, 5, 26, 6, 13, 14, 15, 22, 23, 24, 25, 27], [1, 2, 4, 7, 8, 9, 10, 11, 12, 16, 17, 18, 19, 20, 21, 0, 3, 26, 5, 6, 13, 14, 15, 22, 23, 24, 25, 27], [1, 2, 4, 7, 8, 9, 10, 11, 12, 16, 17, 18, 19, 20, 21, 0, 5, 3, 6, 13, 14, 15, 22, 23, 24, 25, 26, 27], [1, 2, 4, 7, 8, 9, 10, 11, 12, 16, 17, 18, 19, 20, 21, 0, 5, 3, 6, 13, 14, 15, 26, 22, 23, 24, 25, 27], [1, 2, 4, 7, 8, 9, 10, 11, 12, 16, 17, 18, 19, 20, 21, 0, 5, 3, 6, 26, 13, 14, 15, 22, 23, 24, 25, 27], [1, 2, 4, 7, 8, 9, 10, 11, 12, 16, 17, 18, 19, 20, 21, 0, 5, 3, 26, 6, 13, 14, 15, 22, 23, 24, 25, 27], [1, 2, 4, 7, 8, 9, 10, 11, 12, 16, 17, 18, 19, 20, 21, 0, 5, 26, 3, 6, 13, 14, 15, 22, 23, 24, 25, 27], [1, 2, 4, 7, 8, 9, 10, 11, 12, 16, 17, 18, 19, 20, 21, 0, 26, 3, 5, 6, 13, 14, 15, 22, 23, 24, 25, 27], [1, 2, 4, 7, 8, 9, 10, 11, 12, 16, 17, 18, 19, 20, 21, 0, 26, 5, 3, 6, 13, 14, 15, 22, 23, 24, 25, 27], [1, 2, 4, 7, 8, 9, 10, 11, 12, 16, 17, 18, 19, 20, 21, 5, 0, 3, 6, 13, 14, 15, 22, 23, 24, 25, 26, 27], [1, 2, 4, 7, 8, 9, 10, 11, 12, 16, 17, 18, 19, 20, 21, 5, 0, 3, 6, 13, 14, 15, 26, 22, 23, 24, 25, 27], [1, 2, 4, 7, 8, 9, 10, 11, 12, 16, 17, 18, 19, 20, 21, 5, 0, 3, 6, 26, 13, 14, 15, 22, 23, 24, 25, 27], [1, 2, 4, 7, 8, 9, 10, 11, 12, 16, 17, 18, 19, 20, 21, 5, 0, 3, 26, 6, 13, 14, 15, 22, 23, 24, 25, 27], [1, 2, 4, 7, 8, 9, 10, 11, 12, 16, 17, 18, 19, 20, 21, 5, 0, 26, 3, 6, 13, 14, 15, 22, 23, 24, 25, 27], [1, 2, 4, 7, 8, 9, 10, 11, 12, 16, 17, 18, 19, 20, 21, 5, 26, 0, 3, 6, 13, 14, 15, 22, 23, 24, 25, 27], [1, 2, 4, 7, 8, 9, 10, 11, 12, 16, 17, 18, 19, 20, 21, 26, 0, 3, 5, 6, 13, 14, 15, 22, 23, 24, 25, 27], [1, 2, 4, 7, 8, 9, 10, 11, 12, 16, 17, 18, 19, 20, 21, 26, 0, 5, 3, 6, 13, 14, 15, 22, 23, 24, 25, 27], [1, 2, 4, 7, 8, 9, 10, 11, 12, 16, 17, 18, 19, 20, 21, 26, 5, 0, 3, 6, 13, 14, 15, 22, 23, 24, 25, 27]] (by kernel_rfl) (by kernel_rfl) (NoPanic.seq (NoPanic.block (NoPanic.seq (NoPanic.seq (NoPanic.block (NoPanic.seq (NoPanic.body))))))) ?_
      have hS67 := hS56.drew
      revert hS67
      generalize World.drew w55 = w66
      intro hS67
      refine ⟨⟨hS67.cell 2 rfl 0 rfl, hS67.cell 2 rfl 1 rfl, hS67.cell 4 rfl 2 rfl, hS67.cell 2 rfl 2 rfl, hS67.cell 4 rfl 0 rfl, trivial⟩, forallC ?_ (forallC ?_ (forallC ?_ (forallC ?_ (forallC ?_ (forallC ?_ (forallC ?_ (forallC ?_ (forallC ?_ (forallC ?_ (forallC ?_ (forallC ?_ (forallC ?_ (forallC ?_ (forallC ?_ (forallC ?_ (forallC ?_ (forallC ?_ (forallC ?_ (forallC ?_ (forallC ?_ (forallN)))))))))))))))))))))⟩
      ·
       refine segF 15 [.v (sv Ac p2.Cells cc), .v (iv p2.South), .v (iv ((rdD p0 x24 z_Tile).S)), .v (iv p2.North), .v (iv ((rdD p0 x24 z_Tile).N))] [0, 1, 3, 4, 5, 8, 13, 58, 60, 64, 65, 66, 68, 73, 74, 75, 77] [(0, (sv Aa p0 ca)), (1, (sv Ab p1 cb)), (3, (iv p3)), (4, (iv p4)), (5, (sv A20 l22 c21)), (8, (pt g6)), (13, (iv x24)), (58, (sv Ac p2.Cells cc)), (60, (iv x24)), (64, (iv p2.South)), (65, (iv p4)), (66, (sv Ab p1 cb)), (68, (iv ((rdD p0 x24 z_Tile).S))), (73, (iv p2.North)), (74, (iv p4)), (75, (sv Ab p1 cb)), (77, (iv ((rdD p0 x24 z_Tile).N)))] [] [0, 1, 2, 3, 4] [(2, ⟨g6, 0, none⟩, (sv Ac p2.Cells cc)), (8, ⟨g6, 1, none⟩, (iv p2.South)), (12, ⟨g41, 2, none⟩, (iv ((rdD p0 x24 z_Tile).S))), (17, ⟨g6, 2, none⟩, (iv p2.North)), (21, ⟨g41, 0, none⟩, (iv ((rdD p0 x24 z_Tile).N)))] (fun fb => by kernel_rfl) rfl trivial rfl ?_
       refine WL.new hS67 56 [] (fun g => (.slice (some ⟨g, 0, none⟩) 0 0)) (.cells #[] 3 (0, 0)) [] (fun fb g => by kernel_rfl) trivial (fun g68 w69 hS70 => ?_)
       refine ⟨⟨hS70.cell 3 rfl 0 rfl, hS70.cell 3 rfl 1 rfl, hS70.cell 5 rfl 2 rfl, hS70.cell 3 rfl 2 rfl, hS70.cell 5 rfl 0 rfl, trivial⟩, ?_⟩
       have hS71 := hS.go w69 [rowO 3 encInt (some ⟨g68, 0, none⟩) 0 ([] : List Int), rowO 88 encN_Row_ref02 A20 c21 (tag H23 l22), poolO [nestO subN_Row_ref02 H23 l22], blk g6 (.cells #[(sv Ac p2.Cells cc), (iv p2.South), (iv p2.North)] 88 (0, 0)), rowO 3 encInt Ac cc p2.Cells, blk g41 (.cells #[(iv ((rdD p0 x24 z_Tile).N)), (iv ((rdD p0 x24 z_Tile).E)), (iv ((rdD p0 x24 z_Tile).S)), (iv ((rdD p0 x24 z_Tile).W))] 40 (0, 0))] (hS70.map1 0 _ (fun h => rowO.ofBlk h rfl (Nat.le_of_ble_eq_true (by kernel_rfl))) (fun _ h => by obtain ⟨_, h1, h2⟩ := h; injection h1 with h1; subst h1; exact h2) [1, 2, 3, 4, 5] (by decide) (by decide))
       obtain ⟨h72, hx65⟩ := as_some hx65
       refine WL.append hS71 0 (d := 59) (tS := 25) (z := (iv 0)) (bytes := 8) (c2 := cc) rfl (fun fb => by kernel_rfl) (rowO.rd (hS71.own 4).1) (by kernel_rfl) (by kernel_rfl) rfl (by decide) h72 (by decide) [1, 2, 3, 4, 5] (by decide) (by decide) (fun A73 c74 w75 hS76 => ?_)
       refine ⟨⟨hS76.cell 3 rfl 1 rfl, hS76.cell 5 rfl 2 rfl, hS76.cell 3 rfl 2 rfl, hS76.cell 5 rfl 0 rfl, trivial⟩, ?_⟩
       refine WL.new hS76 61 [] (fun g => (.slice (some ⟨g, 0, none⟩) 1 1)) (.cells #[(iv x24)] 3 (0, 0)) [] (fun fb g => by kernel_rfl) trivial (fun g77 w78 hS79 => ?_)
       refine ⟨⟨hS79.cell 4 rfl 0 rfl, hS79.cell 4 rfl 1 rfl, hS79.cell 6 rfl 2 rfl, hS79.cell 4 rfl 2 rfl, hS79.cell 6 rfl 0 rfl, trivial⟩, ?_⟩
       have hS80 := hS71.go w78 [rowO 3 encInt (some ⟨g77, 0, none⟩) 1 [x24], rowO 3 encInt A73 c74 (([] : List Int) ++ p2.Cells), rowO 88 encN_Row_ref02 A20 c21 (tag H23 l22), poolO [nestO subN_Row_ref02 H23 l22], blk g6 (.cells #[(sv Ac p2.Cells cc), (iv p2.South), (iv p2.North)] 88 (0, 0)), rowO 3 encInt Ac cc p2.Cells, blk g41 (.cells #[(iv ((rdD p0 x24 z_Tile).N)), (iv ((rdD p0 x24 z_Tile).E)), (iv ((rdD p0 x24 z_Tile).S)), (iv ((rdD p0 x24 z_Tile).W))] 40 (0, 0))] (hS79.map1 0 _ (fun h => rowO.ofBlk h rfl (Nat.le_of_ble_eq_true (by kernel_rfl))) (fun _ h => by obtain ⟨_, h1, h2⟩ := h; injection h1 with h1; subst h1; exact h2) [1, 2, 3, 4, 5, 6] (by decide) (by decide))
       obtain ⟨h81, hx65⟩ := as_some hx65
       refine WL.append hS80 1 (d := 62) (tS := 25) (z := (iv 0)) (bytes := 8) (c2 := 1) rfl (fun fb => by kernel_rfl) (rowO.rd (hS80.own 0).1) (by kernel_rfl) (by kernel_rfl) rfl (by decide) h81 (by decide) [0, 2, 3, 4, 5, 6] (by decide) (by decide) (fun A82 c83 w84 hS86 => ?_)
       refine ⟨⟨hS86.cell 4 rfl 1 rfl, hS86.cell 6 rfl 2 rfl, hS86.cell 4 rfl 2 rfl, hS86.cell 6 rfl 0 rfl, trivial⟩, ?_⟩
       obtain ⟨t87, ht88, hx65⟩ := bind_some hx65
       refine WL.call (some 69) 87 #[(sv Ab p1 cb), (iv ((rdD p0 x24 z_Tile).S))] (fun fb => by kernel_rfl) (ref02_at_calls _ p1 ((rdD p0 x24 z_Tile).S) Ab cb t87 _ (hS86.rd 1) ht88) (fun v w89 hR90 => ?_)
       obtain ⟨rfl, hk_⟩ := hR90
       have hS91 := hS86.keepN hk_
       refine ⟨⟨hS91.cell 4 rfl 1 rfl, hS91.cell 4 rfl 2 rfl, hS91.cell 6 rfl 0 rfl, trivial⟩, ?_⟩
       refine seg 22 [] [0, 1, 3, 4, 5, 8, 13, 62, 71, 73, 74, 75, 77] [(0, (sv Aa p0 ca)), (1, (sv Ab p1 cb)), (3, (iv p3)), (4, (iv p4)), (5, (sv A20 l22 c21)), (8, (pt g6)), (13, (iv x24)), (62, (sv A82 ((([] : List Int) ++ p2.Cells) ++ [x24]) c83)), (71, (iv (w64 (p2.South + (w64 (p4 * t87)))))), (73, (iv p2.North)), (74, (iv p4)), (75, (sv Ab p1 cb)), (77, (iv ((rdD p0 x24 z_Tile).N)))] [] (fun fb => by kernel_rfl) rfl trivial ?_
       obtain ⟨t92, ht93, hx65⟩ := bind_some hx65
       refine WL.call (some 78) 87 #[(sv Ab p1 cb), (iv ((rdD p0 x24 z_Tile).N))] (fun fb => by kernel_rfl) (ref02_at_calls _ p1 ((rdD p0 x24 z_Tile).N) Ab cb t92 _ (hS91.rd 1) ht93) (fun v w94 hR95 => ?_)
       obtain ⟨rfl, hk_⟩ := hR95
       have hS96 := hS91.keepN hk_
       refine ⟨⟨hS96.cell 4 rfl 1 rfl, hS96.cell 4 rfl 2 rfl, trivial⟩, ?_⟩
       refine seg 26 [] [0, 1, 3, 4, 5, 8, 13, 81] [(0, (sv Aa p0 ca)), (1, (sv Ab p1 cb)), (3, (iv p3)), (4, (iv p4)), (5, (sv A20 l22 c21)), (8, (pt g6)), (13, (iv x24)), (81, (.agg #[(sv A82 ((([] : List Int) ++ p2.Cells) ++ [x24]) c83), (iv (w64 (p2.South + (w64 (p4 * t87))))), (iv (w64 (p2.North + (w64 (p4 * t92)))))]))] [] (fun fb => by kernel_rfl) rfl trivial ?_
       refine WL.new hS96 15 [] (fun g => (pt g)) (.cells #[(.slice none 0 0), (iv 0), (iv 0)] 88 (0, 0)) [] (fun fb g => by kernel_rfl) trivial (fun g97 w98 hS99 => ?_)
       refine ⟨⟨hS99.cell 5 rfl 0 rfl, hS99.cell 5 rfl 1 rfl, hS99.cell 7 rfl 2 rfl, hS99.cell 5 rfl 2 rfl, hS99.cell 7 rfl 0 rfl, trivial⟩, ?_⟩
       refine WL.store hS99 0 rfl [(0, (sv A82 ((([] : List Int) ++ p2.Cells) ++ [x24]) c83)), (1, (iv (w64 (p2.South + (w64 (p4 * t87)))))), (2, (iv (w64 (p2.North + (w64 (p4 * t92))))))] #[(sv A82 ((([] : List Int) ++ p2.Cells) ++ [x24]) c83), (iv (w64 (p2.South + (w64 (p4 * t87))))), (iv (w64 (p2.North + (w64 (p4 * t92)))))] (fun fb => by kernel_rfl) (by kernel_rfl) rfl [1, 2, 3, 4, 5, 6, 7] (by decide) (by decide) (fun w100 hS101 => ?_)
       refine ⟨trivial, ?_⟩
       refine WL.done rfl ?_
       injection hx65 with hx65
       exact WX.to Kx63 (((([] : List Int) ++ p2.Cells) ++ [x24], w64 (p2.South + (w64 (p4 * t87))), w64 (p2.North + (w64 (p4 * t92)))), g97, A82, c83) [0, 1, 3, 4, 5, 8, 13, 15] rfl ⟨(hS101.subR [0, 1]).sub [3, 4, 5, 6, 0, 1] (by decide), hx65.symm⟩
      ·
       refine segF 15 [.v (sv Ac p2.Cells cc), .v (iv p2.South), .v (iv ((rdD p0 x24 z_Tile).S)), .v (iv p2.North), .v (iv ((rdD p0 x24 z_Tile).N))] [0, 1, 3, 4, 5, 8, 13, 58, 60, 64, 65, 66, 68, 73, 74, 75, 77] [(0, (sv Aa p0 ca)), (1, (sv Ab p1 cb)), (3, (iv p3)), (4, (iv p4)), (5, (sv A20 l22 c21)), (8, (pt g6)), (13, (iv x24)), (58, (sv Ac p2.Cells cc)), (60, (iv x24)), (64, (iv p2.South)), (65, (iv p4)), (66, (sv Ab p1 cb)), (68, (iv ((rdD p0 x24 z_Tile).S))), (73, (iv p2.North)), (74, (iv p4)), (75, (sv Ab p1 cb)), (77, (iv ((rdD p0 x24 z_Tile).N)))] [] [0, 1, 2, 3, 4] [(2, ⟨g6, 0, none⟩, (sv Ac p2.Cells cc)), (8, ⟨g6, 1, none⟩, (iv p2.South)), (12, ⟨g41, 2, none⟩, (iv ((rdD p0 x24 z_Tile).S))), (17, ⟨g6, 2, none⟩, (iv p2.North)), (21, ⟨g41, 0, none⟩, (iv ((rdD p0 x24 z_Tile).N)))] (fun fb => by kernel_rfl) rfl trivial rfl ?_
       refine WL.new hS67 56 [] (fun g => (.slice (some ⟨g, 0, none⟩) 0 0)) (.cells #[] 3 (0, 0)) [] (fun fb g => by kernel_rfl) trivial (fun g102 w103 hS104 => ?_)
       refine ⟨⟨hS104.cell 3 rfl 0 rfl, hS104.cell 3 rfl 1 rfl, hS104.cell 5 rfl 2 rfl, hS104.cell 3 rfl 2 rfl, hS104.cell 5 rfl 0 rfl, trivial⟩, ?_⟩
       have hS105 := hS.go w103 [rowO 3 encInt (some ⟨g102, 0, none⟩) 0 ([] : List Int), rowO 88 encN_Row_ref02 A20 c21 (tag H23 l22), poolO [nestO subN_Row_ref02 H23 l22], blk g6 (.cells #[(sv Ac p2.Cells cc), (iv p2.South), (iv p2.North)] 88 (0, 0)), rowO 3 encInt Ac cc p2.Cells, blk g41 (.cells #[(iv ((rdD p0 x24 z_Tile).N)), (iv ((rdD p0 x24 z_Tile).E)), (iv ((rdD p0 x24 z_Tile).S)), (iv ((rdD p0 x24 z_Tile).W))] 40 (0, 0))] (hS104.map1 0 _ (fun h => rowO.ofBlk h rfl (Nat.le_of_ble_eq_true (by kernel_rfl))) (fun _ h => by obtain ⟨_, h1, h2⟩ := h; injection h1 with h1; subst h1; exact h2) [1, 2, 3, 4, 5] (by decide) (by decide))
       obtain ⟨h106, hx65⟩ := as_some hx65
       refine WL.append hS105 0 (d := 59) (tS := 25) (z := (iv 0)) (bytes := 8) (c2 := cc) rfl (fun fb => by kernel_rfl) (rowO.rd (hS105.own 4).1) (by kernel_rfl) (by kernel_rfl) rfl (by decide) h106 (by decide) [1, 2, 3, 4, 5] (by decide) (by decide) (fun A107 c108 w109 hS110 => ?_)
       refine ⟨⟨hS110.cell 3 rfl 1 rfl, hS110.cell 5 rfl 2 rfl, hS110.cell 3 rfl 2 rfl, hS110.cell 5 rfl 0 rfl, trivial⟩, ?_⟩
       refine WL.new hS110 61 [] (fun g => (.slice (some ⟨g, 0, none⟩) 1 1)) (.cells #[(iv x24)] 3 (0, 0)) [] (fun fb g => by kernel_rfl) trivial (fun g111 w112 hS113 => ?_)
       refine ⟨⟨hS113.cell 4 rfl 0 rfl, hS113.cell 4 rfl 1 rfl, hS113.cell 6 rfl 2 rfl, hS113.cell 4 rfl 2 rfl, hS113.cell 6 rfl 0 rfl, trivial⟩, ?_⟩
       have hS114 := hS105.go w112 [rowO 3 encInt (some ⟨g111, 0, none⟩) 1 [x24], rowO 3 encInt A107 c108 (([] : List Int) ++ p2.Cells), rowO 88 encN_Row_ref02 A20 c21 (tag H23 l22), poolO [nestO subN_Row_ref02 H23 l22], blk g6 (.cells #[(sv Ac p2.Cells cc), (iv p2.South), (iv p2.North)] 88 (0, 0)), rowO 3 encInt Ac cc p2.Cells, blk g41 (.cells #[(iv ((rdD p0 x24 z_Tile).N)), (iv ((rdD p0 x24 z_Tile).E)), (iv ((rdD p0 x24 z_Tile).S)), (iv ((rdD p0 x24 z_Tile).W))] 40 (0, 0))] (hS113.map1 0 _ (fun h => rowO.ofBlk h rfl (Nat.le_of_ble_eq_true (by kernel_rfl))) (fun _ h => by obtain ⟨_, h1, h2⟩ := h; injection h1 with h1; subst h1; exact h2) [1, 2, 3, 4, 5, 6] (by decide) (by decide))
       obtain ⟨h115, hx65⟩ := as_some hx65
       refine WL.append hS114 1 (d := 62) (tS := 25) (z := (iv 0)) (bytes := 8) (c2 := 1) rfl (fun fb => by kernel_rfl) (rowO.rd (hS114.own 0).1) (by kernel_rfl) (by kernel_rfl) rfl (by decide) h115 (by decide) [0, 2, 3, 4, 5, 6] (by decide) (by decide) (fun A116 c117 w118 hS119 => ?_)
       refine ⟨⟨hS119.cell 4 rfl 1 rfl, hS119.cell 6 rfl 2 rfl, hS119.cell 4 rfl 2 rfl, hS119.cell 6 rfl 0 rfl, trivial⟩, ?_⟩
       obtain ⟨t120, ht121, hx65⟩ := bind_some hx65
       refine WL.call (some 69) 87 #[(sv Ab p1 cb), (iv ((rdD p0 x24 z_Tile).S))] (fun fb => by kernel_rfl) (ref02_at_calls _ p1 ((rdD p0 x24 z_Tile).S) Ab cb t120 _ (hS119.rd 1) ht121) (fun v w122 hR123 => ?_)
       obtain ⟨rfl, hk_⟩ := hR123
       have hS124 := hS119.keepN hk_
       refine ⟨⟨hS124.cell 4 rfl 1 rfl, hS124.cell 4 rfl 2 rfl, hS124.cell 6 rfl 0 rfl, trivial⟩, ?_⟩
       refine seg 22 [] [0, 1, 3, 4, 5, 8, 13, 62, 71, 73, 74, 75, 77] [(0, (sv Aa p0 ca)), (1, (sv Ab p1 cb)), (3, (iv p3)), (4, (iv p4)), (5, (sv A20 l22 c21)), (8, (pt g6)), (13, (iv x24)), (62, (sv A116 ((([] : List Int) ++ p2.Cells) ++ [x24]) c117)), (71, (iv (w64 (p2.South + (w64 (p4 * t120)))))), (73, (iv p2.North)), (74, (iv p4)), (75, (sv Ab p1 cb)), (77, (iv ((rdD p0 x24 z_Tile).N)))] [] (fun fb => by kernel_rfl) rfl trivial ?_
       refine WL.new hS124 15 [] (fun g => (pt g)) (.cells #[(.slice none 0 0), (iv 0), (iv 0)] 88 (0, 0)) [] (fun fb g => by kernel_rfl) trivial (fun g125 w126 hS127 => ?_)
       refine ⟨⟨hS127.cell 5 rfl 0 rfl, hS127.cell 5 rfl 1 rfl, hS127.cell 7 rfl 2 rfl, hS127.cell 5 rfl 2 rfl, hS127.cell 7 rfl 0 rfl, trivial⟩, ?_⟩
       obtain ⟨t128, ht129, hx65⟩ := bind_some hx65
       refine WL.call (some 78) 87 #[(sv Ab p1 cb), (iv ((rdD p0 x24 z_Tile).N))] (fun fb => by kernel_rfl) (ref02_at_calls _ p1 ((rdD p0 x24 z_Tile).N) Ab cb t128 _ (hS127.rd 1) ht129) (fun v w130 hR131 => ?_)
       obtain ⟨rfl, hk_⟩ := hR131
       have hS132 := hS127.keepN hk_
       refine ⟨⟨hS132.cell 5 rfl 1 rfl, hS132.cell 5 rfl 2 rfl, trivial⟩, ?_⟩
       refine seg 27 [] [0, 1, 3, 4, 5, 8, 13, 15, 81] [(0, (sv Aa p0 ca)), (1, (sv Ab p1 cb)), (3, (iv p3)), (4, (iv p4)), (5, (sv A20 l22 c21)), (8, (pt g6)), (13, (iv x24)), (15, (pt g125)), (81, (.agg #[(sv A116 ((([] : List Int) ++ p2.Cells) ++ [x24]) c117), (iv (w64 (p2.South + (w64 (p4 * t120))))), (iv (w64 (p2.North + (w64 (p4 * t128)))))]))] [] (fun fb => by kernel_rfl) rfl trivial ?_
       refine WL.store hS132 0 rfl [(0, (sv A116 ((([] : List Int) ++ p2.Cells) ++ [x24]) c117)), (1, (iv (w64 (p2.South + (w64 (p4 * t120)))))), (2, (iv (w64 (p2.North + (w64 (p4 * t128))))))] #[(sv A116 ((([] : List Int) ++ p2.Cells) ++ [x24]) c117), (iv (w64 (p2.South + (w64 (p4 * t120))))), (iv (w64 (p2.North + (w64 (p4 * t128)))))] (fun fb => by kernel_rfl) (by kernel_rfl) rfl [1, 2, 3, 4, 5, 6, 7] (by decide) (by decide) (fun w133 hS134 => ?_)
       refine ⟨trivial, ?_⟩
       refine WL.done rfl ?_
       injection hx65 with hx65
       exact WX.to Kx63 (((([] : List Int) ++ p2.Cells) ++ [x24], w64 (p2.South + (w64 (p4 * t120))), w64 (p2.North + (w64 (p4 * t128)))), g125, A116, c117) [0, 1, 3, 4, 5, 8, 13, 15] rfl ⟨(hS134.subR [0, 1]).sub [3, 4, 5, 6, 0, 1] (by decide), hx65.symm⟩
      ·
       refine segF 15 [.v (sv Ac p2.Cells cc), .v (iv p2.South), .v (iv ((rdD p0 x24 z_Tile).S)), .v (iv p2.North), .v (iv ((rdD p0 x24 z_Tile).N))] [0, 1, 3, 4, 5, 8, 13, 58, 60, 64, 65, 66, 68, 73, 74, 75, 77] [(0, (sv Aa p0 ca)), (1, (sv Ab p1 cb)), (3, (iv p3)), (4, (iv p4)), (5, (sv A20 l22 c21)), (8, (pt g6)), (13, (iv x24)), (58, (sv Ac p2.Cells cc)), (60, (iv x24)), (64, (iv p2.South)), (65, (iv p4)), (66, (sv Ab p1 cb)), (68, (iv ((rdD p0 x24 z_Tile).S))), (73, (iv p2.North)), (74, (iv p4)), (75, (sv Ab p1 cb)), (77, (iv ((rdD p0 x24 z_Tile).N)))] [] [0, 1, 2, 3, 4] [(2, ⟨g6, 0, none⟩, (sv Ac p2.Cells cc)), (8, ⟨g6, 1, none⟩, (iv p2.South)), (12, ⟨g41, 2, none⟩, (iv ((rdD p0 x24 z_Tile).S))), (17, ⟨g6, 2, none⟩, (iv p2.North)), (21, ⟨g41, 0, none⟩, (iv ((rdD p0 x24 z_Tile).N)))] (fun fb => by kernel_rfl) rfl trivial rfl ?_
       refine WL.new hS67 56 [] (fun g => (.slice (some ⟨g, 0, none⟩) 0 0)) (.cells #[] 3 (0, 0)) [] (fun fb g => by kernel_rfl) trivial (fun g135 w136 hS137 => ?_)
       refine ⟨⟨hS137.cell 3 rfl 0 rfl, hS137.cell 3 rfl 1 rfl, hS137.cell 5 rfl 2 rfl, hS137.cell 3 rfl 2 rfl, hS137.cell 5 rfl 0 rfl, trivial⟩, ?_⟩
       have hS138 := hS.go w136 [rowO 3 encInt (some ⟨g135, 0, none⟩) 0 ([] : List Int), rowO 88 encN_Row_ref02 A20 c21 (tag H23 l22), poolO [nestO subN_Row_ref02 H23 l22], blk g6 (.cells #[(sv Ac p2.Cells cc), (iv p2.South), (iv p2.North)] 88 (0, 0)), rowO 3 encInt Ac cc p2.Cells, blk g41 (.cells #[(iv ((rdD p0 x24 z_Tile).N)), (iv ((rdD p0 x24 z_Tile).E)), (iv ((rdD p0 x24 z_Tile).S)), (iv ((rdD p0 x24 z_Tile).W))] 40 (0, 0))] (hS137.map1 0 _ (fun h => rowO.ofBlk h rfl (Nat.le_of_ble_eq_true (by kernel_rfl))) (fun _ h => by obtain ⟨_, h1, h2⟩ := h; injection h1 with h1; subst h1; exact h2) [1, 2, 3, 4, 5] (by decide) (by decide))
       obtain ⟨h139, hx65⟩ := as_some hx65
       refine WL.append hS138 0 (d := 59) (tS := 25) (z := (iv 0)) (bytes := 8) (c2 := cc) rfl (fun fb => by kernel_rfl) (rowO.rd (hS138.own 4).1) (by kernel_rfl) (by kernel_rfl) rfl (by decide) h139 (by decide) [1, 2, 3, 4, 5] (by decide) (by decide) (fun A140 c141 w142 hS143 => ?_)
       refine ⟨⟨hS143.cell 3 rfl 1 rfl, hS143.cell 5 rfl 2 rfl, hS143.cell 3 rfl 2 rfl, hS143.cell 5 rfl 0 rfl, trivial⟩, ?_⟩
       refine WL.new hS143 61 [] (fun g => (.slice (some ⟨g, 0, none⟩) 1 1)) (.cells #[(iv x24)] 3 (0, 0)) [] (fun fb g => by kernel_rfl) trivial (fun g144 w145 hS146 => ?_)
       refine ⟨⟨hS146.cell 4 rfl 0 rfl, hS146.cell 4 rfl 1 rfl, hS146.cell 6 rfl 2 rfl, hS146.cell 4 rfl 2 rfl, hS146.cell 6 rfl 0 rfl, trivial⟩, ?_⟩
       have hS147 := hS138.go w145 [rowO 3 encInt (some ⟨g144, 0, none⟩) 1 [x24], rowO 3 encInt A140 c141 (([] : List Int) ++ p2.Cells), rowO 88 encN_Row_ref02 A20 c21 (tag H23 l22), poolO [nestO subN_Row_ref02 H23 l22], blk g6 (.cells #[(sv Ac p2.Cells cc), (iv p2.South), (iv p2.North)] 88 (0, 0)), rowO 3 encInt Ac cc p2.Cells, blk g41 (.cells #[(iv ((rdD p0 x24 z_Tile).N)), (iv ((rdD p0 x24 z_Tile).E)), (iv ((rdD p0 x24 z_Tile).S)), (iv ((rdD p0 x24 z_Tile).W))] 40 (0, 0))] (hS146.map1 0 _ (fun h => rowO.ofBlk h rfl (Nat.le_of_ble_eq_true (by kernel_rfl))) (fun _ h => by obtain ⟨_, h1, h2⟩ := h; injection h1 with h1; subst h1; exact h2) [1, 2, 3, 4, 5, 6] (by decide) (by decide))
       obtain ⟨h148, hx65⟩ := as_some hx65
       refine WL.append hS147 1 (d := 62) (tS := 25) (z := (iv 0)) (bytes := 8) (c2 := 1) rfl (fun fb => by kernel_rfl) (rowO.rd (hS147.own 0).1) (by kernel_rfl) (by kernel_rfl) rfl (by decide) h148 (by decide) [0, 2, 3, 4, 5, 6] (by decide) (by decide) (fun A149 c150 w151 hS152 => ?_)
       refine ⟨⟨hS152.cell 4 rfl 1 rfl, hS152.cell 6 rfl 2 rfl, hS152.cell 4 rfl 2 rfl, hS152.cell 6 rfl 0 rfl, trivial⟩, ?_⟩
       refine WL.new hS152 15 [] (fun g => (pt g)) (.cells #[(.slice none 0 0), (iv 0), (iv 0)] 88 (0, 0)) [] (fun fb g => by kernel_rfl) trivial (fun g153 w154 hS155 => ?_)
       refine ⟨⟨hS155.cell 5 rfl 0 rfl, hS155.cell 5 rfl 1 rfl, hS155.cell 7 rfl 2 rfl, hS155.cell 5 rfl 2 rfl, hS155.cell 7 rfl 0 rfl, trivial⟩, ?_⟩
       obtain ⟨t156, ht157, hx65⟩ := bind_some hx65
       refine WL.call (some 69) 87 #[(sv Ab p1 cb), (iv ((rdD p0 x24 z_Tile).S))] (fun fb => by kernel_rfl) (ref02_at_calls _ p1 ((rdD p0 x24 z_Tile).S) Ab cb t156 _ (hS155.rd 1) ht157) (fun v w158 hR159 => ?_)
       obtain ⟨rfl, hk_⟩ := hR159
       have hS160 := hS155.keepN hk_
       refine ⟨⟨hS160.cell 5 rfl 1 rfl, hS160.cell 5 rfl 2 rfl, hS160.cell 7 rfl 0 rfl, trivial⟩, ?_⟩
       refine seg 23 [] [0, 1, 3, 4, 5, 8, 13, 15, 62, 71, 73, 74, 75, 77] [(0, (sv Aa p0 ca)), (1, (sv Ab p1 cb)), (3, (iv p3)), (4, (iv p4)), (5, (sv A20 l22 c21)), (8, (pt g6)), (13, (iv x24)), (15, (pt g153)), (62, (sv A149 ((([] : List Int) ++ p2.Cells) ++ [x24]) c150)), (71, (iv (w64 (p2.South + (w64 (p4 * t156)))))), (73, (iv p2.North)), (74, (iv p4)), (75, (sv Ab p1 cb)), (77, (iv ((rdD p0 x24 z_Tile).N)))] [] (fun fb => by kernel_rfl) rfl trivial ?_
       obtain ⟨t161, ht162, hx65⟩ := bind_some hx65
       refine WL.call (some 78) 87 #[(sv Ab p1 cb), (iv ((rdD p0 x24 z_Tile).N))] (fun fb => by kernel_rfl) (ref02_at_calls _ p1 ((rdD p0 x24 z_Tile).N) Ab cb t161 _ (hS160.rd 1) ht162) (fun v w163 hR164 => ?_)
       obtain ⟨rfl, hk_⟩ := hR164
       have hS165 := hS160.keepN hk_
       refine ⟨⟨hS165.cell 5 rfl 1 rfl, hS165.cell 5 rfl 2 rfl, trivial⟩, ?_⟩
       refine seg 27 [] [0, 1, 3, 4, 5, 8, 13, 15, 81] [(0, (sv Aa p0 ca)), (1, (sv Ab p1 cb)), (3, (iv p3)), (4, (iv p4)), (5, (sv A20 l22 c21)), (8, (pt g6)), (13, (iv x24)), (15, (pt g153)), (81, (.agg #[(sv A149 ((([] : List Int) ++ p2.Cells) ++ [x24]) c150), (iv (w64 (p2.South + (w64 (p4 * t156))))), (iv (w64 (p2.North + (w64 (p4 * t161)))))]))] [] (fun fb => by kernel_rfl) rfl trivial ?_
       refine WL.store hS165 0 rfl [(0, (sv A149 ((([] : List Int) ++ p2.Cells) ++ [x24]) c150)), (1, (iv (w64 (p2.South + (w64 (p4 * t156)))))), (2, (iv (w64 (p2.North + (w64 (p4 * t161))))))] #[(sv A149 ((([] : List Int) ++ p2.Cells) ++ [x24]) c150), (iv (w64 (p2.South + (w64 (p4 * t156))))), (iv (w64 (p2.North + (w64 (p4 * t161)))))] (fun fb => by kernel_rfl) (by kernel_rfl) rfl [1, 2, 3, 4, 5, 6, 7] (by decide) (by decide) (fun w166 hS167 => ?_)
       refine ⟨trivial, ?_⟩
       refine WL.done rfl ?_
       injection hx65 with hx65
       exact WX.to Kx63 (((([] : List Int) ++ p2.Cells) ++ [x24], w64 (p2.South + (w64 (p4 * t156))), w64 (p2.North + (w64 (p4 * t161)))), g153, A149, c150) [0, 1, 3, 4, 5, 8, 13, 15] rfl ⟨(hS167.subR [0, 1]).sub [3, 4, 5, 6, 0, 1] (by decide), hx65.symm⟩
      ·
       refine segF 15 [.v (sv Ac p2.Cells cc), .v (iv p2.South), .v (iv ((rdD p0 x24 z_Tile).S)), .v (iv p2.North), .v (iv ((rdD p0 x24 z_Tile).N))] [0, 1, 3, 4, 5, 8, 13, 58, 60, 64, 65, 66, 68, 73, 74, 75, 77] [(0, (sv Aa p0 ca)), (1, (sv Ab p1 cb)), (3, (iv p3)), (4, (iv p4)), (5, (sv A20 l22 c21)), (8, (pt g6)), (13, (iv x24)), (58, (sv Ac p2.Cells cc)), (60, (iv x24)), (64, (iv p2.South)), (65, (iv p4)), (66, (sv Ab p1 cb)), (68, (iv ((rdD p0 x24 z_Tile).S))), (73, (iv p2.North)), (74, (iv p4)), (75, (sv Ab p1 cb)), (77, (iv ((rdD p0 x24 z_Tile).N)))] [] [0, 1, 2, 3, 4] [(2, ⟨g6, 0, none⟩, (sv Ac p2.Cells cc)), (8, ⟨g6, 1, none⟩, (iv p2.South)), (12, ⟨g41, 2, none⟩, (iv ((rdD p0 x24 z_Tile).S))), (17, ⟨g6, 2, none⟩, (iv p2.North)), (21, ⟨g41, 0, none⟩, (iv ((rdD p0 x24 z_Tile).N)))] (fun fb => by kernel_rfl) rfl trivial rfl ?_
       refine WL.new hS67 56 [] (fun g => (.slice (some ⟨g, 0, none⟩) 0 0)) (.cells #[] 3 (0, 0)) [] (fun fb g => by kernel_rfl) trivial (fun g168 w169 hS170 => ?_)
       refine ⟨⟨hS170.cell 3 rfl 0 rfl, hS170.cell 3 rfl 1 rfl, hS170.cell 5 rfl 2 rfl, hS170.cell 3 rfl 2 rfl, hS170.cell 5 rfl 0 rfl, trivial⟩, ?_⟩
       have hS171 := hS.go w169 [rowO 3 encInt (some ⟨g168, 0, none⟩) 0 ([] : List Int), rowO 88 encN_Row_ref02 A20 c21 (tag H23 l22), poolO [nestO subN_Row_ref02 H23 l22], blk g6 (.cells #[(sv Ac p2.Cells cc), (iv p2.South), (iv p2.North)] 88 (0, 0)), rowO 3 encInt Ac cc p2.Cells, blk g41 (.cells #[(iv ((rdD p0 x24 z_Tile).N)), (iv ((rdD p0 x24 z_Tile).E)), (iv ((rdD p0 x24 z_Tile).S)), (iv ((rdD p0 x24 z_Tile).W))] 40 (0, 0))] (hS170.map1 0 _ (fun h => rowO.ofBlk h rfl (Nat.le_of_ble_eq_true (by kernel_rfl))) (fun _ h => by obtain ⟨_, h1, h2⟩ := h; injection h1 with h1; subst h1; exact h2) [1, 2, 3, 4, 5] (by decide) (by decide))
       obtain ⟨h172, hx65⟩ := as_some hx65
       refine WL.append hS171 0 (d := 59) (tS := 25) (z := (iv 0)) (bytes := 8) (c2 := cc) rfl (fun fb => by kernel_rfl) (rowO.rd (hS171.own 4).1) (by kernel_rfl) (by kernel_rfl) rfl (by decide) h172 (by decide) [1, 2, 3, 4, 5] (by decide) (by decide) (fun A173 c174 w175 hS176 => ?_)
       refine ⟨⟨hS176.cell 3 rfl 1 rfl, hS176.cell 5 rfl 2 rfl, hS176.cell 3 rfl 2 rfl, hS176.cell 5 rfl 0 rfl, trivial⟩, ?_⟩
       refine WL.new hS176 61 [] (fun g => (.slice (some ⟨g, 0, none⟩) 1 1)) (.cells #[(iv x24)] 3 (0, 0)) [] (fun fb g => by kernel_rfl) trivial (fun g177 w178 hS179 => ?_)
       refine ⟨⟨hS179.cell 4 rfl 0 rfl, hS179.cell 4 rfl 1 rfl, hS179.cell 6 rfl 2 rfl, hS179.cell 4 rfl 2 rfl, hS179.cell 6 rfl 0 rfl, trivial⟩, ?_⟩
       have hS180 := hS171.go w178 [rowO 3 encInt (some ⟨g177, 0, none⟩) 1 [x24], rowO 3 encInt A173 c174 (([] : List Int) ++ p2.Cells), rowO 88 encN_Row_ref02 A20 c21 (tag H23 l22), poolO [nestO subN_Row_ref02 H23 l22], blk g6 (.cells #[(sv Ac p2.Cells cc), (iv p2.South), (iv p2.North)] 88 (0, 0)), rowO 3 encInt Ac cc p2.Cells, blk g41 (.cells #[(iv ((rdD p0 x24 z_Tile).N)), (iv ((rdD p0 x24 z_Tile).E)), (iv ((rdD p0 x24 z_Tile).S)), (iv ((rdD p0 x24 z_Tile).W))] 40 (0, 0))] (hS179.map1 0 _ (fun h => rowO.ofBlk h rfl (Nat.le_of_ble_eq_true (by kernel_rfl))) (fun _ h => by obtain ⟨_, h1, h2⟩ := h; injection h1 with h1; subst h1; exact h2) [1, 2, 3, 4, 5, 6] (by decide) (by decide))
       refine WL.new hS180 15 [] (fun g => (pt g)) (.cells #[(.slice none 0 0), (iv 0), (iv 0)] 88 (0, 0)) [] (fun fb g => by kernel_rfl) trivial (fun g181 w182 hS183 => ?_)
       refine ⟨⟨hS183.cell 5 rfl 0 rfl, hS183.cell 5 rfl 1 rfl, hS183.cell 7 rfl 2 rfl, hS183.cell 5 rfl 2 rfl, hS183.cell 7 rfl 0 rfl, trivial⟩, ?_⟩
       obtain ⟨h184, hx65⟩ := as_some hx65
       refine WL.append hS183 2 (d := 62) (tS := 25) (z := (iv 0)) (bytes := 8) (c2 := 1) rfl (fun fb => by kernel_rfl) (rowO.rd (hS183.own 1).1) (by kernel_rfl) (by kernel_rfl) rfl (by decide) h184 (by decide) [0, 1, 3, 4, 5, 6, 7] (by decide) (by decide) (fun A185 c186 w187 hS188 => ?_)
       refine ⟨⟨hS188.cell 5 rfl 1 rfl, hS188.cell 7 rfl 2 rfl, hS188.cell 5 rfl 2 rfl, hS188.cell 7 rfl 0 rfl, trivial⟩, ?_⟩
       obtain ⟨t189, ht190, hx65⟩ := bind_some hx65
       refine WL.call (some 69) 87 #[(sv Ab p1 cb), (iv ((rdD p0 x24 z_Tile).S))] (fun fb => by kernel_rfl) (ref02_at_calls _ p1 ((rdD p0 x24 z_Tile).S) Ab cb t189 _ (hS188.rd 1) ht190) (fun v w191 hR192 => ?_)
       obtain ⟨rfl, hk_⟩ := hR192
       have hS193 := hS188.keepN hk_
       refine ⟨⟨hS193.cell 5 rfl 1 rfl, hS193.cell 5 rfl 2 rfl, hS193.cell 7 rfl 0 rfl, trivial⟩, ?_⟩
       refine seg 23 [] [0, 1, 3, 4, 5, 8, 13, 15, 62, 71, 73, 74, 75, 77] [(0, (sv Aa p0 ca)), (1, (sv Ab p1 cb)), (3, (iv p3)), (4, (iv p4)), (5, (sv A20 l22 c21)), (8, (pt g6)), (13, (iv x24)), (15, (pt g181)), (62, (sv A185 ((([] : List Int) ++ p2.Cells) ++ [x24]) c186)), (71, (iv (w64 (p2.South + (w64 (p4 * t189)))))), (73, (iv p2.North)), (74, (iv p4)), (75, (sv Ab p1 cb)), (77, (iv ((rdD p0 x24 z_Tile).N)))] [] (fun fb => by kernel_rfl) rfl trivial ?_
       obtain ⟨t194, ht195, hx65⟩ := bind_some hx65
       refine WL.call (some 78) 87 #[(sv Ab p1 cb), (iv ((rdD p0 x24 z_Tile).N))] (fun fb => by kernel_rfl) (ref02_at_calls _ p1 ((rdD p0 x24 z_Tile).N) Ab cb t194 _ (hS193.rd 1) ht195) (fun v w196 hR197 => ?_)
       obtain ⟨rfl, hk_⟩ := hR197
       have hS198 := hS193.keepN hk_
       refine ⟨⟨hS198.cell 5 rfl 1 rfl, hS198.cell 5 rfl 2 rfl, trivial⟩, ?_⟩
       refine seg 27 [] [0, 1, 3, 4, 5, 8, 13, 15, 81] [(0, (sv Aa p0 ca)), (1, (sv Ab p1 cb)), (3, (iv p3)), (4, (iv p4)), (5, (sv A20 l22 c21)), (8, (pt g6)), (13, (iv x24)), (15, (pt g181)), (81, (.agg #[(sv A185 ((([] : List Int) ++ p2.Cells) ++ [x24]) c186), (iv (w64 (p2.South + (w64 (p4 * t189))))), (iv (w64 (p2.North + (w64 (p4 * t194)))))]))] [] (fun fb => by kernel_rfl) rfl trivial ?_
       refine WL.store hS198 1 rfl [(0, (sv A185 ((([] : List Int) ++ p2.Cells) ++ [x24]) c186)), (1, (iv (w64 (p2.South + (w64 (p4 * t189)))))), (2, (iv (w64 (p2.North + (w64 (p4 * t194))))))] #[(sv A185 ((([] : List Int) ++ p2.Cells) ++ [x24]) c186), (iv (w64 (p2.South + (w64 (p4 * t189))))), (iv (w64 (p2.North + (w64 (p4 * t194)))))] (fun fb => by kernel_rfl) (by kernel_rfl) rfl [0, 2, 3, 4, 5, 6, 7] (by decide) (by decide) (fun w199 hS200 => ?_)
       refine ⟨trivial, ?_⟩
       refine WL.done rfl ?_
       injection hx65 with hx65
       exact WX.to Kx63 (((([] : List Int) ++ p2.Cells) ++ [x24], w64 (p2.South + (w64 (p4 * t189))), w64 (p2.North + (w64 (p4 * t194)))), g181, A185, c186) [0, 1, 3, 4, 5, 8, 13, 15] rfl ⟨(hS200.subR [0, 1]).sub [3, 4, 5, 6, 0, 1] (by decide), hx65.symm⟩
      ·
       refine segF 15 [.v (sv Ac p2.Cells cc), .v (iv p2.South), .v (iv ((rdD p0 x24 z_Tile).S)), .v (iv p2.North), .v (iv ((rdD p0 x24 z_Tile).N))] [0, 1, 3, 4, 5, 8, 13, 58, 60, 64, 65, 66, 68, 73, 74, 75, 77] [(0, (sv Aa p0 ca)), (1, (sv Ab p1 cb)), (3, (iv p3)), (4, (iv p4)), (5, (sv A20 l22 c21)), (8, (pt g6)), (13, (iv x24)), (58, (sv Ac p2.Cells cc)), (60, (iv x24)), (64, (iv p2.South)), (65, (iv p4)), (66, (sv Ab p1 cb)), (68, (iv ((rdD p0 x24 z_Tile).S))), (73, (iv p2.North)), (74, (iv p4)), (75, (sv Ab p1 cb)), (77, (iv ((rdD p0 x24 z_Tile).N)))] [] [0, 1, 2, 3, 4] [(2, ⟨g6, 0, none⟩, (sv Ac p2.Cells cc)), (8, ⟨g6, 1, none⟩, (iv p2.South)), (12, ⟨g41, 2, none⟩, (iv ((rdD p0 x24 z_Tile).S))), (17, ⟨g6, 2, none⟩, (iv p2.North)), (21, ⟨g41, 0, none⟩, (iv ((rdD p0 x24 z_Tile).N)))] (fun fb => by kernel_rfl) rfl trivial rfl ?_
       refine WL.new hS67 56 [] (fun g => (.slice (some ⟨g, 0, none⟩) 0 0)) (.cells #[] 3 (0, 0)) [] (fun fb g => by kernel_rfl) trivial (fun g201 w202 hS203 => ?_)
       refine ⟨⟨hS203.cell 3 rfl 0 rfl, hS203.cell 3 rfl 1 rfl, hS203.cell 5 rfl 2 rfl, hS203.cell 3 rfl 2 rfl, hS203.cell 5 rfl 0 rfl, trivial⟩, ?_⟩
       have hS204 := hS.go w202 [rowO 3 encInt (some ⟨g201, 0, none⟩) 0 ([] : List Int), rowO 88 encN_Row_ref02 A20 c21 (tag H23 l22), poolO [nestO subN_Row_ref02 H23 l22], blk g6 (.cells #[(sv Ac p2.Cells cc), (iv p2.South), (iv p2.North)] 88 (0, 0)), rowO 3 encInt Ac cc p2.Cells, blk g41 (.cells #[(iv ((rdD p0 x24 z_Tile).N)), (iv ((rdD p0 x24 z_Tile).E)), (iv ((rdD p0 x24 z_Tile).S)), (iv ((rdD p0 x24 z_Tile).W))] 40 (0, 0))] (hS203.map1 0 _ (fun h => rowO.ofBlk h rfl (Nat.le_of_ble_eq_true (by kernel_rfl))) (fun _ h => by obtain ⟨_, h1, h2⟩ := h; injection h1 with h1; subst h1; exact h2) [1, 2, 3, 4, 5] (by decide) (by decide))
       obtain ⟨h205, hx65⟩ := as_some hx65
       refine WL.append hS204 0 (d := 59) (tS := 25) (z := (iv 0)) (bytes := 8) (c2 := cc) rfl (fun fb => by kernel_rfl) (rowO.rd (hS204.own 4).1) (by kernel_rfl) (by kernel_rfl) rfl (by decide) h205 (by decide) [1, 2, 3, 4, 5] (by decide) (by decide) (fun A206 c207 w208 hS209 => ?_)
       refine ⟨⟨hS209.cell 3 rfl 1 rfl, hS209.cell 5 rfl 2 rfl, hS209.cell 3 rfl 2 rfl, hS209.cell 5 rfl 0 rfl, trivial⟩, ?_⟩
       refine WL.new hS209 15 [] (fun g => (pt g)) (.cells #[(.slice none 0 0), (iv 0), (iv 0)] 88 (0, 0)) [] (fun fb g => by kernel_rfl) trivial (fun g210 w211 hS212 => ?_)
       refine ⟨⟨hS212.cell 4 rfl 0 rfl, hS212.cell 4 rfl 1 rfl, hS212.cell 6 rfl 2 rfl, hS212.cell 4 rfl 2 rfl, hS212.cell 6 rfl 0 rfl, trivial⟩, ?_⟩
       refine WL.new hS212 61 [] (fun g => (.slice (some ⟨g, 0, none⟩) 1 1)) (.cells #[(iv x24)] 3 (0, 0)) [] (fun fb g => by kernel_rfl) trivial (fun g213 w214 hS215 => ?_)
       refine ⟨⟨hS215.cell 5 rfl 0 rfl, hS215.cell 5 rfl 1 rfl, hS215.cell 7 rfl 2 rfl, hS215.cell 5 rfl 2 rfl, hS215.cell 7 rfl 0 rfl, trivial⟩, ?_⟩
       have hS216 := hS204.go w214 [rowO 3 encInt (some ⟨g213, 0, none⟩) 1 [x24], blk g210 (.cells #[(.slice none 0 0), (iv 0), (iv 0)] 88 (0, 0)), rowO 3 encInt A206 c207 (([] : List Int) ++ p2.Cells), rowO 88 encN_Row_ref02 A20 c21 (tag H23 l22), poolO [nestO subN_Row_ref02 H23 l22], blk g6 (.cells #[(sv Ac p2.Cells cc), (iv p2.South), (iv p2.North)] 88 (0, 0)), rowO 3 encInt Ac cc p2.Cells, blk g41 (.cells #[(iv ((rdD p0 x24 z_Tile).N)), (iv ((rdD p0 x24 z_Tile).E)), (iv ((rdD p0 x24 z_Tile).S)), (iv ((rdD p0 x24 z_Tile).W))] 40 (0, 0))] (hS215.map1 0 _ (fun h => rowO.ofBlk h rfl (Nat.le_of_ble_eq_true (by kernel_rfl))) (fun _ h => by obtain ⟨_, h1, h2⟩ := h; injection h1 with h1; subst h1; exact h2) [1, 2, 3, 4, 5, 6, 7] (by decide) (by decide))
       obtain ⟨h217, hx65⟩ := as_some hx65
       refine WL.append hS216 2 (d := 62) (tS := 25) (z := (iv 0)) (bytes := 8) (c2 := 1) rfl (fun fb => by kernel_rfl) (rowO.rd (hS216.own 0).1) (by kernel_rfl) (by kernel_rfl) rfl (by decide) h217 (by decide) [0, 1, 3, 4, 5, 6, 7] (by decide) (by decide) (fun A218 c219 w220 hS221 => ?_)
       refine ⟨⟨hS221.cell 5 rfl 1 rfl, hS221.cell 7 rfl 2 rfl, hS221.cell 5 rfl 2 rfl, hS221.cell 7 rfl 0 rfl, trivial⟩, ?_⟩
       obtain ⟨t222, ht223, hx65⟩ := bind_some hx65
       refine WL.call (some 69) 87 #[(sv Ab p1 cb), (iv ((rdD p0 x24 z_Tile).S))] (fun fb => by kernel_rfl) (ref02_at_calls _ p1 ((rdD p0 x24 z_Tile).S) Ab cb t222 _ (hS221.rd 1) ht223) (fun v w224 hR225 => ?_)
       obtain ⟨rfl, hk_⟩ := hR225
       have hS226 := hS221.keepN hk_
       refine ⟨⟨hS226.cell 5 rfl 1 rfl, hS226.cell 5 rfl 2 rfl, hS226.cell 7 rfl 0 rfl, trivial⟩, ?_⟩
       refine seg 23 [] [0, 1, 3, 4, 5, 8, 13, 15, 62, 71, 73, 74, 75, 77] [(0, (sv Aa p0 ca)), (1, (sv Ab p1 cb)), (3, (iv p3)), (4, (iv p4)), (5, (sv A20 l22 c21)), (8, (pt g6)), (13, (iv x24)), (15, (pt g210)), (62, (sv A218 ((([] : List Int) ++ p2.Cells) ++ [x24]) c219)), (71, (iv (w64 (p2.South + (w64 (p4 * t222)))))), (73, (iv p2.North)), (74, (iv p4)), (75, (sv Ab p1 cb)), (77, (iv ((rdD p0 x24 z_Tile).N)))] [] (fun fb => by kernel_rfl) rfl trivial ?_
       obtain ⟨t227, ht228, hx65⟩ := bind_some hx65
       refine WL.call (some 78) 87 #[(sv Ab p1 cb), (iv ((rdD p0 x24 z_Tile).N))] (fun fb => by kernel_rfl) (ref02_at_calls _ p1 ((rdD p0 x24 z_Tile).N) Ab cb t227 _ (hS226.rd 1) ht228) (fun v w229 hR230 => ?_)
       obtain ⟨rfl, hk_⟩ := hR230
       have hS231 := hS226.keepN hk_
       refine ⟨⟨hS231.cell 5 rfl 1 rfl, hS231.cell 5 rfl 2 rfl, trivial⟩, ?_⟩
       refine seg 27 [] [0, 1, 3, 4, 5, 8, 13, 15, 81] [(0, (sv Aa p0 ca)), (1, (sv Ab p1 cb)), (3, (iv p3)), (4, (iv p4)), (5, (sv A20 l22 c21)), (8, (pt g6)), (13, (iv x24)), (15, (pt g210)), (81, (.agg #[(sv A218 ((([] : List Int) ++ p2.Cells) ++ [x24]) c219), (iv (w64 (p2.South + (w64 (p4 * t222))))), (iv (w64 (p2.North + (w64 (p4 * t227)))))]))] [] (fun fb => by kernel_rfl) rfl trivial ?_
       refine WL.store hS231 2 rfl [(0, (sv A218 ((([] : List Int) ++ p2.Cells) ++ [x24]) c219)), (1, (iv (w64 (p2.South + (w64 (p4 * t222)))))), (2, (iv (w64 (p2.North + (w64 (p4 * t227))))))] #[(sv A218 ((([] : List Int) ++ p2.Cells) ++ [x24]) c219), (iv (w64 (p2.South + (w64 (p4 * t222))))), (iv (w64 (p2.North + (w64 (p4 * t227)))))] (fun fb => by kernel_rfl) (by kernel_rfl) rfl [0, 1, 3, 4, 5, 6, 7] (by decide) (by decide) (fun w232 hS233 => ?_)
       refine ⟨trivial, ?_⟩
       refine WL.done rfl ?_
       injection hx65 with hx65
       exact WX.to Kx63 (((([] : List Int) ++ p2.Cells) ++ [x24], w64 (p2.South + (w64 (p4 * t222))), w64 (p2.North + (w64 (p4 * t227)))), g210, A218, c219) [0, 1, 3, 4, 5, 8, 13, 15] rfl ⟨(hS233.subR [0, 1]).sub [3, 4, 5, 6, 0, 1] (by decide), hx65.symm⟩
      ·
       refine segF 15 [.v (sv Ac p2.Cells cc), .v (iv p2.South), .v (iv ((rdD p0 x24 z_Tile).S)), .v (iv p2.North), .v (iv ((rdD p0 x24 z_Tile).N))] [0, 1, 3, 4, 5, 8, 13, 58, 60, 64, 65, 66, 68, 73, 74, 75, 77] [(0, (sv Aa p0 ca)), (1, (sv Ab p1 cb)), (3, (iv p3)), (4, (iv p4)), (5, (sv A20 l22 c21)), (8, (pt g6)), (13, (iv x24)), (58, (sv Ac p2.Cells cc)), (60, (iv x24)), (64, (iv p2.South)), (65, (iv p4)), (66, (sv Ab p1 cb)), (68, (iv ((rdD p0 x24 z_Tile).S))), (73, (iv p2.North)), (74, (iv p4)), (75, (sv Ab p1 cb)), (77, (iv ((rdD p0 x24 z_Tile).N)))] [] [0, 1, 2, 3, 4] [(2, ⟨g6, 0, none⟩, (sv Ac p2.Cells cc)), (8, ⟨g6, 1, none⟩, (iv p2.South)), (12, ⟨g41, 2, none⟩, (iv ((rdD p0 x24 z_Tile).S))), (17, ⟨g6, 2, none⟩, (iv p2.North)), (21, ⟨g41, 0, none⟩, (iv ((rdD p0 x24 z_Tile).N)))] (fun fb => by kernel_rfl) rfl trivial rfl ?_
       refine WL.new hS67 56 [] (fun g => (.slice (some ⟨g, 0, none⟩) 0 0)) (.cells #[] 3 (0, 0)) [] (fun fb g => by kernel_rfl) trivial (fun g234 w235 hS236 => ?_)
       refine ⟨⟨hS236.cell 3 rfl 0 rfl, hS236.cell 3 rfl 1 rfl, hS236.cell 5 rfl 2 rfl, hS236.cell 3 rfl 2 rfl, hS236.cell 5 rfl 0 rfl, trivial⟩, ?_⟩
       have hS237 := hS.go w235 [rowO 3 encInt (some ⟨g234, 0, none⟩) 0 ([] : List Int), rowO 88 encN_Row_ref02 A20 c21 (tag H23 l22), poolO [nestO subN_Row_ref02 H23 l22], blk g6 (.cells #[(sv Ac p2.Cells cc), (iv p2.South), (iv p2.North)] 88 (0, 0)), rowO 3 encInt Ac cc p2.Cells, blk g41 (.cells #[(iv ((rdD p0 x24 z_Tile).N)), (iv ((rdD p0 x24 z_Tile).E)), (iv ((rdD p0 x24 z_Tile).S)), (iv ((rdD p0 x24 z_Tile).W))] 40 (0, 0))] (hS236.map1 0 _ (fun h => rowO.ofBlk h rfl (Nat.le_of_ble_eq_true (by kernel_rfl))) (fun _ h => by obtain ⟨_, h1, h2⟩ := h; injection h1 with h1; subst h1; exact h2) [1, 2, 3, 4, 5] (by decide) (by decide))
       refine WL.new hS237 61 [] (fun g => (.slice (some ⟨g, 0, none⟩) 1 1)) (.cells #[(iv x24)] 3 (0, 0)) [] (fun fb g => by kernel_rfl) trivial (fun g238 w239 hS240 => ?_)
       refine ⟨⟨hS240.cell 4 rfl 0 rfl, hS240.cell 4 rfl 1 rfl, hS240.cell 6 rfl 2 rfl, hS240.cell 4 rfl 2 rfl, hS240.cell 6 rfl 0 rfl, trivial⟩, ?_⟩
       have hS241 := hS237.go w239 [rowO 3 encInt (some ⟨g238, 0, none⟩) 1 [x24], rowO 3 encInt (some ⟨g234, 0, none⟩) 0 ([] : List Int), rowO 88 encN_Row_ref02 A20 c21 (tag H23 l22), poolO [nestO subN_Row_ref02 H23 l22], blk g6 (.cells #[(sv Ac p2.Cells cc), (iv p2.South), (iv p2.North)] 88 (0, 0)), rowO 3 encInt Ac cc p2.Cells, blk g41 (.cells #[(iv ((rdD p0 x24 z_Tile).N)), (iv ((rdD p0 x24 z_Tile).E)), (iv ((rdD p0 x24 z_Tile).S)), (iv ((rdD p0 x24 z_Tile).W))] 40 (0, 0))] (hS240.map1 0 _ (fun h => rowO.ofBlk h rfl (Nat.le_of_ble_eq_true (by kernel_rfl))) (fun _ h => by obtain ⟨_, h1, h2⟩ := h; injection h1 with h1; subst h1; exact h2) [1, 2, 3, 4, 5, 6] (by decide) (by decide))
       obtain ⟨h242, hx65⟩ := as_some hx65
       refine WL.append hS241 1 (d := 59) (tS := 25) (z := (iv 0)) (bytes := 8) (c2 := cc) rfl (fun fb => by kernel_rfl) (rowO.rd (hS241.own 5).1) (by kernel_rfl) (by kernel_rfl) rfl (by decide) h242 (by decide) [0, 2, 3, 4, 5, 6] (by decide) (by decide) (fun A243 c244 w245 hS246 => ?_)
       refine ⟨⟨hS246.cell 4 rfl 1 rfl, hS246.cell 6 rfl 2 rfl, hS246.cell 4 rfl 2 rfl, hS246.cell 6 rfl 0 rfl, trivial⟩, ?_⟩
       obtain ⟨h247, hx65⟩ := as_some hx65
       refine WL.append hS246 0 (d := 62) (tS := 25) (z := (iv 0)) (bytes := 8) (c2 := 1) rfl (fun fb => by kernel_rfl) (rowO.rd (hS246.own 1).1) (by kernel_rfl) (by kernel_rfl) rfl (by decide) h247 (by decide) [1, 2, 3, 4, 5, 6] (by decide) (by decide) (fun A248 c249 w250 hS251 => ?_)
       refine ⟨⟨hS251.cell 4 rfl 1 rfl, hS251.cell 6 rfl 2 rfl, hS251.cell 4 rfl 2 rfl, hS251.cell 6 rfl 0 rfl, trivial⟩, ?_⟩
       obtain ⟨t252, ht253, hx65⟩ := bind_some hx65
       refine WL.call (some 69) 87 #[(sv Ab p1 cb), (iv ((rdD p0 x24 z_Tile).S))] (fun fb => by kernel_rfl) (ref02_at_calls _ p1 ((rdD p0 x24 z_Tile).S) Ab cb t252 _ (hS251.rd 1) ht253) (fun v w254 hR255 => ?_)
       obtain ⟨rfl, hk_⟩ := hR255
       have hS256 := hS251.keepN hk_
       refine ⟨⟨hS256.cell 4 rfl 1 rfl, hS256.cell 4 rfl 2 rfl, hS256.cell 6 rfl 0 rfl, trivial⟩, ?_⟩
       refine seg 22 [] [0, 1, 3, 4, 5, 8, 13, 62, 71, 73, 74, 75, 77] [(0, (sv Aa p0 ca)), (1, (sv Ab p1 cb)), (3, (iv p3)), (4, (iv p4)), (5, (sv A20 l22 c21)), (8, (pt g6)), (13, (iv x24)), (62, (sv A248 ((([] : List Int) ++ p2.Cells) ++ [x24]) c249)), (71, (iv (w64 (p2.South + (w64 (p4 * t252)))))), (73, (iv p2.North)), (74, (iv p4)), (75, (sv Ab p1 cb)), (77, (iv ((rdD p0 x24 z_Tile).N)))] [] (fun fb => by kernel_rfl) rfl trivial ?_
       obtain ⟨t257, ht258, hx65⟩ := bind_some hx65
       refine WL.call (some 78) 87 #[(sv Ab p1 cb), (iv ((rdD p0 x24 z_Tile).N))] (fun fb => by kernel_rfl) (ref02_at_calls _ p1 ((rdD p0 x24 z_Tile).N) Ab cb t257 _ (hS256.rd 1) ht258) (fun v w259 hR260 => ?_)
       obtain ⟨rfl, hk_⟩ := hR260
       have hS261 := hS256.keepN hk_
       refine ⟨⟨hS261.cell 4 rfl 1 rfl, hS261.cell 4 rfl 2 rfl, trivial⟩, ?_⟩
       refine seg 26 [] [0, 1, 3, 4, 5, 8, 13, 81] [(0, (sv Aa p0 ca)), (1, (sv Ab p1 cb)), (3, (iv p3)), (4, (iv p4)), (5, (sv A20 l22 c21)), (8, (pt g6)), (13, (iv x24)), (81, (.agg #[(sv A248 ((([] : List Int) ++ p2.Cells) ++ [x24]) c249), (iv (w64 (p2.South + (w64 (p4 * t252))))), (iv (w64 (p2.North + (w64 (p4 * t257)))))]))] [] (fun fb => by kernel_rfl) rfl trivial ?_
       refine WL.new hS261 15 [] (fun g => (pt g)) (.cells #[(.slice none 0 0), (iv 0), (iv 0)] 88 (0, 0)) [] (fun fb g => by kernel_rfl) trivial (fun g262 w263 hS264 => ?_)
       refine ⟨⟨hS264.cell 5 rfl 0 rfl, hS264.cell 5 rfl 1 rfl, hS264.cell 7 rfl 2 rfl, hS264.cell 5 rfl 2 rfl, hS264.cell 7 rfl 0 rfl, trivial⟩, ?_⟩
       refine WL.store hS264 0 rfl [(0, (sv A248 ((([] : List Int) ++ p2.Cells) ++ [x24]) c249)), (1, (iv (w64 (p2.South + (w64 (p4 * t252)))))), (2, (iv (w64 (p2.North + (w64 (p4 * t257))))))] #[(sv A248 ((([] : List Int) ++ p2.Cells) ++ [x24]) c249), (iv (w64 (p2.South + (w64 (p4 * t252))))), (iv (w64 (p2.North + (w64 (p4 * t257)))))] (fun fb => by kernel_rfl) (by kernel_rfl) rfl [1, 2, 3, 4, 5, 6, 7] (by decide) (by decide) (fun w265 hS266 => ?_)
       refine ⟨trivial, ?_⟩
       refine WL.done rfl ?_
       injection hx65 with hx65
       exact WX.to Kx63 (((([] : List Int) ++ p2.Cells) ++ [x24], w64 (p2.South + (w64 (p4 * t252))), w64 (p2.North + (w64 (p4 * t257)))), g262, A248, c249) [0, 1, 3, 4, 5, 8, 13, 15] rfl ⟨(hS266.subR [0, 1]).sub [3, 4, 5, 6, 0, 1] (by decide), hx65.symm⟩
      ·
       refine segF 15 [.v (sv Ac p2.Cells cc), .v (iv p2.South), .v (iv ((rdD p0 x24 z_Tile).S)), .v (iv p2.North), .v (iv ((rdD p0 x24 z_Tile).N))] [0, 1, 3, 4, 5, 8, 13, 58, 60, 64, 65, 66, 68, 73, 74, 75, 77] [(0, (sv Aa p0 ca)), (1, (sv Ab p1 cb)), (3, (iv p3)), (4, (iv p4)), (5, (sv A20 l22 c21)), (8, (pt g6)), (13, (iv x24)), (58, (sv Ac p2.Cells cc)), (60, (iv x24)), (64, (iv p2.South)), (65, (iv p4)), (66, (sv Ab p1 cb)), (68, (iv ((rdD p0 x24 z_Tile).S))), (73, (iv p2.North)), (74, (iv p4)), (75, (sv Ab p1 cb)), (77, (iv ((rdD p0 x24 z_Tile).N)))] [] [0, 1, 2, 3, 4] [(2, ⟨g6, 0, none⟩, (sv Ac p2.Cells cc)), (8, ⟨g6, 1, none⟩, (iv p2.South)), (12, ⟨g41, 2, none⟩, (iv ((rdD p0 x24 z_Tile).S))), (17, ⟨g6, 2, none⟩, (iv p2.North)), (21, ⟨g41, 0, none⟩, (iv ((rdD p0 x24 z_Tile).N)))] (fun fb => by kernel_rfl) rfl trivial rfl ?_
       refine WL.new hS67 56 [] (fun g => (.slice (some ⟨g, 0, none⟩) 0 0)) (.cells #[] 3 (0, 0)) [] (fun fb g => by kernel_rfl) trivial (fun g267 w268 hS269 => ?_)
       refine ⟨⟨hS269.cell 3 rfl 0 rfl, hS269.cell 3 rfl 1 rfl, hS269.cell 5 rfl 2 rfl, hS269.cell 3 rfl 2 rfl, hS269.cell 5 rfl 0 rfl, trivial⟩, ?_⟩
       have hS270 := hS.go w268 [rowO 3 encInt (some ⟨g267, 0, none⟩) 0 ([] : List Int), rowO 88 encN_Row_ref02 A20 c21 (tag H23 l22), poolO [nestO subN_Row_ref02 H23 l22], blk g6 (.cells #[(sv Ac p2.Cells cc), (iv p2.South), (iv p2.North)] 88 (0, 0)), rowO 3 encInt Ac cc p2.Cells, blk g41 (.cells #[(iv ((rdD p0 x24 z_Tile).N)), (iv ((rdD p0 x24 z_Tile).E)), (iv ((rdD p0 x24 z_Tile).S)), (iv ((rdD p0 x24 z_Tile).W))] 40 (0, 0))] (hS269.map1 0 _ (fun h => rowO.ofBlk h rfl (Nat.le_of_ble_eq_true (by kernel_rfl))) (fun _ h => by obtain ⟨_, h1, h2⟩ := h; injection h1 with h1; subst h1; exact h2) [1, 2, 3, 4, 5] (by decide) (by decide))
       refine WL.new hS270 61 [] (fun g => (.slice (some ⟨g, 0, none⟩) 1 1)) (.cells #[(iv x24)] 3 (0, 0)) [] (fun fb g => by kernel_rfl) trivial (fun g271 w272 hS273 => ?_)
       refine ⟨⟨hS273.cell 4 rfl 0 rfl, hS273.cell 4 rfl 1 rfl, hS273.cell 6 rfl 2 rfl, hS273.cell 4 rfl 2 rfl, hS273.cell 6 rfl 0 rfl, trivial⟩, ?_⟩
       have hS274 := hS270.go w272 [rowO 3 encInt (some ⟨g271, 0, none⟩) 1 [x24], rowO 3 encInt (some ⟨g267, 0, none⟩) 0 ([] : List Int), rowO 88 encN_Row_ref02 A20 c21 (tag H23 l22), poolO [nestO subN_Row_ref02 H23 l22], blk g6 (.cells #[(sv Ac p2.Cells cc), (iv p2.South), (iv p2.North)] 88 (0, 0)), rowO 3 encInt Ac cc p2.Cells, blk g41 (.cells #[(iv ((rdD p0 x24 z_Tile).N)), (iv ((rdD p0 x24 z_Tile).E)), (iv ((rdD p0 x24 z_Tile).S)), (iv ((rdD p0 x24 z_Tile).W))] 40 (0, 0))] (hS273.map1 0 _ (fun h => rowO.ofBlk h rfl (Nat.le_of_ble_eq_true (by kernel_rfl))) (fun _ h => by obtain ⟨_, h1, h2⟩ := h; injection h1 with h1; subst h1; exact h2) [1, 2, 3, 4, 5, 6] (by decide) (by decide))
       obtain ⟨h275, hx65⟩ := as_some hx65
       refine WL.append hS274 1 (d := 59) (tS := 25) (z := (iv 0)) (bytes := 8) (c2 := cc) rfl (fun fb => by kernel_rfl) (rowO.rd (hS274.own 5).1) (by kernel_rfl) (by kernel_rfl) rfl (by decide) h275 (by decide) [0, 2, 3, 4, 5, 6] (by decide) (by decide) (fun A276 c277 w278 hS279 => ?_)
       refine ⟨⟨hS279.cell 4 rfl 1 rfl, hS279.cell 6 rfl 2 rfl, hS279.cell 4 rfl 2 rfl, hS279.cell 6 rfl 0 rfl, trivial⟩, ?_⟩
       obtain ⟨h280, hx65⟩ := as_some hx65
       refine WL.append hS279 0 (d := 62) (tS := 25) (z := (iv 0)) (bytes := 8) (c2 := 1) rfl (fun fb => by kernel_rfl) (rowO.rd (hS279.own 1).1) (by kernel_rfl) (by kernel_rfl) rfl (by decide) h280 (by decide) [1, 2, 3, 4, 5, 6] (by decide) (by decide) (fun A281 c282 w283 hS284 => ?_)
       refine ⟨⟨hS284.cell 4 rfl 1 rfl, hS284.cell 6 rfl 2 rfl, hS284.cell 4 rfl 2 rfl, hS284.cell 6 rfl 0 rfl, trivial⟩, ?_⟩
       obtain ⟨t285, ht286, hx65⟩ := bind_some hx65
       refine WL.call (some 69) 87 #[(sv Ab p1 cb), (iv ((rdD p0 x24 z_Tile).S))] (fun fb => by kernel_rfl) (ref02_at_calls _ p1 ((rdD p0 x24 z_Tile).S) Ab cb t285 _ (hS284.rd 1) ht286) (fun v w287 hR288 => ?_)
       obtain ⟨rfl, hk_⟩ := hR288
       have hS289 := hS284.keepN hk_
       refine ⟨⟨hS289.cell 4 rfl 1 rfl, hS289.cell 4 rfl 2 rfl, hS289.cell 6 rfl 0 rfl, trivial⟩, ?_⟩
       refine seg 22 [] [0, 1, 3, 4, 5, 8, 13, 62, 71, 73, 74, 75, 77] [(0, (sv Aa p0 ca)), (1, (sv Ab p1 cb)), (3, (iv p3)), (4, (iv p4)), (5, (sv A20 l22 c21)), (8, (pt g6)), (13, (iv x24)), (62, (sv A281 ((([] : List Int) ++ p2.Cells) ++ [x24]) c282)), (71, (iv (w64 (p2.South + (w64 (p4 * t285)))))), (73, (iv p2.North)), (74, (iv p4)), (75, (sv Ab p1 cb)), (77, (iv ((rdD p0 x24 z_Tile).N)))] [] (fun fb => by kernel_rfl) rfl trivial ?_
       refine WL.new hS289 15 [] (fun g => (pt g)) (.cells #[(.slice none 0 0), (iv 0), (iv 0)] 88 (0, 0)) [] (fun fb g => by kernel_rfl) trivial (fun g290 w291 hS292 => ?_)
       refine ⟨⟨hS292.cell 5 rfl 0 rfl, hS292.cell 5 rfl 1 rfl, hS292.cell 7 rfl 2 rfl, hS292.cell 5 rfl 2 rfl, hS292.cell 7 rfl 0 rfl, trivial⟩, ?_⟩
       obtain ⟨t293, ht294, hx65⟩ := bind_some hx65
       refine WL.call (some 78) 87 #[(sv Ab p1 cb), (iv ((rdD p0 x24 z_Tile).N))] (fun fb => by kernel_rfl) (ref02_at_calls _ p1 ((rdD p0 x24 z_Tile).N) Ab cb t293 _ (hS292.rd 1) ht294) (fun v w295 hR296 => ?_)
       obtain ⟨rfl, hk_⟩ := hR296
       have hS297 := hS292.keepN hk_
       refine ⟨⟨hS297.cell 5 rfl 1 rfl, hS297.cell 5 rfl 2 rfl, trivial⟩, ?_⟩
       refine seg 27 [] [0, 1, 3, 4, 5, 8, 13, 15, 81] [(0, (sv Aa p0 ca)), (1, (sv Ab p1 cb)), (3, (iv p3)), (4, (iv p4)), (5, (sv A20 l22 c21)), (8, (pt g6)), (13, (iv x24)), (15, (pt g290)), (81, (.agg #[(sv A281 ((([] : List Int) ++ p2.Cells) ++ [x24]) c282), (iv (w64 (p2.South + (w64 (p4 * t285))))), (iv (w64 (p2.North + (w64 (p4 * t293)))))]))] [] (fun fb => by kernel_rfl) rfl trivial ?_
       refine WL.store hS297 0 rfl [(0, (sv A281 ((([] : List Int) ++ p2.Cells) ++ [x24]) c282)), (1, (iv (w64 (p2.South + (w64 (p4 * t285)))))), (2, (iv (w64 (p2.North + (w64 (p4 * t293))))))] #[(sv A281 ((([] : List Int) ++ p2.Cells) ++ [x24]) c282), (iv (w64 (p2.South + (w64 (p4 * t285))))), (iv (w64 (p2.North + (w64 (p4 * t293)))))] (fun fb => by kernel_rfl) (by kernel_rfl) rfl [1, 2, 3, 4, 5, 6, 7] (by decide) (by decide) (fun w298 hS299 => ?_)
       refine ⟨trivial, ?_⟩
       refine WL.done rfl ?_
       injection hx65 with hx65
       exact WX.to Kx63 (((([] : List Int) ++ p2.Cells) ++ [x24], w64 (p2.South + (w64 (p4 * t285))), w64 (p2.North + (w64 (p4 * t293)))), g290, A281, c282) [0, 1, 3, 4, 5, 8, 13, 15] rfl ⟨(hS299.subR [0, 1]).sub [3, 4, 5, 6, 0, 1] (by decide), hx65.symm⟩
      ·
       refine segF 15 [.v (sv Ac p2.Cells cc), .v (iv p2.South), .v (iv ((rdD p0 x24 z_Tile).S)), .v (iv p2.North), .v (iv ((rdD p0 x24 z_Tile).N))] [0, 1, 3, 4, 5, 8, 13, 58, 60, 64, 65, 66, 68, 73, 74, 75, 77] [(0, (sv Aa p0 ca)), (1, (sv Ab p1 cb)), (3, (iv p3)), (4, (iv p4)), (5, (sv A20 l22 c21)), (8, (pt g6)), (13, (iv x24)), (58, (sv Ac p2.Cells cc)), (60, (iv x24)), (64, (iv p2.South)), (65, (iv p4)), (66, (sv Ab p1 cb)), (68, (iv ((rdD p0 x24 z_Tile).S))), (73, (iv p2.North)), (74, (iv p4)), (75, (sv Ab p1 cb)), (77, (iv ((rdD p0 x24 z_Tile).N)))] [] [0, 1, 2, 3, 4] [(2, ⟨g6, 0, none⟩, (sv Ac p2.Cells cc)), (8, ⟨g6, 1, none⟩, (iv p2.South)), (12, ⟨g41, 2, none⟩, (iv ((rdD p0 x24 z_Tile).S))), (17, ⟨g6, 2, none⟩, (iv p2.North)), (21, ⟨g41, 0, none⟩, (iv ((rdD p0 x24 z_Tile).N)))] (fun fb => by kernel_rfl) rfl trivial rfl ?_
       refine WL.new hS67 56 [] (fun g => (.slice (some ⟨g, 0, none⟩) 0 0)) (.cells #[] 3 (0, 0)) [] (fun fb g => by kernel_rfl) trivial (fun g300 w301 hS302 => ?_)
       refine ⟨⟨hS302.cell 3 rfl 0 rfl, hS302.cell 3 rfl 1 rfl, hS302.cell 5 rfl 2 rfl, hS302.cell 3 rfl 2 rfl, hS302.cell 5 rfl 0 rfl, trivial⟩, ?_⟩
       have hS303 := hS.go w301 [rowO 3 encInt (some ⟨g300, 0, none⟩) 0 ([] : List Int), rowO 88 encN_Row_ref02 A20 c21 (tag H23 l22), poolO [nestO subN_Row_ref02 H23 l22], blk g6 (.cells #[(sv Ac p2.Cells cc), (iv p2.South), (iv p2.North)] 88 (0, 0)), rowO 3 encInt Ac cc p2.Cells, blk g41 (.cells #[(iv ((rdD p0 x24 z_Tile).N)), (iv ((rdD p0 x24 z_Tile).E)), (iv ((rdD p0 x24 z_Tile).S)), (iv ((rdD p0 x24 z_Tile).W))] 40 (0, 0))] (hS302.map1 0 _ (fun h => rowO.ofBlk h rfl (Nat.le_of_ble_eq_true (by kernel_rfl))) (fun _ h => by obtain ⟨_, h1, h2⟩ := h; injection h1 with h1; subst h1; exact h2) [1, 2, 3, 4, 5] (by decide) (by decide))
       refine WL.new hS303 61 [] (fun g => (.slice (some ⟨g, 0, none⟩) 1 1)) (.cells #[(iv x24)] 3 (0, 0)) [] (fun fb g => by kernel_rfl) trivial (fun g304 w305 hS306 => ?_)
       refine ⟨⟨hS306.cell 4 rfl 0 rfl, hS306.cell 4 rfl 1 rfl, hS306.cell 6 rfl 2 rfl, hS306.cell 4 rfl 2 rfl, hS306.cell 6 rfl 0 rfl, trivial⟩, ?_⟩
       have hS307 := hS303.go w305 [rowO 3 encInt (some ⟨g304, 0, none⟩) 1 [x24], rowO 3 encInt (some ⟨g300, 0, none⟩) 0 ([] : List Int), rowO 88 encN_Row_ref02 A20 c21 (tag H23 l22), poolO [nestO subN_Row_ref02 H23 l22], blk g6 (.cells #[(sv Ac p2.Cells cc), (iv p2.South), (iv p2.North)] 88 (0, 0)), rowO 3 encInt Ac cc p2.Cells, blk g41 (.cells #[(iv ((rdD p0 x24 z_Tile).N)), (iv ((rdD p0 x24 z_Tile).E)), (iv ((rdD p0 x24 z_Tile).S)), (iv ((rdD p0 x24 z_Tile).W))] 40 (0, 0))] (hS306.map1 0 _ (fun h => rowO.ofBlk h rfl (Nat.le_of_ble_eq_true (by kernel_rfl))) (fun _ h => by obtain ⟨_, h1, h2⟩ := h; injection h1 with h1; subst h1; exact h2) [1, 2, 3, 4, 5, 6] (by decide) (by decide))
       obtain ⟨h308, hx65⟩ := as_some hx65
       refine WL.append hS307 1 (d := 59) (tS := 25) (z := (iv 0)) (bytes := 8) (c2 := cc) rfl (fun fb => by kernel_rfl) (rowO.rd (hS307.own 5).1) (by kernel_rfl) (by kernel_rfl) rfl (by decide) h308 (by decide) [0, 2, 3, 4, 5, 6] (by decide) (by decide) (fun A309 c310 w311 hS312 => ?_)
       refine ⟨⟨hS312.cell 4 rfl 1 rfl, hS312.cell 6 rfl 2 rfl, hS312.cell 4 rfl 2 rfl, hS312.cell 6 rfl 0 rfl, trivial⟩, ?_⟩
       obtain ⟨h313, hx65⟩ := as_some hx65
       refine WL.append hS312 0 (d := 62) (tS := 25) (z := (iv 0)) (bytes := 8) (c2 := 1) rfl (fun fb => by kernel_rfl) (rowO.rd (hS312.own 1).1) (by kernel_rfl) (by kernel_rfl) rfl (by decide) h313 (by decide) [1, 2, 3, 4, 5, 6] (by decide) (by decide) (fun A314 c315 w316 hS317 => ?_)
       refine ⟨⟨hS317.cell 4 rfl 1 rfl, hS317.cell 6 rfl 2 rfl, hS317.cell 4 rfl 2 rfl, hS317.cell 6 rfl 0 rfl, trivial⟩, ?_⟩
       refine WL.new hS317 15 [] (fun g => (pt g)) (.cells #[(.slice none 0 0), (iv 0), (iv 0)] 88 (0, 0)) [] (fun fb g => by kernel_rfl) trivial (fun g318 w319 hS320 => ?_)
       refine ⟨⟨hS320.cell 5 rfl 0 rfl, hS320.cell 5 rfl 1 rfl, hS320.cell 7 rfl 2 rfl, hS320.cell 5 rfl 2 rfl, hS320.cell 7 rfl 0 rfl, trivial⟩, ?_⟩
       obtain ⟨t321, ht322, hx65⟩ := bind_some hx65
       refine WL.call (some 69) 87 #[(sv Ab p1 cb), (iv ((rdD p0 x24 z_Tile).S))] (fun fb => by kernel_rfl) (ref02_at_calls _ p1 ((rdD p0 x24 z_Tile).S) Ab cb t321 _ (hS320.rd 1) ht322) (fun v w323 hR324 => ?_)
       obtain ⟨rfl, hk_⟩ := hR324
       have hS325 := hS320.keepN hk_
       refine ⟨⟨hS325.cell 5 rfl 1 rfl, hS325.cell 5 rfl 2 rfl, hS325.cell 7 rfl 0 rfl, trivial⟩, ?_⟩
       refine seg 23 [] [0, 1, 3, 4, 5, 8, 13, 15, 62, 71, 73, 74, 75, 77] [(0, (sv Aa p0 ca)), (1, (sv Ab p1 cb)), (3, (iv p3)), (4, (iv p4)), (5, (sv A20 l22 c21)), (8, (pt g6)), (13, (iv x24)), (15, (pt g318)), (62, (sv A314 ((([] : List Int) ++ p2.Cells) ++ [x24]) c315)), (71, (iv (w64 (p2.South + (w64 (p4 * t321)))))), (73, (iv p2.North)), (74, (iv p4)), (75, (sv Ab p1 cb)), (77, (iv ((rdD p0 x24 z_Tile).N)))] [] (fun fb => by kernel_rfl) rfl trivial ?_
       obtain ⟨t326, ht327, hx65⟩ := bind_some hx65
       refine WL.call (some 78) 87 #[(sv Ab p1 cb), (iv ((rdD p0 x24 z_Tile).N))] (fun fb => by kernel_rfl) (ref02_at_calls _ p1 ((rdD p0 x24 z_Tile).N) Ab cb t326 _ (hS325.rd 1) ht327) (fun v w328 hR329 => ?_)
       obtain ⟨rfl, hk_⟩ := hR329
       have hS330 := hS325.keepN hk_
       refine ⟨⟨hS330.cell 5 rfl 1 rfl, hS330.cell 5 rfl 2 rfl, trivial⟩, ?_⟩
       refine seg 27 [] [0, 1, 3, 4, 5, 8, 13, 15, 81] [(0, (sv Aa p0 ca)), (1, (sv Ab p1 cb)), (3, (iv p3)), (4, (iv p4)), (5, (sv A20 l22 c21)), (8, (pt g6)), (13, (iv x24)), (15, (pt g318)), (81, (.agg #[(sv A314 ((([] : List Int) ++ p2.Cells) ++ [x24]) c315), (iv (w64 (p2.South + (w64 (p4 * t321))))), (iv (w64 (p2.North + (w64 (p4 * t326)))))]))] [] (fun fb => by kernel_rfl) rfl trivial ?_
       refine WL.store hS330 0 rfl [(0, (sv A314 ((([] : List Int) ++ p2.Cells) ++ [x24]) c315)), (1, (iv (w64 (p2.South + (w64 (p4 * t321)))))), (2, (iv (w64 (p2.North + (w64 (p4 * t326))))))] #[(sv A314 ((([] : List Int) ++ p2.Cells) ++ [x24]) c315), (iv (w64 (p2.South + (w64 (p4 * t321))))), (iv (w64 (p2.North + (w64 (p4 * t326)))))] (fun fb => by kernel_rfl) (by kernel_rfl) rfl [1, 2, 3, 4, 5, 6, 7] (by decide) (by decide) (fun w331 hS332 => ?_)
       refine ⟨trivial, ?_⟩
       refine WL.done rfl ?_
       injection hx65 with hx65
       exact WX.to Kx63 (((([] : List Int) ++ p2.Cells) ++ [x24], w64 (p2.South + (w64 (p4 * t321))), w64 (p2.North + (w64 (p4 * t326)))), g318, A314, c315) [0, 1, 3, 4, 5, 8, 13, 15] rfl ⟨(hS332.subR [0, 1]).sub [3, 4, 5, 6, 0, 1] (by decide), hx65.symm⟩
      ·
       refine segF 15 [.v (sv Ac p2.Cells cc), .v (iv p2.South), .v (iv ((rdD p0 x24 z_Tile).S)), .v (iv p2.North), .v (iv ((rdD p0 x24 z_Tile).N))] [0, 1, 3, 4, 5, 8, 13, 58, 60, 64, 65, 66, 68, 73, 74, 75, 77] [(0, (sv Aa p0 ca)), (1, (sv Ab p1 cb)), (3, (iv p3)), (4, (iv p4)), (5, (sv A20 l22 c21)), (8, (pt g6)), (13, (iv x24)), (58, (sv Ac p2.Cells cc)), (60, (iv x24)), (64, (iv p2.South)), (65, (iv p4)), (66, (sv Ab p1 cb)), (68, (iv ((rdD p0 x24 z_Tile).S))), (73, (iv p2.North)), (74, (iv p4)), (75, (sv Ab p1 cb)), (77, (iv ((rdD p0 x24 z_Tile).N)))] [] [0, 1, 2, 3, 4] [(2, ⟨g6, 0, none⟩, (sv Ac p2.Cells cc)), (8, ⟨g6, 1, none⟩, (iv p2.South)), (12, ⟨g41, 2, none⟩, (iv ((rdD p0 x24 z_Tile).S))), (17, ⟨g6, 2, none⟩, (iv p2.North)), (21, ⟨g41, 0, none⟩, (iv ((rdD p0 x24 z_Tile).N)))] (fun fb => by kernel_rfl) rfl trivial rfl ?_
       refine WL.new hS67 56 [] (fun g => (.slice (some ⟨g, 0, none⟩) 0 0)) (.cells #[] 3 (0, 0)) [] (fun fb g => by kernel_rfl) trivial (fun g333 w334 hS335 => ?_)
       refine ⟨⟨hS335.cell 3 rfl 0 rfl, hS335.cell 3 rfl 1 rfl, hS335.cell 5 rfl 2 rfl, hS335.cell 3 rfl 2 rfl, hS335.cell 5 rfl 0 rfl, trivial⟩, ?_⟩
       have hS336 := hS.go w334 [rowO 3 encInt (some ⟨g333, 0, none⟩) 0 ([] : List Int), rowO 88 encN_Row_ref02 A20 c21 (tag H23 l22), poolO [nestO subN_Row_ref02 H23 l22], blk g6 (.cells #[(sv Ac p2.Cells cc), (iv p2.South), (iv p2.North)] 88 (0, 0)), rowO 3 encInt Ac cc p2.Cells, blk g41 (.cells #[(iv ((rdD p0 x24 z_Tile).N)), (iv ((rdD p0 x24 z_Tile).E)), (iv ((rdD p0 x24 z_Tile).S)), (iv ((rdD p0 x24 z_Tile).W))] 40 (0, 0))] (hS335.map1 0 _ (fun h => rowO.ofBlk h rfl (Nat.le_of_ble_eq_true (by kernel_rfl))) (fun _ h => by obtain ⟨_, h1, h2⟩ := h; injection h1 with h1; subst h1; exact h2) [1, 2, 3, 4, 5] (by decide) (by decide))
       refine WL.new hS336 61 [] (fun g => (.slice (some ⟨g, 0, none⟩) 1 1)) (.cells #[(iv x24)] 3 (0, 0)) [] (fun fb g => by kernel_rfl) trivial (fun g337 w338 hS339 => ?_)
       refine ⟨⟨hS339.cell 4 rfl 0 rfl, hS339.cell 4 rfl 1 rfl, hS339.cell 6 rfl 2 rfl, hS339.cell 4 rfl 2 rfl, hS339.cell 6 rfl 0 rfl, trivial⟩, ?_⟩
       have hS340 := hS336.go w338 [rowO 3 encInt (some ⟨g337, 0, none⟩) 1 [x24], rowO 3 encInt (some ⟨g333, 0, none⟩) 0 ([] : List Int), rowO 88 encN_Row_ref02 A20 c21 (tag H23 l22), poolO [nestO subN_Row_ref02 H23 l22], blk g6 (.cells #[(sv Ac p2.Cells cc), (iv p2.South), (iv p2.North)] 88 (0, 0)), rowO 3 encInt Ac cc p2.Cells, blk g41 (.cells #[(iv ((rdD p0 x24 z_Tile).N)), (iv ((rdD p0 x24 z_Tile).E)), (iv ((rdD p0 x24 z_Tile).S)), (iv ((rdD p0 x24 z_Tile).W))] 40 (0, 0))] (hS339.map1 0 _ (fun h => rowO.ofBlk h rfl (Nat.le_of_ble_eq_true (by kernel_rfl))) (fun _ h => by obtain ⟨_, h1, h2⟩ := h; injection h1 with h1; subst h1; exact h2) [1, 2, 3, 4, 5, 6] (by decide) (by decide))
       obtain ⟨h341, hx65⟩ := as_some hx65
       refine WL.append hS340 1 (d := 59) (tS := 25) (z := (iv 0)) (bytes := 8) (c2 := cc) rfl (fun fb => by kernel_rfl) (rowO.rd (hS340.own 5).1) (by kernel_rfl) (by kernel_rfl) rfl (by decide) h341 (by decide) [0, 2, 3, 4, 5, 6] (by decide) (by decide) (fun A342 c343 w344 hS345 => ?_)
       refine ⟨⟨hS345.cell 4 rfl 1 rfl, hS345.cell 6 rfl 2 rfl, hS345.cell 4 rfl 2 rfl, hS345.cell 6 rfl 0 rfl, trivial⟩, ?_⟩
       refine WL.new hS345 15 [] (fun g => (pt g)) (.cells #[(.slice none 0 0), (iv 0), (iv 0)] 88 (0, 0)) [] (fun fb g => by kernel_rfl) trivial (fun g346 w347 hS348 => ?_)
       refine ⟨⟨hS348.cell 5 rfl 0 rfl, hS348.cell 5 rfl 1 rfl, hS348.cell 7 rfl 2 rfl, hS348.cell 5 rfl 2 rfl, hS348.cell 7 rfl 0 rfl, trivial⟩, ?_⟩
       obtain ⟨h349, hx65⟩ := as_some hx65
       refine WL.append hS348 1 (d := 62) (tS := 25) (z := (iv 0)) (bytes := 8) (c2 := 1) rfl (fun fb => by kernel_rfl) (rowO.rd (hS348.own 2).1) (by kernel_rfl) (by kernel_rfl) rfl (by decide) h349 (by decide) [0, 2, 3, 4, 5, 6, 7] (by decide) (by decide) (fun A350 c351 w352 hS353 => ?_)
       refine ⟨⟨hS353.cell 5 rfl 1 rfl, hS353.cell 7 rfl 2 rfl, hS353.cell 5 rfl 2 rfl, hS353.cell 7 rfl 0 rfl, trivial⟩, ?_⟩
       obtain ⟨t354, ht355, hx65⟩ := bind_some hx65
       refine WL.call (some 69) 87 #[(sv Ab p1 cb), (iv ((rdD p0 x24 z_Tile).S))] (fun fb => by kernel_rfl) (ref02_at_calls _ p1 ((rdD p0 x24 z_Tile).S) Ab cb t354 _ (hS353.rd 1) ht355) (fun v w356 hR357 => ?_)
       obtain ⟨rfl, hk_⟩ := hR357
       have hS358 := hS353.keepN hk_
       refine ⟨⟨hS358.cell 5 rfl 1 rfl, hS358.cell 5 rfl 2 rfl, hS358.cell 7 rfl 0 rfl, trivial⟩, ?_⟩
       refine seg 23 [] [0, 1, 3, 4, 5, 8, 13, 15, 62, 71, 73, 74, 75, 77] [(0, (sv Aa p0 ca)), (1, (sv Ab p1 cb)), (3, (iv p3)), (4, (iv p4)), (5, (sv A20 l22 c21)), (8, (pt g6)), (13, (iv x24)), (15, (pt g346)), (62, (sv A350 ((([] : List Int) ++ p2.Cells) ++ [x24]) c351)), (71, (iv (w64 (p2.South + (w64 (p4 * t354)))))), (73, (iv p2.North)), (74, (iv p4)), (75, (sv Ab p1 cb)), (77, (iv ((rdD p0 x24 z_Tile).N)))] [] (fun fb => by kernel_rfl) rfl trivial ?_
       obtain ⟨t359, ht360, hx65⟩ := bind_some hx65
       refine WL.call (some 78) 87 #[(sv Ab p1 cb), (iv ((rdD p0 x24 z_Tile).N))] (fun fb => by kernel_rfl) (ref02_at_calls _ p1 ((rdD p0 x24 z_Tile).N) Ab cb t359 _ (hS358.rd 1) ht360) (fun v w361 hR362 => ?_)
       obtain ⟨rfl, hk_⟩ := hR362
       have hS363 := hS358.keepN hk_
       refine ⟨⟨hS363.cell 5 rfl 1 rfl, hS363.cell 5 rfl 2 rfl, trivial⟩, ?_⟩
       refine seg 27 [] [0, 1, 3, 4, 5, 8, 13, 15, 81] [(0, (sv Aa p0 ca)), (1, (sv Ab p1 cb)), (3, (iv p3)), (4, (iv p4)), (5, (sv A20 l22 c21)), (8, (pt g6)), (13, (iv x24)), (15, (pt g346)), (81, (.agg #[(sv A350 ((([] : List Int) ++ p2.Cells) ++ [x24]) c351), (iv (w64 (p2.South + (w64 (p4 * t354))))), (iv (w64 (p2.North + (w64 (p4 * t359)))))]))] [] (fun fb => by kernel_rfl) rfl trivial ?_
       refine WL.store hS363 1 rfl [(0, (sv A350 ((([] : List Int) ++ p2.Cells) ++ [x24]) c351)), (1, (iv (w64 (p2.South + (w64 (p4 * t354)))))), (2, (iv (w64 (p2.North + (w64 (p4 * t359))))))] #[(sv A350 ((([] : List Int) ++ p2.Cells) ++ [x24]) c351), (iv (w64 (p2.South + (w64 (p4 * t354))))), (iv (w64 (p2.North + (w64 (p4 * t359)))))] (fun fb => by kernel_rfl) (by kernel_rfl) rfl [0, 2, 3, 4, 5, 6, 7] (by decide) (by decide) (fun w364 hS365 => ?_)
       refine ⟨trivial, ?_⟩
       refine WL.done rfl ?_
       injection hx65 with hx65
       exact WX.to Kx63 (((([] : List Int) ++ p2.Cells) ++ [x24], w64 (p2.South + (w64 (p4 * t354))), w64 (p2.North + (w64 (p4 * t359)))), g346, A350, c351) [0, 1, 3, 4, 5, 8, 13, 15] rfl ⟨(hS365.subR [0, 1]).sub [3, 4, 5, 6, 0, 1] (by decide), hx65.symm⟩
      ·
       refine segF 15 [.v (sv Ac p2.Cells cc), .v (iv p2.South), .v (iv ((rdD p0 x24 z_Tile).S)), .v (iv p2.North), .v (iv ((rdD p0 x24 z_Tile).N))] [0, 1, 3, 4, 5, 8, 13, 58, 60, 64, 65, 66, 68, 73, 74, 75, 77] [(0, (sv Aa p0 ca)), (1, (sv Ab p1 cb)), (3, (iv p3)), (4, (iv p4)), (5, (sv A20 l22 c21)), (8, (pt g6)), (13, (iv x24)), (58, (sv Ac p2.Cells cc)), (60, (iv x24)), (64, (iv p2.South)), (65, (iv p4)), (66, (sv Ab p1 cb)), (68, (iv ((rdD p0 x24 z_Tile).S))), (73, (iv p2.North)), (74, (iv p4)), (75, (sv Ab p1 cb)), (77, (iv ((rdD p0 x24 z_Tile).N)))] [] [0, 1, 2, 3, 4] [(2, ⟨g6, 0, none⟩, (sv Ac p2.Cells cc)), (8, ⟨g6, 1, none⟩, (iv p2.South)), (12, ⟨g41, 2, none⟩, (iv ((rdD p0 x24 z_Tile).S))), (17, ⟨g6, 2, none⟩, (iv p2.North)), (21, ⟨g41, 0, none⟩, (iv ((rdD p0 x24 z_Tile).N)))] (fun fb => by kernel_rfl) rfl trivial rfl ?_
       refine WL.new hS67 56 [] (fun g => (.slice (some ⟨g, 0, none⟩) 0 0)) (.cells #[] 3 (0, 0)) [] (fun fb g => by kernel_rfl) trivial (fun g366 w367 hS368 => ?_)
       refine ⟨⟨hS368.cell 3 rfl 0 rfl, hS368.cell 3 rfl 1 rfl, hS368.cell 5 rfl 2 rfl, hS368.cell 3 rfl 2 rfl, hS368.cell 5 rfl 0 rfl, trivial⟩, ?_⟩
       have hS369 := hS.go w367 [rowO 3 encInt (some ⟨g366, 0, none⟩) 0 ([] : List Int), rowO 88 encN_Row_ref02 A20 c21 (tag H23 l22), poolO [nestO subN_Row_ref02 H23 l22], blk g6 (.cells #[(sv Ac p2.Cells cc), (iv p2.South), (iv p2.North)] 88 (0, 0)), rowO 3 encInt Ac cc p2.Cells, blk g41 (.cells #[(iv ((rdD p0 x24 z_Tile).N)), (iv ((rdD p0 x24 z_Tile).E)), (iv ((rdD p0 x24 z_Tile).S)), (iv ((rdD p0 x24 z_Tile).W))] 40 (0, 0))] (hS368.map1 0 _ (fun h => rowO.ofBlk h rfl (Nat.le_of_ble_eq_true (by kernel_rfl))) (fun _ h => by obtain ⟨_, h1, h2⟩ := h; injection h1 with h1; subst h1; exact h2) [1, 2, 3, 4, 5] (by decide) (by decide))
       refine WL.new hS369 61 [] (fun g => (.slice (some ⟨g, 0, none⟩) 1 1)) (.cells #[(iv x24)] 3 (0, 0)) [] (fun fb g => by kernel_rfl) trivial (fun g370 w371 hS372 => ?_)
       refine ⟨⟨hS372.cell 4 rfl 0 rfl, hS372.cell 4 rfl 1 rfl, hS372.cell 6 rfl 2 rfl, hS372.cell 4 rfl 2 rfl, hS372.cell 6 rfl 0 rfl, trivial⟩, ?_⟩
       have hS373 := hS369.go w371 [rowO 3 encInt (some ⟨g370, 0, none⟩) 1 [x24], rowO 3 encInt (some ⟨g366, 0, none⟩) 0 ([] : List Int), rowO 88 encN_Row_ref02 A20 c21 (tag H23 l22), poolO [nestO subN_Row_ref02 H23 l22], blk g6 (.cells #[(sv Ac p2.Cells cc), (iv p2.South), (iv p2.North)] 88 (0, 0)), rowO 3 encInt Ac cc p2.Cells, blk g41 (.cells #[(iv ((rdD p0 x24 z_Tile).N)), (iv ((rdD p0 x24 z_Tile).E)), (iv ((rdD p0 x24 z_Tile).S)), (iv ((rdD p0 x24 z_Tile).W))] 40 (0, 0))] (hS372.map1 0 _ (fun h => rowO.ofBlk h rfl (Nat.le_of_ble_eq_true (by kernel_rfl))) (fun _ h => by obtain ⟨_, h1, h2⟩ := h; injection h1 with h1; subst h1; exact h2) [1, 2, 3, 4, 5, 6] (by decide) (by decide))
       refine WL.new hS373 15 [] (fun g => (pt g)) (.cells #[(.slice none 0 0), (iv 0), (iv 0)] 88 (0, 0)) [] (fun fb g => by kernel_rfl) trivial (fun g374 w375 hS376 => ?_)
       refine ⟨⟨hS376.cell 5 rfl 0 rfl, hS376.cell 5 rfl 1 rfl, hS376.cell 7 rfl 2 rfl, hS376.cell 5 rfl 2 rfl, hS376.cell 7 rfl 0 rfl, trivial⟩, ?_⟩
       obtain ⟨h377, hx65⟩ := as_some hx65
       refine WL.append hS376 2 (d := 59) (tS := 25) (z := (iv 0)) (bytes := 8) (c2 := cc) rfl (fun fb => by kernel_rfl) (rowO.rd (hS376.own 6).1) (by kernel_rfl) (by kernel_rfl) rfl (by decide) h377 (by decide) [0, 1, 3, 4, 5, 6, 7] (by decide) (by decide) (fun A378 c379 w380 hS381 => ?_)
       refine ⟨⟨hS381.cell 5 rfl 1 rfl, hS381.cell 7 rfl 2 rfl, hS381.cell 5 rfl 2 rfl, hS381.cell 7 rfl 0 rfl, trivial⟩, ?_⟩
       obtain ⟨h382, hx65⟩ := as_some hx65
       refine WL.append hS381 0 (d := 62) (tS := 25) (z := (iv 0)) (bytes := 8) (c2 := 1) rfl (fun fb => by kernel_rfl) (rowO.rd (hS381.own 2).1) (by kernel_rfl) (by kernel_rfl) rfl (by decide) h382 (by decide) [1, 2, 3, 4, 5, 6, 7] (by decide) (by decide) (fun A383 c384 w385 hS386 => ?_)
       refine ⟨⟨hS386.cell 5 rfl 1 rfl, hS386.cell 7 rfl 2 rfl, hS386.cell 5 rfl 2 rfl, hS386.cell 7 rfl 0 rfl, trivial⟩, ?_⟩
       obtain ⟨t387, ht388, hx65⟩ := bind_some hx65
       refine WL.call (some 69) 87 #[(sv Ab p1 cb), (iv ((rdD p0 x24 z_Tile).S))] (fun fb => by kernel_rfl) (ref02_at_calls _ p1 ((rdD p0 x24 z_Tile).S) Ab cb t387 _ (hS386.rd 1) ht388) (fun v w389 hR390 => ?_)
       obtain ⟨rfl, hk_⟩ := hR390
       have hS391 := hS386.keepN hk_
       refine ⟨⟨hS391.cell 5 rfl 1 rfl, hS391.cell 5 rfl 2 rfl, hS391.cell 7 rfl 0 rfl, trivial⟩, ?_⟩
       refine seg 23 [] [0, 1, 3, 4, 5, 8, 13, 15, 62, 71, 73, 74, 75, 77] [(0, (sv Aa p0 ca)), (1, (sv Ab p1 cb)), (3, (iv p3)), (4, (iv p4)), (5, (sv A20 l22 c21)), (8, (pt g6)), (13, (iv x24)), (15, (pt g374)), (62, (sv A383 ((([] : List Int) ++ p2.Cells) ++ [x24]) c384)), (71, (iv (w64 (p2.South + (w64 (p4 * t387)))))), (73, (iv p2.North)), (74, (iv p4)), (75, (sv Ab p1 cb)), (77, (iv ((rdD p0 x24 z_Tile).N)))] [] (fun fb => by kernel_rfl) rfl trivial ?_
       obtain ⟨t392, ht393, hx65⟩ := bind_some hx65
       refine WL.call (some 78) 87 #[(sv Ab p1 cb), (iv ((rdD p0 x24 z_Tile).N))] (fun fb => by kernel_rfl) (ref02_at_calls _ p1 ((rdD p0 x24 z_Tile).N) Ab cb t392 _ (hS391.rd 1) ht393) (fun v w394 hR395 => ?_)
       obtain ⟨rfl, hk_⟩ := hR395
       have hS396 := hS391.keepN hk_
       refine ⟨⟨hS396.cell 5 rfl 1 rfl, hS396.cell 5 rfl 2 rfl, trivial⟩, ?_⟩
       refine seg 27 [] [0, 1, 3, 4, 5, 8, 13, 15, 81] [(0, (sv Aa p0 ca)), (1, (sv Ab p1 cb)), (3, (iv p3)), (4, (iv p4)), (5, (sv A20 l22 c21)), (8, (pt g6)), (13, (iv x24)), (15, (pt g374)), (81, (.agg #[(sv A383 ((([] : List Int) ++ p2.Cells) ++ [x24]) c384), (iv (w64 (p2.South + (w64 (p4 * t387))))), (iv (w64 (p2.North + (w64 (p4 * t392)))))]))] [] (fun fb => by kernel_rfl) rfl trivial ?_
       refine WL.store hS396 1 rfl [(0, (sv A383 ((([] : List Int) ++ p2.Cells) ++ [x24]) c384)), (1, (iv (w64 (p2.South + (w64 (p4 * t387)))))), (2, (iv (w64 (p2.North + (w64 (p4 * t392))))))] #[(sv A383 ((([] : List Int) ++ p2.Cells) ++ [x24]) c384), (iv (w64 (p2.South + (w64 (p4 * t387))))), (iv (w64 (p2.North + (w64 (p4 * t392)))))] (fun fb => by kernel_rfl) (by kernel_rfl) rfl [0, 2, 3, 4, 5, 6, 7] (by decide) (by decide) (fun w397 hS398 => ?_)
       refine ⟨trivial, ?_⟩
       refine WL.done rfl ?_
       injection hx65 with hx65
       exact WX.to Kx63 (((([] : List Int) ++ p2.Cells) ++ [x24], w64 (p2.South + (w64 (p4 * t387))), w64 (p2.North + (w64 (p4 * t392)))), g374, A383, c384) [0, 1, 3, 4, 5, 8, 13, 15] rfl ⟨(hS398.subR [0, 1]).sub [3, 4, 5, 6, 0, 1] (by decide), hx65.symm⟩
      ·
       refine segF 15 [.v (sv Ac p2.Cells cc), .v (iv p2.South), .v (iv ((rdD p0 x24 z_Tile).S)), .v (iv p2.North), .v (iv ((rdD p0 x24 z_Tile).N))] [0, 1, 3, 4, 5, 8, 13, 58, 60, 64, 65, 66, 68, 73, 74, 75, 77] [(0, (sv Aa p0 ca)), (1, (sv Ab p1 cb)), (3, (iv p3)), (4, (iv p4)), (5, (sv A20 l22 c21)), (8, (pt g6)), (13, (iv x24)), (58, (sv Ac p2.Cells cc)), (60, (iv x24)), (64, (iv p2.South)), (65, (iv p4)), (66, (sv Ab p1 cb)), (68, (iv ((rdD p0 x24 z_Tile).S))), (73, (iv p2.North)), (74, (iv p4)), (75, (sv Ab p1 cb)), (77, (iv ((rdD p0 x24 z_Tile).N)))] [] [0, 1, 2, 3, 4] [(2, ⟨g6, 0, none⟩, (sv Ac p2.Cells cc)), (8, ⟨g6, 1, none⟩, (iv p2.South)), (12, ⟨g41, 2, none⟩, (iv ((rdD p0 x24 z_Tile).S))), (17, ⟨g6, 2, none⟩, (iv p2.North)), (21, ⟨g41, 0, none⟩, (iv ((rdD p0 x24 z_Tile).N)))] (fun fb => by kernel_rfl) rfl trivial rfl ?_
       refine WL.new hS67 56 [] (fun g => (.slice (some ⟨g, 0, none⟩) 0 0)) (.cells #[] 3 (0, 0)) [] (fun fb g => by kernel_rfl) trivial (fun g399 w400 hS401 => ?_)
       refine ⟨⟨hS401.cell 3 rfl 0 rfl, hS401.cell 3 rfl 1 rfl, hS401.cell 5 rfl 2 rfl, hS401.cell 3 rfl 2 rfl, hS401.cell 5 rfl 0 rfl, trivial⟩, ?_⟩
       have hS402 := hS.go w400 [rowO 3 encInt (some ⟨g399, 0, none⟩) 0 ([] : List Int), rowO 88 encN_Row_ref02 A20 c21 (tag H23 l22), poolO [nestO subN_Row_ref02 H23 l22], blk g6 (.cells #[(sv Ac p2.Cells cc), (iv p2.South), (iv p2.North)] 88 (0, 0)), rowO 3 encInt Ac cc p2.Cells, blk g41 (.cells #[(iv ((rdD p0 x24 z_Tile).N)), (iv ((rdD p0 x24 z_Tile).E)), (iv ((rdD p0 x24 z_Tile).S)), (iv ((rdD p0 x24 z_Tile).W))] 40 (0, 0))] (hS401.map1 0 _ (fun h => rowO.ofBlk h rfl (Nat.le_of_ble_eq_true (by kernel_rfl))) (fun _ h => by obtain ⟨_, h1, h2⟩ := h; injection h1 with h1; subst h1; exact h2) [1, 2, 3, 4, 5] (by decide) (by decide))
       refine WL.new hS402 15 [] (fun g => (pt g)) (.cells #[(.slice none 0 0), (iv 0), (iv 0)] 88 (0, 0)) [] (fun fb g => by kernel_rfl) trivial (fun g403 w404 hS405 => ?_)
       refine ⟨⟨hS405.cell 4 rfl 0 rfl, hS405.cell 4 rfl 1 rfl, hS405.cell 6 rfl 2 rfl, hS405.cell 4 rfl 2 rfl, hS405.cell 6 rfl 0 rfl, trivial⟩, ?_⟩
       obtain ⟨h406, hx65⟩ := as_some hx65
       refine WL.append hS405 1 (d := 59) (tS := 25) (z := (iv 0)) (bytes := 8) (c2 := cc) rfl (fun fb => by kernel_rfl) (rowO.rd (hS405.own 5).1) (by kernel_rfl) (by kernel_rfl) rfl (by decide) h406 (by decide) [0, 2, 3, 4, 5, 6] (by decide) (by decide) (fun A407 c408 w409 hS410 => ?_)
       refine ⟨⟨hS410.cell 4 rfl 1 rfl, hS410.cell 6 rfl 2 rfl, hS410.cell 4 rfl 2 rfl, hS410.cell 6 rfl 0 rfl, trivial⟩, ?_⟩
       refine WL.new hS410 61 [] (fun g => (.slice (some ⟨g, 0, none⟩) 1 1)) (.cells #[(iv x24)] 3 (0, 0)) [] (fun fb g => by kernel_rfl) trivial (fun g411 w412 hS413 => ?_)
       refine ⟨⟨hS413.cell 5 rfl 0 rfl, hS413.cell 5 rfl 1 rfl, hS413.cell 7 rfl 2 rfl, hS413.cell 5 rfl 2 rfl, hS413.cell 7 rfl 0 rfl, trivial⟩, ?_⟩
       have hS414 := hS402.go w412 [rowO 3 encInt (some ⟨g411, 0, none⟩) 1 [x24], rowO 3 encInt A407 c408 (([] : List Int) ++ p2.Cells), blk g403 (.cells #[(.slice none 0 0), (iv 0), (iv 0)] 88 (0, 0)), rowO 88 encN_Row_ref02 A20 c21 (tag H23 l22), poolO [nestO subN_Row_ref02 H23 l22], blk g6 (.cells #[(sv Ac p2.Cells cc), (iv p2.South), (iv p2.North)] 88 (0, 0)), rowO 3 encInt Ac cc p2.Cells, blk g41 (.cells #[(iv ((rdD p0 x24 z_Tile).N)), (iv ((rdD p0 x24 z_Tile).E)), (iv ((rdD p0 x24 z_Tile).S)), (iv ((rdD p0 x24 z_Tile).W))] 40 (0, 0))] (hS413.map1 0 _ (fun h => rowO.ofBlk h rfl (Nat.le_of_ble_eq_true (by kernel_rfl))) (fun _ h => by obtain ⟨_, h1, h2⟩ := h; injection h1 with h1; subst h1; exact h2) [1, 2, 3, 4, 5, 6, 7] (by decide) (by decide))
       obtain ⟨h415, hx65⟩ := as_some hx65
       refine WL.append hS414 1 (d := 62) (tS := 25) (z := (iv 0)) (bytes := 8) (c2 := 1) rfl (fun fb => by kernel_rfl) (rowO.rd (hS414.own 0).1) (by kernel_rfl) (by kernel_rfl) rfl (by decide) h415 (by decide) [0, 2, 3, 4, 5, 6, 7] (by decide) (by decide) (fun A416 c417 w418 hS419 => ?_)
       refine ⟨⟨hS419.cell 5 rfl 1 rfl, hS419.cell 7 rfl 2 rfl, hS419.cell 5 rfl 2 rfl, hS419.cell 7 rfl 0 rfl, trivial⟩, ?_⟩
       obtain ⟨t420, ht421, hx65⟩ := bind_some hx65
       refine WL.call (some 69) 87 #[(sv Ab p1 cb), (iv ((rdD p0 x24 z_Tile).S))] (fun fb => by kernel_rfl) (ref02_at_calls _ p1 ((rdD p0 x24 z_Tile).S) Ab cb t420 _ (hS419.rd 1) ht421) (fun v w422 hR423 => ?_)
       obtain ⟨rfl, hk_⟩ := hR423
       have hS424 := hS419.keepN hk_
       refine ⟨⟨hS424.cell 5 rfl 1 rfl, hS424.cell 5 rfl 2 rfl, hS424.cell 7 rfl 0 rfl, trivial⟩, ?_⟩
       refine seg 23 [] [0, 1, 3, 4, 5, 8, 13, 15, 62, 71, 73, 74, 75, 77] [(0, (sv Aa p0 ca)), (1, (sv Ab p1 cb)), (3, (iv p3)), (4, (iv p4)), (5, (sv A20 l22 c21)), (8, (pt g6)), (13, (iv x24)), (15, (pt g403)), (62, (sv A416 ((([] : List Int) ++ p2.Cells) ++ [x24]) c417)), (71, (iv (w64 (p2.South + (w64 (p4 * t420)))))), (73, (iv p2.North)), (74, (iv p4)), (75, (sv Ab p1 cb)), (77, (iv ((rdD p0 x24 z_Tile).N)))] [] (fun fb => by kernel_rfl) rfl trivial ?_
       obtain ⟨t425, ht426, hx65⟩ := bind_some hx65
       refine WL.call (some 78) 87 #[(sv Ab p1 cb), (iv ((rdD p0 x24 z_Tile).N))] (fun fb => by kernel_rfl) (ref02_at_calls _ p1 ((rdD p0 x24 z_Tile).N) Ab cb t425 _ (hS424.rd 1) ht426) (fun v w427 hR428 => ?_)
       obtain ⟨rfl, hk_⟩ := hR428
       have hS429 := hS424.keepN hk_
       refine ⟨⟨hS429.cell 5 rfl 1 rfl, hS429.cell 5 rfl 2 rfl, trivial⟩, ?_⟩
       refine seg 27 [] [0, 1, 3, 4, 5, 8, 13, 15, 81] [(0, (sv Aa p0 ca)), (1, (sv Ab p1 cb)), (3, (iv p3)), (4, (iv p4)), (5, (sv A20 l22 c21)), (8, (pt g6)), (13, (iv x24)), (15, (pt g403)), (81, (.agg #[(sv A416 ((([] : List Int) ++ p2.Cells) ++ [x24]) c417), (iv (w64 (p2.South + (w64 (p4 * t420))))), (iv (w64 (p2.North + (w64 (p4 * t425)))))]))] [] (fun fb => by kernel_rfl) rfl trivial ?_
       refine WL.store hS429 2 rfl [(0, (sv A416 ((([] : List Int) ++ p2.Cells) ++ [x24]) c417)), (1, (iv (w64 (p2.South + (w64 (p4 * t420)))))), (2, (iv (w64 (p2.North + (w64 (p4 * t425))))))] #[(sv A416 ((([] : List Int) ++ p2.Cells) ++ [x24]) c417), (iv (w64 (p2.South + (w64 (p4 * t420))))), (iv (w64 (p2.North + (w64 (p4 * t425)))))] (fun fb => by kernel_rfl) (by kernel_rfl) rfl [0, 1, 3, 4, 5, 6, 7] (by decide) (by decide) (fun w430 hS431 => ?_)
       refine ⟨trivial, ?_⟩
       refine WL.done rfl ?_
       injection hx65 with hx65
       exact WX.to Kx63 (((([] : List Int) ++ p2.Cells) ++ [x24], w64 (p2.South + (w64 (p4 * t420))), w64 (p2.North + (w64 (p4 * t425)))), g403, A416, c417) [0, 1, 3, 4, 5, 8, 13, 15] rfl ⟨(hS431.subR [0, 1]).sub [3, 4, 5, 6, 0, 1] (by decide), hx65.symm⟩
      ·
       refine segF 15 [.v (sv Ac p2.Cells cc), .v (iv p2.South), .v (iv ((rdD p0 x24 z_Tile).S)), .v (iv p2.North), .v (iv ((rdD p0 x24 z_Tile).N))] [0, 1, 3, 4, 5, 8, 13, 58, 60, 64, 65, 66, 68, 73, 74, 75, 77] [(0, (sv Aa p0 ca)), (1, (sv Ab p1 cb)), (3, (iv p3)), (4, (iv p4)), (5, (sv A20 l22 c21)), (8, (pt g6)), (13, (iv x24)), (58, (sv Ac p2.Cells cc)), (60, (iv x24)), (64, (iv p2.South)), (65, (iv p4)), (66, (sv Ab p1 cb)), (68, (iv ((rdD p0 x24 z_Tile).S))), (73, (iv p2.North)), (74, (iv p4)), (75, (sv Ab p1 cb)), (77, (iv ((rdD p0 x24 z_Tile).N)))] [] [0, 1, 2, 3, 4] [(2, ⟨g6, 0, none⟩, (sv Ac p2.Cells cc)), (8, ⟨g6, 1, none⟩, (iv p2.South)), (12, ⟨g41, 2, none⟩, (iv ((rdD p0 x24 z_Tile).S))), (17, ⟨g6, 2, none⟩, (iv p2.North)), (21, ⟨g41, 0, none⟩, (iv ((rdD p0 x24 z_Tile).N)))] (fun fb => by kernel_rfl) rfl trivial rfl ?_
       refine WL.new hS67 56 [] (fun g => (.slice (some ⟨g, 0, none⟩) 0 0)) (.cells #[] 3 (0, 0)) [] (fun fb g => by kernel_rfl) trivial (fun g432 w433 hS434 => ?_)
       refine ⟨⟨hS434.cell 3 rfl 0 rfl, hS434.cell 3 rfl 1 rfl, hS434.cell 5 rfl 2 rfl, hS434.cell 3 rfl 2 rfl, hS434.cell 5 rfl 0 rfl, trivial⟩, ?_⟩
       have hS435 := hS.go w433 [rowO 3 encInt (some ⟨g432, 0, none⟩) 0 ([] : List Int), rowO 88 encN_Row_ref02 A20 c21 (tag H23 l22), poolO [nestO subN_Row_ref02 H23 l22], blk g6 (.cells #[(sv Ac p2.Cells cc), (iv p2.South), (iv p2.North)] 88 (0, 0)), rowO 3 encInt Ac cc p2.Cells, blk g41 (.cells #[(iv ((rdD p0 x24 z_Tile).N)), (iv ((rdD p0 x24 z_Tile).E)), (iv ((rdD p0 x24 z_Tile).S)), (iv ((rdD p0 x24 z_Tile).W))] 40 (0, 0))] (hS434.map1 0 _ (fun h => rowO.ofBlk h rfl (Nat.le_of_ble_eq_true (by kernel_rfl))) (fun _ h => by obtain ⟨_, h1, h2⟩ := h; injection h1 with h1; subst h1; exact h2) [1, 2, 3, 4, 5] (by decide) (by decide))
       refine WL.new hS435 15 [] (fun g => (pt g)) (.cells #[(.slice none 0 0), (iv 0), (iv 0)] 88 (0, 0)) [] (fun fb g => by kernel_rfl) trivial (fun g436 w437 hS438 => ?_)
       refine ⟨⟨hS438.cell 4 rfl 0 rfl, hS438.cell 4 rfl 1 rfl, hS438.cell 6 rfl 2 rfl, hS438.cell 4 rfl 2 rfl, hS438.cell 6 rfl 0 rfl, trivial⟩, ?_⟩
       refine WL.new hS438 61 [] (fun g => (.slice (some ⟨g, 0, none⟩) 1 1)) (.cells #[(iv x24)] 3 (0, 0)) [] (fun fb g => by kernel_rfl) trivial (fun g439 w440 hS441 => ?_)
       refine ⟨⟨hS441.cell 5 rfl 0 rfl, hS441.cell 5 rfl 1 rfl, hS441.cell 7 rfl 2 rfl, hS441.cell 5 rfl 2 rfl, hS441.cell 7 rfl 0 rfl, trivial⟩, ?_⟩
       have hS442 := hS435.go w440 [rowO 3 encInt (some ⟨g439, 0, none⟩) 1 [x24], blk g436 (.cells #[(.slice none 0 0), (iv 0), (iv 0)] 88 (0, 0)), rowO 3 encInt (some ⟨g432, 0, none⟩) 0 ([] : List Int), rowO 88 encN_Row_ref02 A20 c21 (tag H23 l22), poolO [nestO subN_Row_ref02 H23 l22], blk g6 (.cells #[(sv Ac p2.Cells cc), (iv p2.South), (iv p2.North)] 88 (0, 0)), rowO 3 encInt Ac cc p2.Cells, blk g41 (.cells #[(iv ((rdD p0 x24 z_Tile).N)), (iv ((rdD p0 x24 z_Tile).E)), (iv ((rdD p0 x24 z_Tile).S)), (iv ((rdD p0 x24 z_Tile).W))] 40 (0, 0))] (hS441.map1 0 _ (fun h => rowO.ofBlk h rfl (Nat.le_of_ble_eq_true (by kernel_rfl))) (fun _ h => by obtain ⟨_, h1, h2⟩ := h; injection h1 with h1; subst h1; exact h2) [1, 2, 3, 4, 5, 6, 7] (by decide) (by decide))
       obtain ⟨h443, hx65⟩ := as_some hx65
       refine WL.append hS442 2 (d := 59) (tS := 25) (z := (iv 0)) (bytes := 8) (c2 := cc) rfl (fun fb => by kernel_rfl) (rowO.rd (hS442.own 6).1) (by kernel_rfl) (by kernel_rfl) rfl (by decide) h443 (by decide) [0, 1, 3, 4, 5, 6, 7] (by decide) (by decide) (fun A444 c445 w446 hS447 => ?_)
       refine ⟨⟨hS447.cell 5 rfl 1 rfl, hS447.cell 7 rfl 2 rfl, hS447.cell 5 rfl 2 rfl, hS447.cell 7 rfl 0 rfl, trivial⟩, ?_⟩
       obtain ⟨h448, hx65⟩ := as_some hx65
       refine WL.append hS447 0 (d := 62) (tS := 25) (z := (iv 0)) (bytes := 8) (c2 := 1) rfl (fun fb => by kernel_rfl) (rowO.rd (hS447.own 1).1) (by kernel_rfl) (by kernel_rfl) rfl (by decide) h448 (by decide) [1, 2, 3, 4, 5, 6, 7] (by decide) (by decide) (fun A449 c450 w451 hS452 => ?_)
       refine ⟨⟨hS452.cell 5 rfl 1 rfl, hS452.cell 7 rfl 2 rfl, hS452.cell 5 rfl 2 rfl, hS452.cell 7 rfl 0 rfl, trivial⟩, ?_⟩
       obtain ⟨t453, ht454, hx65⟩ := bind_some hx65
       refine WL.call (some 69) 87 #[(sv Ab p1 cb), (iv ((rdD p0 x24 z_Tile).S))] (fun fb => by kernel_rfl) (ref02_at_calls _ p1 ((rdD p0 x24 z_Tile).S) Ab cb t453 _ (hS452.rd 1) ht454) (fun v w455 hR456 => ?_)
       obtain ⟨rfl, hk_⟩ := hR456
       have hS457 := hS452.keepN hk_
       refine ⟨⟨hS457.cell 5 rfl 1 rfl, hS457.cell 5 rfl 2 rfl, hS457.cell 7 rfl 0 rfl, trivial⟩, ?_⟩
       refine seg 23 [] [0, 1, 3, 4, 5, 8, 13, 15, 62, 71, 73, 74, 75, 77] [(0, (sv Aa p0 ca)), (1, (sv Ab p1 cb)), (3, (iv p3)), (4, (iv p4)), (5, (sv A20 l22 c21)), (8, (pt g6)), (13, (iv x24)), (15, (pt g436)), (62, (sv A449 ((([] : List Int) ++ p2.Cells) ++ [x24]) c450)), (71, (iv (w64 (p2.South + (w64 (p4 * t453)))))), (73, (iv p2.North)), (74, (iv p4)), (75, (sv Ab p1 cb)), (77, (iv ((rdD p0 x24 z_Tile).N)))] [] (fun fb => by kernel_rfl) rfl trivial ?_
       obtain ⟨t458, ht459, hx65⟩ := bind_some hx65
       refine WL.call (some 78) 87 #[(sv Ab p1 cb), (iv ((rdD p0 x24 z_Tile).N))] (fun fb => by kernel_rfl) (ref02_at_calls _ p1 ((rdD p0 x24 z_Tile).N) Ab cb t458 _ (hS457.rd 1) ht459) (fun v w460 hR461 => ?_)
       obtain ⟨rfl, hk_⟩ := hR461
       have hS462 := hS457.keepN hk_
       refine ⟨⟨hS462.cell 5 rfl 1 rfl, hS462.cell 5 rfl 2 rfl, trivial⟩, ?_⟩
       refine seg 27 [] [0, 1, 3, 4, 5, 8, 13, 15, 81] [(0, (sv Aa p0 ca)), (1, (sv Ab p1 cb)), (3, (iv p3)), (4, (iv p4)), (5, (sv A20 l22 c21)), (8, (pt g6)), (13, (iv x24)), (15, (pt g436)), (81, (.agg #[(sv A449 ((([] : List Int) ++ p2.Cells) ++ [x24]) c450), (iv (w64 (p2.South + (w64 (p4 * t453))))), (iv (w64 (p2.North + (w64 (p4 * t458)))))]))] [] (fun fb => by kernel_rfl) rfl trivial ?_
       refine WL.store hS462 2 rfl [(0, (sv A449 ((([] : List Int) ++ p2.Cells) ++ [x24]) c450)), (1, (iv (w64 (p2.South + (w64 (p4 * t453)))))), (2, (iv (w64 (p2.North + (w64 (p4 * t458))))))] #[(sv A449 ((([] : List Int) ++ p2.Cells) ++ [x24]) c450), (iv (w64 (p2.South + (w64 (p4 * t453))))), (iv (w64 (p2.North + (w64 (p4 * t458)))))] (fun fb => by kernel_rfl) (by kernel_rfl) rfl [0, 1, 3, 4, 5, 6, 7] (by decide) (by decide) (fun w463 hS464 => ?_)
       refine ⟨trivial, ?_⟩
       refine WL.done rfl ?_
       injection hx65 with hx65
       exact WX.to Kx63 (((([] : List Int) ++ p2.Cells) ++ [x24], w64 (p2.South + (w64 (p4 * t453))), w64 (p2.North + (w64 (p4 * t458)))), g436, A449, c450) [0, 1, 3, 4, 5, 8, 13, 15] rfl ⟨(hS464.subR [0, 1]).sub [3, 4, 5, 6, 0, 1] (by decide), hx65.symm⟩
      ·
       refine segF 15 [.v (sv Ac p2.Cells cc), .v (iv p2.South), .v (iv ((rdD p0 x24 z_Tile).S)), .v (iv p2.North), .v (iv ((rdD p0 x24 z_Tile).N))] [0, 1, 3, 4, 5, 8, 13, 58, 60, 64, 65, 66, 68, 73, 74, 75, 77] [(0, (sv Aa p0 ca)), (1, (sv Ab p1 cb)), (3, (iv p3)), (4, (iv p4)), (5, (sv A20 l22 c21)), (8, (pt g6)), (13, (iv x24)), (58, (sv Ac p2.Cells cc)), (60, (iv x24)), (64, (iv p2.South)), (65, (iv p4)), (66, (sv Ab p1 cb)), (68, (iv ((rdD p0 x24 z_Tile).S))), (73, (iv p2.North)), (74, (iv p4)), (75, (sv Ab p1 cb)), (77, (iv ((rdD p0 x24 z_Tile).N)))] [] [0, 1, 2, 3, 4] [(2, ⟨g6, 0, none⟩, (sv Ac p2.Cells cc)), (8, ⟨g6, 1, none⟩, (iv p2.South)), (12, ⟨g41, 2, none⟩, (iv ((rdD p0 x24 z_Tile).S))), (17, ⟨g6, 2, none⟩, (iv p2.North)), (21, ⟨g41, 0, none⟩, (iv ((rdD p0 x24 z_Tile).N)))] (fun fb => by kernel_rfl) rfl trivial rfl ?_
       refine WL.new hS67 61 [] (fun g => (.slice (some ⟨g, 0, none⟩) 1 1)) (.cells #[(iv x24)] 3 (0, 0)) [] (fun fb g => by kernel_rfl) trivial (fun g465 w466 hS467 => ?_)
       refine ⟨⟨hS467.cell 3 rfl 0 rfl, hS467.cell 3 rfl 1 rfl, hS467.cell 5 rfl 2 rfl, hS467.cell 3 rfl 2 rfl, hS467.cell 5 rfl 0 rfl, trivial⟩, ?_⟩
       have hS468 := hS.go w466 [rowO 3 encInt (some ⟨g465, 0, none⟩) 1 [x24], rowO 88 encN_Row_ref02 A20 c21 (tag H23 l22), poolO [nestO subN_Row_ref02 H23 l22], blk g6 (.cells #[(sv Ac p2.Cells cc), (iv p2.South), (iv p2.North)] 88 (0, 0)), rowO 3 encInt Ac cc p2.Cells, blk g41 (.cells #[(iv ((rdD p0 x24 z_Tile).N)), (iv ((rdD p0 x24 z_Tile).E)), (iv ((rdD p0 x24 z_Tile).S)), (iv ((rdD p0 x24 z_Tile).W))] 40 (0, 0))] (hS467.map1 0 _ (fun h => rowO.ofBlk h rfl (Nat.le_of_ble_eq_true (by kernel_rfl))) (fun _ h => by obtain ⟨_, h1, h2⟩ := h; injection h1 with h1; subst h1; exact h2) [1, 2, 3, 4, 5] (by decide) (by decide))
       refine WL.new hS468 56 [] (fun g => (.slice (some ⟨g, 0, none⟩) 0 0)) (.cells #[] 3 (0, 0)) [] (fun fb g => by kernel_rfl) trivial (fun g469 w470 hS471 => ?_)
       refine ⟨⟨hS471.cell 4 rfl 0 rfl, hS471.cell 4 rfl 1 rfl, hS471.cell 6 rfl 2 rfl, hS471.cell 4 rfl 2 rfl, hS471.cell 6 rfl 0 rfl, trivial⟩, ?_⟩
       have hS472 := hS468.go w470 [rowO 3 encInt (some ⟨g469, 0, none⟩) 0 ([] : List Int), rowO 3 encInt (some ⟨g465, 0, none⟩) 1 [x24], rowO 88 encN_Row_ref02 A20 c21 (tag H23 l22), poolO [nestO subN_Row_ref02 H23 l22], blk g6 (.cells #[(sv Ac p2.Cells cc), (iv p2.South), (iv p2.North)] 88 (0, 0)), rowO 3 encInt Ac cc p2.Cells, blk g41 (.cells #[(iv ((rdD p0 x24 z_Tile).N)), (iv ((rdD p0 x24 z_Tile).E)), (iv ((rdD p0 x24 z_Tile).S)), (iv ((rdD p0 x24 z_Tile).W))] 40 (0, 0))] (hS471.map1 0 _ (fun h => rowO.ofBlk h rfl (Nat.le_of_ble_eq_true (by kernel_rfl))) (fun _ h => by obtain ⟨_, h1, h2⟩ := h; injection h1 with h1; subst h1; exact h2) [1, 2, 3, 4, 5, 6] (by decide) (by decide))
       obtain ⟨h473, hx65⟩ := as_some hx65
       refine WL.append hS472 0 (d := 59) (tS := 25) (z := (iv 0)) (bytes := 8) (c2 := cc) rfl (fun fb => by kernel_rfl) (rowO.rd (hS472.own 5).1) (by kernel_rfl) (by kernel_rfl) rfl (by decide) h473 (by decide) [1, 2, 3, 4, 5, 6] (by decide) (by decide) (fun A474 c475 w476 hS477 => ?_)
       refine ⟨⟨hS477.cell 4 rfl 1 rfl, hS477.cell 6 rfl 2 rfl, hS477.cell 4 rfl 2 rfl, hS477.cell 6 rfl 0 rfl, trivial⟩, ?_⟩
       obtain ⟨h478, hx65⟩ := as_some hx65
       refine WL.append hS477 0 (d := 62) (tS := 25) (z := (iv 0)) (bytes := 8) (c2 := 1) rfl (fun fb => by kernel_rfl) (rowO.rd (hS477.own 1).1) (by kernel_rfl) (by kernel_rfl) rfl (by decide) h478 (by decide) [1, 2, 3, 4, 5, 6] (by decide) (by decide) (fun A479 c480 w481 hS482 => ?_)
       refine ⟨⟨hS482.cell 4 rfl 1 rfl, hS482.cell 6 rfl 2 rfl, hS482.cell 4 rfl 2 rfl, hS482.cell 6 rfl 0 rfl, trivial⟩, ?_⟩
       obtain ⟨t483, ht484, hx65⟩ := bind_some hx65
       refine WL.call (some 69) 87 #[(sv Ab p1 cb), (iv ((rdD p0 x24 z_Tile).S))] (fun fb => by kernel_rfl) (ref02_at_calls _ p1 ((rdD p0 x24 z_Tile).S) Ab cb t483 _ (hS482.rd 1) ht484) (fun v w485 hR486 => ?_)
       obtain ⟨rfl, hk_⟩ := hR486
       have hS487 := hS482.keepN hk_
       refine ⟨⟨hS487.cell 4 rfl 1 rfl, hS487.cell 4 rfl 2 rfl, hS487.cell 6 rfl 0 rfl, trivial⟩, ?_⟩
       refine seg 22 [] [0, 1, 3, 4, 5, 8, 13, 62, 71, 73, 74, 75, 77] [(0, (sv Aa p0 ca)), (1, (sv Ab p1 cb)), (3, (iv p3)), (4, (iv p4)), (5, (sv A20 l22 c21)), (8, (pt g6)), (13, (iv x24)), (62, (sv A479 ((([] : List Int) ++ p2.Cells) ++ [x24]) c480)), (71, (iv (w64 (p2.South + (w64 (p4 * t483)))))), (73, (iv p2.North)), (74, (iv p4)), (75, (sv Ab p1 cb)), (77, (iv ((rdD p0 x24 z_Tile).N)))] [] (fun fb => by kernel_rfl) rfl trivial ?_
       obtain ⟨t488, ht489, hx65⟩ := bind_some hx65
       refine WL.call (some 78) 87 #[(sv Ab p1 cb), (iv ((rdD p0 x24 z_Tile).N))] (fun fb => by kernel_rfl) (ref02_at_calls _ p1 ((rdD p0 x24 z_Tile).N) Ab cb t488 _ (hS487.rd 1) ht489) (fun v w490 hR491 => ?_)
       obtain ⟨rfl, hk_⟩ := hR491
       have hS492 := hS487.keepN hk_
       refine ⟨⟨hS492.cell 4 rfl 1 rfl, hS492.cell 4 rfl 2 rfl, trivial⟩, ?_⟩
       refine seg 26 [] [0, 1, 3, 4, 5, 8, 13, 81] [(0, (sv Aa p0 ca)), (1, (sv Ab p1 cb)), (3, (iv p3)), (4, (iv p4)), (5, (sv A20 l22 c21)), (8, (pt g6)), (13, (iv x24)), (81, (.agg #[(sv A479 ((([] : List Int) ++ p2.Cells) ++ [x24]) c480), (iv (w64 (p2.South + (w64 (p4 * t483))))), (iv (w64 (p2.North + (w64 (p4 * t488)))))]))] [] (fun fb => by kernel_rfl) rfl trivial ?_
       refine WL.new hS492 15 [] (fun g => (pt g)) (.cells #[(.slice none 0 0), (iv 0), (iv 0)] 88 (0, 0)) [] (fun fb g => by kernel_rfl) trivial (fun g493 w494 hS495 => ?_)
       refine ⟨⟨hS495.cell 5 rfl 0 rfl, hS495.cell 5 rfl 1 rfl, hS495.cell 7 rfl 2 rfl, hS495.cell 5 rfl 2 rfl, hS495.cell 7 rfl 0 rfl, trivial⟩, ?_⟩
       refine WL.store hS495 0 rfl [(0, (sv A479 ((([] : List Int) ++ p2.Cells) ++ [x24]) c480)), (1, (iv (w64 (p2.South + (w64 (p4 * t483)))))), (2, (iv (w64 (p2.North + (w64 (p4 * t488))))))] #[(sv A479 ((([] : List Int) ++ p2.Cells) ++ [x24]) c480), (iv (w64 (p2.South + (w64 (p4 * t483))))), (iv (w64 (p2.North + (w64 (p4 * t488)))))] (fun fb => by kernel_rfl) (by kernel_rfl) rfl [1, 2, 3, 4, 5, 6, 7] (by decide) (by decide) (fun w496 hS497 => ?_)
       refine ⟨trivial, ?_⟩
       refine WL.done rfl ?_
       injection hx65 with hx65
       exact WX.to Kx63 (((([] : List Int) ++ p2.Cells) ++ [x24], w64 (p2.South + (w64 (p4 * t483))), w64 (p2.North + (w64 (p4 * t488)))), g493, A479, c480) [0, 1, 3, 4, 5, 8, 13, 15] rfl ⟨(hS497.subR [0, 1]).sub [3, 4, 5, 6, 0, 1] (by decide), hx65.symm⟩
      ·
       refine segF 15 [.v (sv Ac p2.Cells cc), .v (iv p2.South), .v (iv ((rdD p0 x24 z_Tile).S)), .v (iv p2.North), .v (iv ((rdD p0 x24 z_Tile).N))] [0, 1, 3, 4, 5, 8, 13, 58, 60, 64, 65, 66, 68, 73, 74, 75, 77] [(0, (sv Aa p0 ca)), (1, (sv Ab p1 cb)), (3, (iv p3)), (4, (iv p4)), (5, (sv A20 l22 c21)), (8, (pt g6)), (13, (iv x24)), (58, (sv Ac p2.Cells cc)), (60, (iv x24)), (64, (iv p2.South)), (65, (iv p4)), (66, (sv Ab p1 cb)), (68, (iv ((rdD p0 x24 z_Tile).S))), (73, (iv p2.North)), (74, (iv p4)), (75, (sv Ab p1 cb)), (77, (iv ((rdD p0 x24 z_Tile).N)))] [] [0, 1, 2, 3, 4] [(2, ⟨g6, 0, none⟩, (sv Ac p2.Cells cc)), (8, ⟨g6, 1, none⟩, (iv p2.South)), (12, ⟨g41, 2, none⟩, (iv ((rdD p0 x24 z_Tile).S))), (17, ⟨g6, 2, none⟩, (iv p2.North)), (21, ⟨g41, 0, none⟩, (iv ((rdD p0 x24 z_Tile).N)))] (fun fb => by kernel_rfl) rfl trivial rfl ?_
       refine WL.new hS67 61 [] (fun g => (.slice (some ⟨g, 0, none⟩) 1 1)) (.cells #[(iv x24)] 3 (0, 0)) [] (fun fb g => by kernel_rfl) trivial (fun g498 w499 hS500 => ?_)
       refine ⟨⟨hS500.cell 3 rfl 0 rfl, hS500.cell 3 rfl 1 rfl, hS500.cell 5 rfl 2 rfl, hS500.cell 3 rfl 2 rfl, hS500.cell 5 rfl 0 rfl, trivial⟩, ?_⟩
       have hS501 := hS.go w499 [rowO 3 encInt (some ⟨g498, 0, none⟩) 1 [x24], rowO 88 encN_Row_ref02 A20 c21 (tag H23 l22), poolO [nestO subN_Row_ref02 H23 l22], blk g6 (.cells #[(sv Ac p2.Cells cc), (iv p2.South), (iv p2.North)] 88 (0, 0)), rowO 3 encInt Ac cc p2.Cells, blk g41 (.cells #[(iv ((rdD p0 x24 z_Tile).N)), (iv ((rdD p0 x24 z_Tile).E)), (iv ((rdD p0 x24 z_Tile).S)), (iv ((rdD p0 x24 z_Tile).W))] 40 (0, 0))] (hS500.map1 0 _ (fun h => rowO.ofBlk h rfl (Nat.le_of_ble_eq_true (by kernel_rfl))) (fun _ h => by obtain ⟨_, h1, h2⟩ := h; injection h1 with h1; subst h1; exact h2) [1, 2, 3, 4, 5] (by decide) (by decide))
       refine WL.new hS501 56 [] (fun g => (.slice (some ⟨g, 0, none⟩) 0 0)) (.cells #[] 3 (0, 0)) [] (fun fb g => by kernel_rfl) trivial (fun g502 w503 hS504 => ?_)
       refine ⟨⟨hS504.cell 4 rfl 0 rfl, hS504.cell 4 rfl 1 rfl, hS504.cell 6 rfl 2 rfl, hS504.cell 4 rfl 2 rfl, hS504.cell 6 rfl 0 rfl, trivial⟩, ?_⟩
       have hS505 := hS501.go w503 [rowO 3 encInt (some ⟨g502, 0, none⟩) 0 ([] : List Int), rowO 3 encInt (some ⟨g498, 0, none⟩) 1 [x24], rowO 88 encN_Row_ref02 A20 c21 (tag H23 l22), poolO [nestO subN_Row_ref02 H23 l22], blk g6 (.cells #[(sv Ac p2.Cells cc), (iv p2.South), (iv p2.North)] 88 (0, 0)), rowO 3 encInt Ac cc p2.Cells, blk g41 (.cells #[(iv ((rdD p0 x24 z_Tile).N)), (iv ((rdD p0 x24 z_Tile).E)), (iv ((rdD p0 x24 z_Tile).S)), (iv ((rdD p0 x24 z_Tile).W))] 40 (0, 0))] (hS504.map1 0 _ (fun h => rowO.ofBlk h rfl (Nat.le_of_ble_eq_true (by kernel_rfl))) (fun _ h => by obtain ⟨_, h1, h2⟩ := h; injection h1 with h1; subst h1; exact h2) [1, 2, 3, 4, 5, 6] (by decide) (by decide))
       obtain ⟨h506, hx65⟩ := as_some hx65
       refine WL.append hS505 0 (d := 59) (tS := 25) (z := (iv 0)) (bytes := 8) (c2 := cc) rfl (fun fb => by kernel_rfl) (rowO.rd (hS505.own 5).1) (by kernel_rfl) (by kernel_rfl) rfl (by decide) h506 (by decide) [1, 2, 3, 4, 5, 6] (by decide) (by decide) (fun A507 c508 w509 hS510 => ?_)
       refine ⟨⟨hS510.cell 4 rfl 1 rfl, hS510.cell 6 rfl 2 rfl, hS510.cell 4 rfl 2 rfl, hS510.cell 6 rfl 0 rfl, trivial⟩, ?_⟩
       obtain ⟨h511, hx65⟩ := as_some hx65
       refine WL.append hS510 0 (d := 62) (tS := 25) (z := (iv 0)) (bytes := 8) (c2 := 1) rfl (fun fb => by kernel_rfl) (rowO.rd (hS510.own 1).1) (by kernel_rfl) (by kernel_rfl) rfl (by decide) h511 (by decide) [1, 2, 3, 4, 5, 6] (by decide) (by decide) (fun A512 c513 w514 hS515 => ?_)
       refine ⟨⟨hS515.cell 4 rfl 1 rfl, hS515.cell 6 rfl 2 rfl, hS515.cell 4 rfl 2 rfl, hS515.cell 6 rfl 0 rfl, trivial⟩, ?_⟩
       obtain ⟨t516, ht517, hx65⟩ := bind_some hx65
       refine WL.call (some 69) 87 #[(sv Ab p1 cb), (iv ((rdD p0 x24 z_Tile).S))] (fun fb => by kernel_rfl) (ref02_at_calls _ p1 ((rdD p0 x24 z_Tile).S) Ab cb t516 _ (hS515.rd 1) ht517) (fun v w518 hR519 => ?_)
       obtain ⟨rfl, hk_⟩ := hR519
       have hS520 := hS515.keepN hk_
       refine ⟨⟨hS520.cell 4 rfl 1 rfl, hS520.cell 4 rfl 2 rfl, hS520.cell 6 rfl 0 rfl, trivial⟩, ?_⟩
       refine seg 22 [] [0, 1, 3, 4, 5, 8, 13, 62, 71, 73, 74, 75, 77] [(0, (sv Aa p0 ca)), (1, (sv Ab p1 cb)), (3, (iv p3)), (4, (iv p4)), (5, (sv A20 l22 c21)), (8, (pt g6)), (13, (iv x24)), (62, (sv A512 ((([] : List Int) ++ p2.Cells) ++ [x24]) c513)), (71, (iv (w64 (p2.South + (w64 (p4 * t516)))))), (73, (iv p2.North)), (74, (iv p4)), (75, (sv Ab p1 cb)), (77, (iv ((rdD p0 x24 z_Tile).N)))] [] (fun fb => by kernel_rfl) rfl trivial ?_
       refine WL.new hS520 15 [] (fun g => (pt g)) (.cells #[(.slice none 0 0), (iv 0), (iv 0)] 88 (0, 0)) [] (fun fb g => by kernel_rfl) trivial (fun g521 w522 hS523 => ?_)
       refine ⟨⟨hS523.cell 5 rfl 0 rfl, hS523.cell 5 rfl 1 rfl, hS523.cell 7 rfl 2 rfl, hS523.cell 5 rfl 2 rfl, hS523.cell 7 rfl 0 rfl, trivial⟩, ?_⟩
       obtain ⟨t524, ht525, hx65⟩ := bind_some hx65
       refine WL.call (some 78) 87 #[(sv Ab p1 cb), (iv ((rdD p0 x24 z_Tile).N))] (fun fb => by kernel_rfl) (ref02_at_calls _ p1 ((rdD p0 x24 z_Tile).N) Ab cb t524 _ (hS523.rd 1) ht525) (fun v w526 hR527 => ?_)
       obtain ⟨rfl, hk_⟩ := hR527
       have hS528 := hS523.keepN hk_
       refine ⟨⟨hS528.cell 5 rfl 1 rfl, hS528.cell 5 rfl 2 rfl, trivial⟩, ?_⟩
       refine seg 27 [] [0, 1, 3, 4, 5, 8, 13, 15, 81] [(0, (sv Aa p0 ca)), (1, (sv Ab p1 cb)), (3, (iv p3)), (4, (iv p4)), (5, (sv A20 l22 c21)), (8, (pt g6)), (13, (iv x24)), (15, (pt g521)), (81, (.agg #[(sv A512 ((([] : List Int) ++ p2.Cells) ++ [x24]) c513), (iv (w64 (p2.South + (w64 (p4 * t516))))), (iv (w64 (p2.North + (w64 (p4 * t524)))))]))] [] (fun fb => by kernel_rfl) rfl trivial ?_
       refine WL.store hS528 0 rfl [(0, (sv A512 ((([] : List Int) ++ p2.Cells) ++ [x24]) c513)), (1, (iv (w64 (p2.South + (w64 (p4 * t516)))))), (2, (iv (w64 (p2.North + (w64 (p4 * t524))))))] #[(sv A512 ((([] : List Int) ++ p2.Cells) ++ [x24]) c513), (iv (w64 (p2.South + (w64 (p4 * t516))))), (iv (w64 (p2.North + (w64 (p4 * t524)))))] (fun fb => by kernel_rfl) (by kernel_rfl) rfl [1, 2, 3, 4, 5, 6, 7] (by decide) (by decide) (fun w529 hS530 => ?_)
       refine ⟨trivial, ?_⟩
       refine WL.done rfl ?_
       injection hx65 with hx65
       exact WX.to Kx63 (((([] : List Int) ++ p2.Cells) ++ [x24], w64 (p2.South + (w64 (p4 * t516))), w64 (p2.North + (w64 (p4 * t524)))), g521, A512, c513) [0, 1, 3, 4, 5, 8, 13, 15] rfl ⟨(hS530.subR [0, 1]).sub [3, 4, 5, 6, 0, 1] (by decide), hx65.symm⟩
      ·
       refine segF 15 [.v (sv Ac p2.Cells cc), .v (iv p2.South), .v (iv ((rdD p0 x24 z_Tile).S)), .v (iv p2.North), .v (iv ((rdD p0 x24 z_Tile).N))] [0, 1, 3, 4, 5, 8, 13, 58, 60, 64, 65, 66, 68, 73, 74, 75, 77] [(0, (sv Aa p0 ca)), (1, (sv Ab p1 cb)), (3, (iv p3)), (4, (iv p4)), (5, (sv A20 l22 c21)), (8, (pt g6)), (13, (iv x24)), (58, (sv Ac p2.Cells cc)), (60, (iv x24)), (64, (iv p2.South)), (65, (iv p4)), (66, (sv Ab p1 cb)), (68, (iv ((rdD p0 x24 z_Tile).S))), (73, (iv p2.North)), (74, (iv p4)), (75, (sv Ab p1 cb)), (77, (iv ((rdD p0 x24 z_Tile).N)))] [] [0, 1, 2, 3, 4] [(2, ⟨g6, 0, none⟩, (sv Ac p2.Cells cc)), (8, ⟨g6, 1, none⟩, (iv p2.South)), (12, ⟨g41, 2, none⟩, (iv ((rdD p0 x24 z_Tile).S))), (17, ⟨g6, 2, none⟩, (iv p2.North)), (21, ⟨g41, 0, none⟩, (iv ((rdD p0 x24 z_Tile).N)))] (fun fb => by kernel_rfl) rfl trivial rfl ?_
       refine WL.new hS67 61 [] (fun g => (.slice (some ⟨g, 0, none⟩) 1 1)) (.cells #[(iv x24)] 3 (0, 0)) [] (fun fb g => by kernel_rfl) trivial (fun g531 w532 hS533 => ?_)
       refine ⟨⟨hS533.cell 3 rfl 0 rfl, hS533.cell 3 rfl 1 rfl, hS533.cell 5 rfl 2 rfl, hS533.cell 3 rfl 2 rfl, hS533.cell 5 rfl 0 rfl, trivial⟩, ?_⟩
       have hS534 := hS.go w532 [rowO 3 encInt (some ⟨g531, 0, none⟩) 1 [x24], rowO 88 encN_Row_ref02 A20 c21 (tag H23 l22), poolO [nestO subN_Row_ref02 H23 l22], blk g6 (.cells #[(sv Ac p2.Cells cc), (iv p2.South), (iv p2.North)] 88 (0, 0)), rowO 3 encInt Ac cc p2.Cells, blk g41 (.cells #[(iv ((rdD p0 x24 z_Tile).N)), (iv ((rdD p0 x24 z_Tile).E)), (iv ((rdD p0 x24 z_Tile).S)), (iv ((rdD p0 x24 z_Tile).W))] 40 (0, 0))] (hS533.map1 0 _ (fun h => rowO.ofBlk h rfl (Nat.le_of_ble_eq_true (by kernel_rfl))) (fun _ h => by obtain ⟨_, h1, h2⟩ := h; injection h1 with h1; subst h1; exact h2) [1, 2, 3, 4, 5] (by decide) (by decide))
       refine WL.new hS534 56 [] (fun g => (.slice (some ⟨g, 0, none⟩) 0 0)) (.cells #[] 3 (0, 0)) [] (fun fb g => by kernel_rfl) trivial (fun g535 w536 hS537 => ?_)
       refine ⟨⟨hS537.cell 4 rfl 0 rfl, hS537.cell 4 rfl 1 rfl, hS537.cell 6 rfl 2 rfl, hS537.cell 4 rfl 2 rfl, hS537.cell 6 rfl 0 rfl, trivial⟩, ?_⟩
       have hS538 := hS534.go w536 [rowO 3 encInt (some ⟨g535, 0, none⟩) 0 ([] : List Int), rowO 3 encInt (some ⟨g531, 0, none⟩) 1 [x24], rowO 88 encN_Row_ref02 A20 c21 (tag H23 l22), poolO [nestO subN_Row_ref02 H23 l22], blk g6 (.cells #[(sv Ac p2.Cells cc), (iv p2.South), (iv p2.North)] 88 (0, 0)), rowO 3 encInt Ac cc p2.Cells, blk g41 (.cells #[(iv ((rdD p0 x24 z_Tile).N)), (iv ((rdD p0 x24 z_Tile).E)), (iv ((rdD p0 x24 z_Tile).S)), (iv ((rdD p0 x24 z_Tile).W))] 40 (0, 0))] (hS537.map1 0 _ (fun h => rowO.ofBlk h rfl (Nat.le_of_ble_eq_true (by kernel_rfl))) (fun _ h => by obtain ⟨_, h1, h2⟩ := h; injection h1 with h1; subst h1; exact h2) [1, 2, 3, 4, 5, 6] (by decide) (by decide))
       obtain ⟨h539, hx65⟩ := as_some hx65
       refine WL.append hS538 0 (d := 59) (tS := 25) (z := (iv 0)) (bytes := 8) (c2 := cc) rfl (fun fb => by kernel_rfl) (rowO.rd (hS538.own 5).1) (by kernel_rfl) (by kernel_rfl) rfl (by decide) h539 (by decide) [1, 2, 3, 4, 5, 6] (by decide) (by decide) (fun A540 c541 w542 hS543 => ?_)
       refine ⟨⟨hS543.cell 4 rfl 1 rfl, hS543.cell 6 rfl 2 rfl, hS543.cell 4 rfl 2 rfl, hS543.cell 6 rfl 0 rfl, trivial⟩, ?_⟩
       obtain ⟨h544, hx65⟩ := as_some hx65
       refine WL.append hS543 0 (d := 62) (tS := 25) (z := (iv 0)) (bytes := 8) (c2 := 1) rfl (fun fb => by kernel_rfl) (rowO.rd (hS543.own 1).1) (by kernel_rfl) (by kernel_rfl) rfl (by decide) h544 (by decide) [1, 2, 3, 4, 5, 6] (by decide) (by decide) (fun A545 c546 w547 hS548 => ?_)
       refine ⟨⟨hS548.cell 4 rfl 1 rfl, hS548.cell 6 rfl 2 rfl, hS548.cell 4 rfl 2 rfl, hS548.cell 6 rfl 0 rfl, trivial⟩, ?_⟩
       refine WL.new hS548 15 [] (fun g => (pt g)) (.cells #[(.slice none 0 0), (iv 0), (iv 0)] 88 (0, 0)) [] (fun fb g => by kernel_rfl) trivial (fun g549 w550 hS551 => ?_)
       refine ⟨⟨hS551.cell 5 rfl 0 rfl, hS551.cell 5 rfl 1 rfl, hS551.cell 7 rfl 2 rfl, hS551.cell 5 rfl 2 rfl, hS551.cell 7 rfl 0 rfl, trivial⟩, ?_⟩
       obtain ⟨t552, ht553, hx65⟩ := bind_some hx65
       refine WL.call (some 69) 87 #[(sv Ab p1 cb), (iv ((rdD p0 x24 z_Tile).S))] (fun fb => by kernel_rfl) (ref02_at_calls _ p1 ((rdD p0 x24 z_Tile).S) Ab cb t552 _ (hS551.rd 1) ht553) (fun v w554 hR555 => ?_)
       obtain ⟨rfl, hk_⟩ := hR555
       have hS556 := hS551.keepN hk_
       refine ⟨⟨hS556.cell 5 rfl 1 rfl, hS556.cell 5 rfl 2 rfl, hS556.cell 7 rfl 0 rfl, trivial⟩, ?_⟩
       refine seg 23 [] [0, 1, 3, 4, 5, 8, 13, 15, 62, 71, 73, 74, 75, 77] [(0, (sv Aa p0 ca)), (1, (sv Ab p1 cb)), (3, (iv p3)), (4, (iv p4)), (5, (sv A20 l22 c21)), (8, (pt g6)), (13, (iv x24)), (15, (pt g549)), (62, (sv A545 ((([] : List Int) ++ p2.Cells) ++ [x24]) c546)), (71, (iv (w64 (p2.South + (w64 (p4 * t552)))))), (73, (iv p2.North)), (74, (iv p4)), (75, (sv Ab p1 cb)), (77, (iv ((rdD p0 x24 z_Tile).N)))] [] (fun fb => by kernel_rfl) rfl trivial ?_
       obtain ⟨t557, ht558, hx65⟩ := bind_some hx65
       refine WL.call (some 78) 87 #[(sv Ab p1 cb), (iv ((rdD p0 x24 z_Tile).N))] (fun fb => by kernel_rfl) (ref02_at_calls _ p1 ((rdD p0 x24 z_Tile).N) Ab cb t557 _ (hS556.rd 1) ht558) (fun v w559 hR560 => ?_)
       obtain ⟨rfl, hk_⟩ := hR560
       have hS561 := hS556.keepN hk_
       refine ⟨⟨hS561.cell 5 rfl 1 rfl, hS561.cell 5 rfl 2 rfl, trivial⟩, ?_⟩
       refine seg 27 [] [0, 1, 3, 4, 5, 8, 13, 15, 81] [(0, (sv Aa p0 ca)), (1, (sv Ab p1 cb)), (3, (iv p3)), (4, (iv p4)), (5, (sv A20 l22 c21)), (8, (pt g6)), (13, (iv x24)), (15, (pt g549)), (81, (.agg #[(sv A545 ((([] : List Int) ++ p2.Cells) ++ [x24]) c546), (iv (w64 (p2.South + (w64 (p4 * t552))))), (iv (w64 (p2.North + (w64 (p4 * t557)))))]))] [] (fun fb => by kernel_rfl) rfl trivial ?_
       refine WL.store hS561 0 rfl [(0, (sv A545 ((([] : List Int) ++ p2.Cells) ++ [x24]) c546)), (1, (iv (w64 (p2.South + (w64 (p4 * t552)))))), (2, (iv (w64 (p2.North + (w64 (p4 * t557))))))] #[(sv A545 ((([] : List Int) ++ p2.Cells) ++ [x24]) c546), (iv (w64 (p2.South + (w64 (p4 * t552))))), (iv (w64 (p2.North + (w64 (p4 * t557)))))] (fun fb => by kernel_rfl) (by kernel_rfl) rfl [1, 2, 3, 4, 5, 6, 7] (by decide) (by decide) (fun w562 hS563 => ?_)
       refine ⟨trivial, ?_⟩
       refine WL.done rfl ?_
       injection hx65 with hx65
       exact WX.to Kx63 (((([] : List Int) ++ p2.Cells) ++ [x24], w64 (p2.South + (w64 (p4 * t552))), w64 (p2.North + (w64 (p4 * t557)))), g549, A545, c546) [0, 1, 3, 4, 5, 8, 13, 15] rfl ⟨(hS563.subR [0, 1]).sub [3, 4, 5, 6, 0, 1] (by decide), hx65.symm⟩
      ·
       refine segF 15 [.v (sv Ac p2.Cells cc), .v (iv p2.South), .v (iv ((rdD p0 x24 z_Tile).S)), .v (iv p2.North), .v (iv ((rdD p0 x24 z_Tile).N))] [0, 1, 3, 4, 5, 8, 13, 58, 60, 64, 65, 66, 68, 73, 74, 75, 77] [(0, (sv Aa p0 ca)), (1, (sv Ab p1 cb)), (3, (iv p3)), (4, (iv p4)), (5, (sv A20 l22 c21)), (8, (pt g6)), (13, (iv x24)), (58, (sv Ac p2.Cells cc)), (60, (iv x24)), (64, (iv p2.South)), (65, (iv p4)), (66, (sv Ab p1 cb)), (68, (iv ((rdD p0 x24 z_Tile).S))), (73, (iv p2.North)), (74, (iv p4)), (75, (sv Ab p1 cb)), (77, (iv ((rdD p0 x24 z_Tile).N)))] [] [0, 1, 2, 3, 4] [(2, ⟨g6, 0, none⟩, (sv Ac p2.Cells cc)), (8, ⟨g6, 1, none⟩, (iv p2.South)), (12, ⟨g41, 2, none⟩, (iv ((rdD p0 x24 z_Tile).S))), (17, ⟨g6, 2, none⟩, (iv p2.North)), (21, ⟨g41, 0, none⟩, (iv ((rdD p0 x24 z_Tile).N)))] (fun fb => by kernel_rfl) rfl trivial rfl ?_
       refine WL.new hS67 61 [] (fun g => (.slice (some ⟨g, 0, none⟩) 1 1)) (.cells #[(iv x24)] 3 (0, 0)) [] (fun fb g => by kernel_rfl) trivial (fun g564 w565 hS566 => ?_)
       refine ⟨⟨hS566.cell 3 rfl 0 rfl, hS566.cell 3 rfl 1 rfl, hS566.cell 5 rfl 2 rfl, hS566.cell 3 rfl 2 rfl, hS566.cell 5 rfl 0 rfl, trivial⟩, ?_⟩
       have hS567 := hS.go w565 [rowO 3 encInt (some ⟨g564, 0, none⟩) 1 [x24], rowO 88 encN_Row_ref02 A20 c21 (tag H23 l22), poolO [nestO subN_Row_ref02 H23 l22], blk g6 (.cells #[(sv Ac p2.Cells cc), (iv p2.South), (iv p2.North)] 88 (0, 0)), rowO 3 encInt Ac cc p2.Cells, blk g41 (.cells #[(iv ((rdD p0 x24 z_Tile).N)), (iv ((rdD p0 x24 z_Tile).E)), (iv ((rdD p0 x24 z_Tile).S)), (iv ((rdD p0 x24 z_Tile).W))] 40 (0, 0))] (hS566.map1 0 _ (fun h => rowO.ofBlk h rfl (Nat.le_of_ble_eq_true (by kernel_rfl))) (fun _ h => by obtain ⟨_, h1, h2⟩ := h; injection h1 with h1; subst h1; exact h2) [1, 2, 3, 4, 5] (by decide) (by decide))
       refine WL.new hS567 56 [] (fun g => (.slice (some ⟨g, 0, none⟩) 0 0)) (.cells #[] 3 (0, 0)) [] (fun fb g => by kernel_rfl) trivial (fun g568 w569 hS570 => ?_)
       refine ⟨⟨hS570.cell 4 rfl 0 rfl, hS570.cell 4 rfl 1 rfl, hS570.cell 6 rfl 2 rfl, hS570.cell 4 rfl 2 rfl, hS570.cell 6 rfl 0 rfl, trivial⟩, ?_⟩
       have hS571 := hS567.go w569 [rowO 3 encInt (some ⟨g568, 0, none⟩) 0 ([] : List Int), rowO 3 encInt (some ⟨g564, 0, none⟩) 1 [x24], rowO 88 encN_Row_ref02 A20 c21 (tag H23 l22), poolO [nestO subN_Row_ref02 H23 l22], blk g6 (.cells #[(sv Ac p2.Cells cc), (iv p2.South), (iv p2.North)] 88 (0, 0)), rowO 3 encInt Ac cc p2.Cells, blk g41 (.cells #[(iv ((rdD p0 x24 z_Tile).N)), (iv ((rdD p0 x24 z_Tile).E)), (iv ((rdD p0 x24 z_Tile).S)), (iv ((rdD p0 x24 z_Tile).W))] 40 (0, 0))] (hS570.map1 0 _ (fun h => rowO.ofBlk h rfl (Nat.le_of_ble_eq_true (by kernel_rfl))) (fun _ h => by obtain ⟨_, h1, h2⟩ := h; injection h1 with h1; subst h1; exact h2) [1, 2, 3, 4, 5, 6] (by decide) (by decide))
       obtain ⟨h572, hx65⟩ := as_some hx65
       refine WL.append hS571 0 (d := 59) (tS := 25) (z := (iv 0)) (bytes := 8) (c2 := cc) rfl (fun fb => by kernel_rfl) (rowO.rd (hS571.own 5).1) (by kernel_rfl) (by kernel_rfl) rfl (by decide) h572 (by decide) [1, 2, 3, 4, 5, 6] (by decide) (by decide) (fun A573 c574 w575 hS576 => ?_)
       refine ⟨⟨hS576.cell 4 rfl 1 rfl, hS576.cell 6 rfl 2 rfl, hS576.cell 4 rfl 2 rfl, hS576.cell 6 rfl 0 rfl, trivial⟩, ?_⟩
       refine WL.new hS576 15 [] (fun g => (pt g)) (.cells #[(.slice none 0 0), (iv 0), (iv 0)] 88 (0, 0)) [] (fun fb g => by kernel_rfl) trivial (fun g577 w578 hS579 => ?_)
       refine ⟨⟨hS579.cell 5 rfl 0 rfl, hS579.cell 5 rfl 1 rfl, hS579.cell 7 rfl 2 rfl, hS579.cell 5 rfl 2 rfl, hS579.cell 7 rfl 0 rfl, trivial⟩, ?_⟩
       obtain ⟨h580, hx65⟩ := as_some hx65
       refine WL.append hS579 1 (d := 62) (tS := 25) (z := (iv 0)) (bytes := 8) (c2 := 1) rfl (fun fb => by kernel_rfl) (rowO.rd (hS579.own 2).1) (by kernel_rfl) (by kernel_rfl) rfl (by decide) h580 (by decide) [0, 2, 3, 4, 5, 6, 7] (by decide) (by decide) (fun A581 c582 w583 hS584 => ?_)
       refine ⟨⟨hS584.cell 5 rfl 1 rfl, hS584.cell 7 rfl 2 rfl, hS584.cell 5 rfl 2 rfl, hS584.cell 7 rfl 0 rfl, trivial⟩, ?_⟩
       obtain ⟨t585, ht586, hx65⟩ := bind_some hx65
       refine WL.call (some 69) 87 #[(sv Ab p1 cb), (iv ((rdD p0 x24 z_Tile).S))] (fun fb => by kernel_rfl) (ref02_at_calls _ p1 ((rdD p0 x24 z_Tile).S) Ab cb t585 _ (hS584.rd 1) ht586) (fun v w587 hR588 => ?_)
       obtain ⟨rfl, hk_⟩ := hR588
       have hS589 := hS584.keepN hk_
       refine ⟨⟨hS589.cell 5 rfl 1 rfl, hS589.cell 5 rfl 2 rfl, hS589.cell 7 rfl 0 rfl, trivial⟩, ?_⟩
       refine seg 23 [] [0, 1, 3, 4, 5, 8, 13, 15, 62, 71, 73, 74, 75, 77] [(0, (sv Aa p0 ca)), (1, (sv Ab p1 cb)), (3, (iv p3)), (4, (iv p4)), (5, (sv A20 l22 c21)), (8, (pt g6)), (13, (iv x24)), (15, (pt g577)), (62, (sv A581 ((([] : List Int) ++ p2.Cells) ++ [x24]) c582)), (71, (iv (w64 (p2.South + (w64 (p4 * t585)))))), (73, (iv p2.North)), (74, (iv p4)), (75, (sv Ab p1 cb)), (77, (iv ((rdD p0 x24 z_Tile).N)))] [] (fun fb => by kernel_rfl) rfl trivial ?_
       obtain ⟨t590, ht591, hx65⟩ := bind_some hx65
       refine WL.call (some 78) 87 #[(sv Ab p1 cb), (iv ((rdD p0 x24 z_Tile).N))] (fun fb => by kernel_rfl) (ref02_at_calls _ p1 ((rdD p0 x24 z_Tile).N) Ab cb t590 _ (hS589.rd 1) ht591) (fun v w592 hR593 => ?_)
       obtain ⟨rfl, hk_⟩ := hR593
       have hS594 := hS589.keepN hk_
       refine ⟨⟨hS594.cell 5 rfl 1 rfl, hS594.cell 5 rfl 2 rfl, trivial⟩, ?_⟩
       refine seg 27 [] [0, 1, 3, 4, 5, 8, 13, 15, 81] [(0, (sv Aa p0 ca)), (1, (sv Ab p1 cb)), (3, (iv p3)), (4, (iv p4)), (5, (sv A20 l22 c21)), (8, (pt g6)), (13, (iv x24)), (15, (pt g577)), (81, (.agg #[(sv A581 ((([] : List Int) ++ p2.Cells) ++ [x24]) c582), (iv (w64 (p2.South + (w64 (p4 * t585))))), (iv (w64 (p2.North + (w64 (p4 * t590)))))]))] [] (fun fb => by kernel_rfl) rfl trivial ?_
       refine WL.store hS594 1 rfl [(0, (sv A581 ((([] : List Int) ++ p2.Cells) ++ [x24]) c582)), (1, (iv (w64 (p2.South + (w64 (p4 * t585)))))), (2, (iv (w64 (p2.North + (w64 (p4 * t590))))))] #[(sv A581 ((([] : List Int) ++ p2.Cells) ++ [x24]) c582), (iv (w64 (p2.South + (w64 (p4 * t585))))), (iv (w64 (p2.North + (w64 (p4 * t590)))))] (fun fb => by kernel_rfl) (by kernel_rfl) rfl [0, 2, 3, 4, 5, 6, 7] (by decide) (by decide) (fun w595 hS596 => ?_)
       refine ⟨trivial, ?_⟩
       refine WL.done rfl ?_
       injection hx65 with hx65
       exact WX.to Kx63 (((([] : List Int) ++ p2.Cells) ++ [x24], w64 (p2.South + (w64 (p4 * t585))), w64 (p2.North + (w64 (p4 * t590)))), g577, A581, c582) [0, 1, 3, 4, 5, 8, 13, 15] rfl ⟨(hS596.subR [0, 1]).sub [3, 4, 5, 6, 0, 1] (by decide), hx65.symm⟩
      ·
       refine segF 15 [.v (sv Ac p2.Cells cc), .v (iv p2.South), .v (iv ((rdD p0 x24 z_Tile).S)), .v (iv p2.North), .v (iv ((rdD p0 x24 z_Tile).N))] [0, 1, 3, 4, 5, 8, 13, 58, 60, 64, 65, 66, 68, 73, 74, 75, 77] [(0, (sv Aa p0 ca)), (1, (sv Ab p1 cb)), (3, (iv p3)), (4, (iv p4)), (5, (sv A20 l22 c21)), (8, (pt g6)), (13, (iv x24)), (58, (sv Ac p2.Cells cc)), (60, (iv x24)), (64, (iv p2.South)), (65, (iv p4)), (66, (sv Ab p1 cb)), (68, (iv ((rdD p0 x24 z_Tile).S))), (73, (iv p2.North)), (74, (iv p4)), (75, (sv Ab p1 cb)), (77, (iv ((rdD p0 x24 z_Tile).N)))] [] [0, 1, 2, 3, 4] [(2, ⟨g6, 0, none⟩, (sv Ac p2.Cells cc)), (8, ⟨g6, 1, none⟩, (iv p2.South)), (12, ⟨g41, 2, none⟩, (iv ((rdD p0 x24 z_Tile).S))), (17, ⟨g6, 2, none⟩, (iv p2.North)), (21, ⟨g41, 0, none⟩, (iv ((rdD p0 x24 z_Tile).N)))] (fun fb => by kernel_rfl) rfl trivial rfl ?_
       refine WL.new hS67 61 [] (fun g => (.slice (some ⟨g, 0, none⟩) 1 1)) (.cells #[(iv x24)] 3 (0, 0)) [] (fun fb g => by kernel_rfl) trivial (fun g597 w598 hS599 => ?_)
       refine ⟨⟨hS599.cell 3 rfl 0 rfl, hS599.cell 3 rfl 1 rfl, hS599.cell 5 rfl 2 rfl, hS599.cell 3 rfl 2 rfl, hS599.cell 5 rfl 0 rfl, trivial⟩, ?_⟩
       have hS600 := hS.go w598 [rowO 3 encInt (some ⟨g597, 0, none⟩) 1 [x24], rowO 88 encN_Row_ref02 A20 c21 (tag H23 l22), poolO [nestO subN_Row_ref02 H23 l22], blk g6 (.cells #[(sv Ac p2.Cells cc), (iv p2.South), (iv p2.North)] 88 (0, 0)), rowO 3 encInt Ac cc p2.Cells, blk g41 (.cells #[(iv ((rdD p0 x24 z_Tile).N)), (iv ((rdD p0 x24 z_Tile).E)), (iv ((rdD p0 x24 z_Tile).S)), (iv ((rdD p0 x24 z_Tile).W))] 40 (0, 0))] (hS599.map1 0 _ (fun h => rowO.ofBlk h rfl (Nat.le_of_ble_eq_true (by kernel_rfl))) (fun _ h => by obtain ⟨_, h1, h2⟩ := h; injection h1 with h1; subst h1; exact h2) [1, 2, 3, 4, 5] (by decide) (by decide))
       refine WL.new hS600 56 [] (fun g => (.slice (some ⟨g, 0, none⟩) 0 0)) (.cells #[] 3 (0, 0)) [] (fun fb g => by kernel_rfl) trivial (fun g601 w602 hS603 => ?_)
       refine ⟨⟨hS603.cell 4 rfl 0 rfl, hS603.cell 4 rfl 1 rfl, hS603.cell 6 rfl 2 rfl, hS603.cell 4 rfl 2 rfl, hS603.cell 6 rfl 0 rfl, trivial⟩, ?_⟩
       have hS604 := hS600.go w602 [rowO 3 encInt (some ⟨g601, 0, none⟩) 0 ([] : List Int), rowO 3 encInt (some ⟨g597, 0, none⟩) 1 [x24], rowO 88 encN_Row_ref02 A20 c21 (tag H23 l22), poolO [nestO subN_Row_ref02 H23 l22], blk g6 (.cells #[(sv Ac p2.Cells cc), (iv p2.South), (iv p2.North)] 88 (0, 0)), rowO 3 encInt Ac cc p2.Cells, blk g41 (.cells #[(iv ((rdD p0 x24 z_Tile).N)), (iv ((rdD p0 x24 z_Tile).E)), (iv ((rdD p0 x24 z_Tile).S)), (iv ((rdD p0 x24 z_Tile).W))] 40 (0, 0))] (hS603.map1 0 _ (fun h => rowO.ofBlk h rfl (Nat.le_of_ble_eq_true (by kernel_rfl))) (fun _ h => by obtain ⟨_, h1, h2⟩ := h; injection h1 with h1; subst h1; exact h2) [1, 2, 3, 4, 5, 6] (by decide) (by decide))
       refine WL.new hS604 15 [] (fun g => (pt g)) (.cells #[(.slice none 0 0), (iv 0), (iv 0)] 88 (0, 0)) [] (fun fb g => by kernel_rfl) trivial (fun g605 w606 hS607 => ?_)
       refine ⟨⟨hS607.cell 5 rfl 0 rfl, hS607.cell 5 rfl 1 rfl, hS607.cell 7 rfl 2 rfl, hS607.cell 5 rfl 2 rfl, hS607.cell 7 rfl 0 rfl, trivial⟩, ?_⟩
       obtain ⟨h608, hx65⟩ := as_some hx65
       refine WL.append hS607 1 (d := 59) (tS := 25) (z := (iv 0)) (bytes := 8) (c2 := cc) rfl (fun fb => by kernel_rfl) (rowO.rd (hS607.own 6).1) (by kernel_rfl) (by kernel_rfl) rfl (by decide) h608 (by decide) [0, 2, 3, 4, 5, 6, 7] (by decide) (by decide) (fun A609 c610 w611 hS612 => ?_)
       refine ⟨⟨hS612.cell 5 rfl 1 rfl, hS612.cell 7 rfl 2 rfl, hS612.cell 5 rfl 2 rfl, hS612.cell 7 rfl 0 rfl, trivial⟩, ?_⟩
       obtain ⟨h613, hx65⟩ := as_some hx65
       refine WL.append hS612 0 (d := 62) (tS := 25) (z := (iv 0)) (bytes := 8) (c2 := 1) rfl (fun fb => by kernel_rfl) (rowO.rd (hS612.own 2).1) (by kernel_rfl) (by kernel_rfl) rfl (by decide) h613 (by decide) [1, 2, 3, 4, 5, 6, 7] (by decide) (by decide) (fun A614 c615 w616 hS617 => ?_)
       refine ⟨⟨hS617.cell 5 rfl 1 rfl, hS617.cell 7 rfl 2 rfl, hS617.cell 5 rfl 2 rfl, hS617.cell 7 rfl 0 rfl, trivial⟩, ?_⟩
       obtain ⟨t618, ht619, hx65⟩ := bind_some hx65
       refine WL.call (some 69) 87 #[(sv Ab p1 cb), (iv ((rdD p0 x24 z_Tile).S))] (fun fb => by kernel_rfl) (ref02_at_calls _ p1 ((rdD p0 x24 z_Tile).S) Ab cb t618 _ (hS617.rd 1) ht619) (fun v w620 hR621 => ?_)
       obtain ⟨rfl, hk_⟩ := hR621
       have hS622 := hS617.keepN hk_
       refine ⟨⟨hS622.cell 5 rfl 1 rfl, hS622.cell 5 rfl 2 rfl, hS622.cell 7 rfl 0 rfl, trivial⟩, ?_⟩
       refine seg 23 [] [0, 1, 3, 4, 5, 8, 13, 15, 62, 71, 73, 74, 75, 77] [(0, (sv Aa p0 ca)), (1, (sv Ab p1 cb)), (3, (iv p3)), (4, (iv p4)), (5, (sv A20 l22 c21)), (8, (pt g6)), (13, (iv x24)), (15, (pt g605)), (62, (sv A614 ((([] : List Int) ++ p2.Cells) ++ [x24]) c615)), (71, (iv (w64 (p2.South + (w64 (p4 * t618)))))), (73, (iv p2.North)), (74, (iv p4)), (75, (sv Ab p1 cb)), (77, (iv ((rdD p0 x24 z_Tile).N)))] [] (fun fb => by kernel_rfl) rfl trivial ?_
       obtain ⟨t623, ht624, hx65⟩ := bind_some hx65
       refine WL.call (some 78) 87 #[(sv Ab p1 cb), (iv ((rdD p0 x24 z_Tile).N))] (fun fb => by kernel_rfl) (ref02_at_calls _ p1 ((rdD p0 x24 z_Tile).N) Ab cb t623 _ (hS622.rd 1) ht624) (fun v w625 hR626 => ?_)
       obtain ⟨rfl, hk_⟩ := hR626
       have hS627 := hS622.keepN hk_
       refine ⟨⟨hS627.cell 5 rfl 1 rfl, hS627.cell 5 rfl 2 rfl, trivial⟩, ?_⟩
       refine seg 27 [] [0, 1, 3, 4, 5, 8, 13, 15, 81] [(0, (sv Aa p0 ca)), (1, (sv Ab p1 cb)), (3, (iv p3)), (4, (iv p4)), (5, (sv A20 l22 c21)), (8, (pt g6)), (13, (iv x24)), (15, (pt g605)), (81, (.agg #[(sv A614 ((([] : List Int) ++ p2.Cells) ++ [x24]) c615), (iv (w64 (p2.South + (w64 (p4 * t618))))), (iv (w64 (p2.North + (w64 (p4 * t623)))))]))] [] (fun fb => by kernel_rfl) rfl trivial ?_
       refine WL.store hS627 1 rfl [(0, (sv A614 ((([] : List Int) ++ p2.Cells) ++ [x24]) c615)), (1, (iv (w64 (p2.South + (w64 (p4 * t618)))))), (2, (iv (w64 (p2.North + (w64 (p4 * t623))))))] #[(sv A614 ((([] : List Int) ++ p2.Cells) ++ [x24]) c615), (iv (w64 (p2.South + (w64 (p4 * t618))))), (iv (w64 (p2.North + (w64 (p4 * t623)))))] (fun fb => by kernel_rfl) (by kernel_rfl) rfl [0, 2, 3, 4, 5, 6, 7] (by decide) (by decide) (fun w628 hS629 => ?_)
       refine ⟨trivial, ?_⟩
       refine WL.done rfl ?_
       injection hx65 with hx65
       exact WX.to Kx63 (((([] : List Int) ++ p2.Cells) ++ [x24], w64 (p2.South + (w64 (p4 * t618))), w64 (p2.North + (w64 (p4 * t623)))), g605, A614, c615) [0, 1, 3, 4, 5, 8, 13, 15] rfl ⟨(hS629.subR [0, 1]).sub [3, 4, 5, 6, 0, 1] (by decide), hx65.symm⟩
      ·
       refine segF 15 [.v (sv Ac p2.Cells cc), .v (iv p2.South), .v (iv ((rdD p0 x24 z_Tile).S)), .v (iv p2.North), .v (iv ((rdD p0 x24 z_Tile).N))] [0, 1, 3, 4, 5, 8, 13, 58, 60, 64, 65, 66, 68, 73, 74, 75, 77] [(0, (sv Aa p0 ca)), (1, (sv Ab p1 cb)), (3, (iv p3)), (4, (iv p4)), (5, (sv A20 l22 c21)), (8, (pt g6)), (13, (iv x24)), (58, (sv Ac p2.Cells cc)), (60, (iv x24)), (64, (iv p2.South)), (65, (iv p4)), (66, (sv Ab p1 cb)), (68, (iv ((rdD p0 x24 z_Tile).S))), (73, (iv p2.North)), (74, (iv p4)), (75, (sv Ab p1 cb)), (77, (iv ((rdD p0 x24 z_Tile).N)))] [] [0, 1, 2, 3, 4] [(2, ⟨g6, 0, none⟩, (sv Ac p2.Cells cc)), (8, ⟨g6, 1, none⟩, (iv p2.South)), (12, ⟨g41, 2, none⟩, (iv ((rdD p0 x24 z_Tile).S))), (17, ⟨g6, 2, none⟩, (iv p2.North)), (21, ⟨g41, 0, none⟩, (iv ((rdD p0 x24 z_Tile).N)))] (fun fb => by kernel_rfl) rfl trivial rfl ?_
       refine WL.new hS67 61 [] (fun g => (.slice (some ⟨g, 0, none⟩) 1 1)) (.cells #[(iv x24)] 3 (0, 0)) [] (fun fb g => by kernel_rfl) trivial (fun g630 w631 hS632 => ?_)
       refine ⟨⟨hS632.cell 3 rfl 0 rfl, hS632.cell 3 rfl 1 rfl, hS632.cell 5 rfl 2 rfl, hS632.cell 3 rfl 2 rfl, hS632.cell 5 rfl 0 rfl, trivial⟩, ?_⟩
       have hS633 := hS.go w631 [rowO 3 encInt (some ⟨g630, 0, none⟩) 1 [x24], rowO 88 encN_Row_ref02 A20 c21 (tag H23 l22), poolO [nestO subN_Row_ref02 H23 l22], blk g6 (.cells #[(sv Ac p2.Cells cc), (iv p2.South), (iv p2.North)] 88 (0, 0)), rowO 3 encInt Ac cc p2.Cells, blk g41 (.cells #[(iv ((rdD p0 x24 z_Tile).N)), (iv ((rdD p0 x24 z_Tile).E)), (iv ((rdD p0 x24 z_Tile).S)), (iv ((rdD p0 x24 z_Tile).W))] 40 (0, 0))] (hS632.map1 0 _ (fun h => rowO.ofBlk h rfl (Nat.le_of_ble_eq_true (by kernel_rfl))) (fun _ h => by obtain ⟨_, h1, h2⟩ := h; injection h1 with h1; subst h1; exact h2) [1, 2, 3, 4, 5] (by decide) (by decide))
       refine WL.new hS633 15 [] (fun g => (pt g)) (.cells #[(.slice none 0 0), (iv 0), (iv 0)] 88 (0, 0)) [] (fun fb g => by kernel_rfl) trivial (fun g634 w635 hS636 => ?_)
       refine ⟨⟨hS636.cell 4 rfl 0 rfl, hS636.cell 4 rfl 1 rfl, hS636.cell 6 rfl 2 rfl, hS636.cell 4 rfl 2 rfl, hS636.cell 6 rfl 0 rfl, trivial⟩, ?_⟩
       refine WL.new hS636 56 [] (fun g => (.slice (some ⟨g, 0, none⟩) 0 0)) (.cells #[] 3 (0, 0)) [] (fun fb g => by kernel_rfl) trivial (fun g637 w638 hS639 => ?_)
       refine ⟨⟨hS639.cell 5 rfl 0 rfl, hS639.cell 5 rfl 1 rfl, hS639.cell 7 rfl 2 rfl, hS639.cell 5 rfl 2 rfl, hS639.cell 7 rfl 0 rfl, trivial⟩, ?_⟩
       have hS640 := hS633.go w638 [rowO 3 encInt (some ⟨g637, 0, none⟩) 0 ([] : List Int), blk g634 (.cells #[(.slice none 0 0), (iv 0), (iv 0)] 88 (0, 0)), rowO 3 encInt (some ⟨g630, 0, none⟩) 1 [x24], rowO 88 encN_Row_ref02 A20 c21 (tag H23 l22), poolO [nestO subN_Row_ref02 H23 l22], blk g6 (.cells #[(sv Ac p2.Cells cc), (iv p2.South), (iv p2.North)] 88 (0, 0)), rowO 3 encInt Ac cc p2.Cells, blk g41 (.cells #[(iv ((rdD p0 x24 z_Tile).N)), (iv ((rdD p0 x24 z_Tile).E)), (iv ((rdD p0 x24 z_Tile).S)), (iv ((rdD p0 x24 z_Tile).W))] 40 (0, 0))] (hS639.map1 0 _ (fun h => rowO.ofBlk h rfl (Nat.le_of_ble_eq_true (by kernel_rfl))) (fun _ h => by obtain ⟨_, h1, h2⟩ := h; injection h1 with h1; subst h1; exact h2) [1, 2, 3, 4, 5, 6, 7] (by decide) (by decide))
       obtain ⟨h641, hx65⟩ := as_some hx65
       refine WL.append hS640 0 (d := 59) (tS := 25) (z := (iv 0)) (bytes := 8) (c2 := cc) rfl (fun fb => by kernel_rfl) (rowO.rd (hS640.own 6).1) (by kernel_rfl) (by kernel_rfl) rfl (by decide) h641 (by decide) [1, 2, 3, 4, 5, 6, 7] (by decide) (by decide) (fun A642 c643 w644 hS645 => ?_)
       refine ⟨⟨hS645.cell 5 rfl 1 rfl, hS645.cell 7 rfl 2 rfl, hS645.cell 5 rfl 2 rfl, hS645.cell 7 rfl 0 rfl, trivial⟩, ?_⟩
       obtain ⟨h646, hx65⟩ := as_some hx65
       refine WL.append hS645 0 (d := 62) (tS := 25) (z := (iv 0)) (bytes := 8) (c2 := 1) rfl (fun fb => by kernel_rfl) (rowO.rd (hS645.own 2).1) (by kernel_rfl) (by kernel_rfl) rfl (by decide) h646 (by decide) [1, 2, 3, 4, 5, 6, 7] (by decide) (by decide) (fun A647 c648 w649 hS650 => ?_)
       refine ⟨⟨hS650.cell 5 rfl 1 rfl, hS650.cell 7 rfl 2 rfl, hS650.cell 5 rfl 2 rfl, hS650.cell 7 rfl 0 rfl, trivial⟩, ?_⟩
       obtain ⟨t651, ht652, hx65⟩ := bind_some hx65
       refine WL.call (some 69) 87 #[(sv Ab p1 cb), (iv ((rdD p0 x24 z_Tile).S))] (fun fb => by kernel_rfl) (ref02_at_calls _ p1 ((rdD p0 x24 z_Tile).S) Ab cb t651 _ (hS650.rd 1) ht652) (fun v w653 hR654 => ?_)
       obtain ⟨rfl, hk_⟩ := hR654
       have hS655 := hS650.keepN hk_
       refine ⟨⟨hS655.cell 5 rfl 1 rfl, hS655.cell 5 rfl 2 rfl, hS655.cell 7 rfl 0 rfl, trivial⟩, ?_⟩
       refine seg 23 [] [0, 1, 3, 4, 5, 8, 13, 15, 62, 71, 73, 74, 75, 77] [(0, (sv Aa p0 ca)), (1, (sv Ab p1 cb)), (3, (iv p3)), (4, (iv p4)), (5, (sv A20 l22 c21)), (8, (pt g6)), (13, (iv x24)), (15, (pt g634)), (62, (sv A647 ((([] : List Int) ++ p2.Cells) ++ [x24]) c648)), (71, (iv (w64 (p2.South + (w64 (p4 * t651)))))), (73, (iv p2.North)), (74, (iv p4)), (75, (sv Ab p1 cb)), (77, (iv ((rdD p0 x24 z_Tile).N)))] [] (fun fb => by kernel_rfl) rfl trivial ?_
       obtain ⟨t656, ht657, hx65⟩ := bind_some hx65
       refine WL.call (some 78) 87 #[(sv Ab p1 cb), (iv ((rdD p0 x24 z_Tile).N))] (fun fb => by kernel_rfl) (ref02_at_calls _ p1 ((rdD p0 x24 z_Tile).N) Ab cb t656 _ (hS655.rd 1) ht657) (fun v w658 hR659 => ?_)
       obtain ⟨rfl, hk_⟩ := hR659
       have hS660 := hS655.keepN hk_
       refine ⟨⟨hS660.cell 5 rfl 1 rfl, hS660.cell 5 rfl 2 rfl, trivial⟩, ?_⟩
       refine seg 27 [] [0, 1, 3, 4, 5, 8, 13, 15, 81] [(0, (sv Aa p0 ca)), (1, (sv Ab p1 cb)), (3, (iv p3)), (4, (iv p4)), (5, (sv A20 l22 c21)), (8, (pt g6)), (13, (iv x24)), (15, (pt g634)), (81, (.agg #[(sv A647 ((([] : List Int) ++ p2.Cells) ++ [x24]) c648), (iv (w64 (p2.South + (w64 (p4 * t651))))), (iv (w64 (p2.North + (w64 (p4 * t656)))))]))] [] (fun fb => by kernel_rfl) rfl trivial ?_
       refine WL.store hS660 1 rfl [(0, (sv A647 ((([] : List Int) ++ p2.Cells) ++ [x24]) c648)), (1, (iv (w64 (p2.South + (w64 (p4 * t651)))))), (2, (iv (w64 (p2.North + (w64 (p4 * t656))))))] #[(sv A647 ((([] : List Int) ++ p2.Cells) ++ [x24]) c648), (iv (w64 (p2.South + (w64 (p4 * t651))))), (iv (w64 (p2.North + (w64 (p4 * t656)))))] (fun fb => by kernel_rfl) (by kernel_rfl) rfl [0, 2, 3, 4, 5, 6, 7] (by decide) (by decide) (fun w661 hS662 => ?_)
       refine ⟨trivial, ?_⟩
       refine WL.done rfl ?_
       injection hx65 with hx65
       exact WX.to Kx63 (((([] : List Int) ++ p2.Cells) ++ [x24], w64 (p2.South + (w64 (p4 * t651))), w64 (p2.North + (w64 (p4 * t656)))), g634, A647, c648) [0, 1, 3, 4, 5, 8, 13, 15] rfl ⟨(hS662.subR [0, 1]).sub [3, 4, 5, 6, 0, 1] (by decide), hx65.symm⟩
      ·
       refine segF 15 [.v (sv Ac p2.Cells cc), .v (iv p2.South), .v (iv ((rdD p0 x24 z_Tile).S)), .v (iv p2.North), .v (iv ((rdD p0 x24 z_Tile).N))] [0, 1, 3, 4, 5, 8, 13, 58, 60, 64, 65, 66, 68, 73, 74, 75, 77] [(0, (sv Aa p0 ca)), (1, (sv Ab p1 cb)), (3, (iv p3)), (4, (iv p4)), (5, (sv A20 l22 c21)), (8, (pt g6)), (13, (iv x24)), (58, (sv Ac p2.Cells cc)), (60, (iv x24)), (64, (iv p2.South)), (65, (iv p4)), (66, (sv Ab p1 cb)), (68, (iv ((rdD p0 x24 z_Tile).S))), (73, (iv p2.North)), (74, (iv p4)), (75, (sv Ab p1 cb)), (77, (iv ((rdD p0 x24 z_Tile).N)))] [] [0, 1, 2, 3, 4] [(2, ⟨g6, 0, none⟩, (sv Ac p2.Cells cc)), (8, ⟨g6, 1, none⟩, (iv p2.South)), (12, ⟨g41, 2, none⟩, (iv ((rdD p0 x24 z_Tile).S))), (17, ⟨g6, 2, none⟩, (iv p2.North)), (21, ⟨g41, 0, none⟩, (iv ((rdD p0 x24 z_Tile).N)))] (fun fb => by kernel_rfl) rfl trivial rfl ?_
       refine WL.new hS67 15 [] (fun g => (pt g)) (.cells #[(.slice none 0 0), (iv 0), (iv 0)] 88 (0, 0)) [] (fun fb g => by kernel_rfl) trivial (fun g663 w664 hS665 => ?_)
       refine ⟨⟨hS665.cell 3 rfl 0 rfl, hS665.cell 3 rfl 1 rfl, hS665.cell 5 rfl 2 rfl, hS665.cell 3 rfl 2 rfl, hS665.cell 5 rfl 0 rfl, trivial⟩, ?_⟩
       refine WL.new hS665 56 [] (fun g => (.slice (some ⟨g, 0, none⟩) 0 0)) (.cells #[] 3 (0, 0)) [] (fun fb g => by kernel_rfl) trivial (fun g666 w667 hS668 => ?_)
       refine ⟨⟨hS668.cell 4 rfl 0 rfl, hS668.cell 4 rfl 1 rfl, hS668.cell 6 rfl 2 rfl, hS668.cell 4 rfl 2 rfl, hS668.cell 6 rfl 0 rfl, trivial⟩, ?_⟩
       have hS669 := hS.go w667 [rowO 3 encInt (some ⟨g666, 0, none⟩) 0 ([] : List Int), blk g663 (.cells #[(.slice none 0 0), (iv 0), (iv 0)] 88 (0, 0)), rowO 88 encN_Row_ref02 A20 c21 (tag H23 l22), poolO [nestO subN_Row_ref02 H23 l22], blk g6 (.cells #[(sv Ac p2.Cells cc), (iv p2.South), (iv p2.North)] 88 (0, 0)), rowO 3 encInt Ac cc p2.Cells, blk g41 (.cells #[(iv ((rdD p0 x24 z_Tile).N)), (iv ((rdD p0 x24 z_Tile).E)), (iv ((rdD p0 x24 z_Tile).S)), (iv ((rdD p0 x24 z_Tile).W))] 40 (0, 0))] (hS668.map1 0 _ (fun h => rowO.ofBlk h rfl (Nat.le_of_ble_eq_true (by kernel_rfl))) (fun _ h => by obtain ⟨_, h1, h2⟩ := h; injection h1 with h1; subst h1; exact h2) [1, 2, 3, 4, 5, 6] (by decide) (by decide))
       obtain ⟨h670, hx65⟩ := as_some hx65
       refine WL.append hS669 0 (d := 59) (tS := 25) (z := (iv 0)) (bytes := 8) (c2 := cc) rfl (fun fb => by kernel_rfl) (rowO.rd (hS669.own 5).1) (by kernel_rfl) (by kernel_rfl) rfl (by decide) h670 (by decide) [1, 2, 3, 4, 5, 6] (by decide) (by decide) (fun A671 c672 w673 hS674 => ?_)
       refine ⟨⟨hS674.cell 4 rfl 1 rfl, hS674.cell 6 rfl 2 rfl, hS674.cell 4 rfl 2 rfl, hS674.cell 6 rfl 0 rfl, trivial⟩, ?_⟩
       refine WL.new hS674 61 [] (fun g => (.slice (some ⟨g, 0, none⟩) 1 1)) (.cells #[(iv x24)] 3 (0, 0)) [] (fun fb g => by kernel_rfl) trivial (fun g675 w676 hS677 => ?_)
       refine ⟨⟨hS677.cell 5 rfl 0 rfl, hS677.cell 5 rfl 1 rfl, hS677.cell 7 rfl 2 rfl, hS677.cell 5 rfl 2 rfl, hS677.cell 7 rfl 0 rfl, trivial⟩, ?_⟩
       have hS678 := hS669.go w676 [rowO 3 encInt (some ⟨g675, 0, none⟩) 1 [x24], rowO 3 encInt A671 c672 (([] : List Int) ++ p2.Cells), blk g663 (.cells #[(.slice none 0 0), (iv 0), (iv 0)] 88 (0, 0)), rowO 88 encN_Row_ref02 A20 c21 (tag H23 l22), poolO [nestO subN_Row_ref02 H23 l22], blk g6 (.cells #[(sv Ac p2.Cells cc), (iv p2.South), (iv p2.North)] 88 (0, 0)), rowO 3 encInt Ac cc p2.Cells, blk g41 (.cells #[(iv ((rdD p0 x24 z_Tile).N)), (iv ((rdD p0 x24 z_Tile).E)), (iv ((rdD p0 x24 z_Tile).S)), (iv ((rdD p0 x24 z_Tile).W))] 40 (0, 0))] (hS677.map1 0 _ (fun h => rowO.ofBlk h rfl (Nat.le_of_ble_eq_true (by kernel_rfl))) (fun _ h => by obtain ⟨_, h1, h2⟩ := h; injection h1 with h1; subst h1; exact h2) [1, 2, 3, 4, 5, 6, 7] (by decide) (by decide))
       obtain ⟨h679, hx65⟩ := as_some hx65
       refine WL.append hS678 1 (d := 62) (tS := 25) (z := (iv 0)) (bytes := 8) (c2 := 1) rfl (fun fb => by kernel_rfl) (rowO.rd (hS678.own 0).1) (by kernel_rfl) (by kernel_rfl) rfl (by decide) h679 (by decide) [0, 2, 3, 4, 5, 6, 7] (by decide) (by decide) (fun A680 c681 w682 hS683 => ?_)
       refine ⟨⟨hS683.cell 5 rfl 1 rfl, hS683.cell 7 rfl 2 rfl, hS683.cell 5 rfl 2 rfl, hS683.cell 7 rfl 0 rfl, trivial⟩, ?_⟩
       obtain ⟨t684, ht685, hx65⟩ := bind_some hx65
       refine WL.call (some 69) 87 #[(sv Ab p1 cb), (iv ((rdD p0 x24 z_Tile).S))] (fun fb => by kernel_rfl) (ref02_at_calls _ p1 ((rdD p0 x24 z_Tile).S) Ab cb t684 _ (hS683.rd 1) ht685) (fun v w686 hR687 => ?_)
       obtain ⟨rfl, hk_⟩ := hR687
       have hS688 := hS683.keepN hk_
       refine ⟨⟨hS688.cell 5 rfl 1 rfl, hS688.cell 5 rfl 2 rfl, hS688.cell 7 rfl 0 rfl, trivial⟩, ?_⟩
       refine seg 23 [] [0, 1, 3, 4, 5, 8, 13, 15, 62, 71, 73, 74, 75, 77] [(0, (sv Aa p0 ca)), (1, (sv Ab p1 cb)), (3, (iv p3)), (4, (iv p4)), (5, (sv A20 l22 c21)), (8, (pt g6)), (13, (iv x24)), (15, (pt g663)), (62, (sv A680 ((([] : List Int) ++ p2.Cells) ++ [x24]) c681)), (71, (iv (w64 (p2.South + (w64 (p4 * t684)))))), (73, (iv p2.North)), (74, (iv p4)), (75, (sv Ab p1 cb)), (77, (iv ((rdD p0 x24 z_Tile).N)))] [] (fun fb => by kernel_rfl) rfl trivial ?_
       obtain ⟨t689, ht690, hx65⟩ := bind_some hx65
       refine WL.call (some 78) 87 #[(sv Ab p1 cb), (iv ((rdD p0 x24 z_Tile).N))] (fun fb => by kernel_rfl) (ref02_at_calls _ p1 ((rdD p0 x24 z_Tile).N) Ab cb t689 _ (hS688.rd 1) ht690) (fun v w691 hR692 => ?_)
       obtain ⟨rfl, hk_⟩ := hR692
       have hS693 := hS688.keepN hk_
       refine ⟨⟨hS693.cell 5 rfl 1 rfl, hS693.cell 5 rfl 2 rfl, trivial⟩, ?_⟩
       refine seg 27 [] [0, 1, 3, 4, 5, 8, 13, 15, 81] [(0, (sv Aa p0 ca)), (1, (sv Ab p1 cb)), (3, (iv p3)), (4, (iv p4)), (5, (sv A20 l22 c21)), (8, (pt g6)), (13, (iv x24)), (15, (pt g663)), (81, (.agg #[(sv A680 ((([] : List Int) ++ p2.Cells) ++ [x24]) c681), (iv (w64 (p2.South + (w64 (p4 * t684))))), (iv (w64 (p2.North + (w64 (p4 * t689)))))]))] [] (fun fb => by kernel_rfl) rfl trivial ?_
       refine WL.store hS693 2 rfl [(0, (sv A680 ((([] : List Int) ++ p2.Cells) ++ [x24]) c681)), (1, (iv (w64 (p2.South + (w64 (p4 * t684)))))), (2, (iv (w64 (p2.North + (w64 (p4 * t689))))))] #[(sv A680 ((([] : List Int) ++ p2.Cells) ++ [x24]) c681), (iv (w64 (p2.South + (w64 (p4 * t684))))), (iv (w64 (p2.North + (w64 (p4 * t689)))))] (fun fb => by kernel_rfl) (by kernel_rfl) rfl [0, 1, 3, 4, 5, 6, 7] (by decide) (by decide) (fun w694 hS695 => ?_)
       refine ⟨trivial, ?_⟩
       refine WL.done rfl ?_
       injection hx65 with hx65
       exact WX.to Kx63 (((([] : List Int) ++ p2.Cells) ++ [x24], w64 (p2.South + (w64 (p4 * t684))), w64 (p2.North + (w64 (p4 * t689)))), g663, A680, c681) [0, 1, 3, 4, 5, 8, 13, 15] rfl ⟨(hS695.subR [0, 1]).sub [3, 4, 5, 6, 0, 1] (by decide), hx65.symm⟩
      ·
       refine segF 15 [.v (sv Ac p2.Cells cc), .v (iv p2.South), .v (iv ((rdD p0 x24 z_Tile).S)), .v (iv p2.North), .v (iv ((rdD p0 x24 z_Tile).N))] [0, 1, 3, 4, 5, 8, 13, 58, 60, 64, 65, 66, 68, 73, 74, 75, 77] [(0, (sv Aa p0 ca)), (1, (sv Ab p1 cb)), (3, (iv p3)), (4, (iv p4)), (5, (sv A20 l22 c21)), (8, (pt g6)), (13, (iv x24)), (58, (sv Ac p2.Cells cc)), (60, (iv x24)), (64, (iv p2.South)), (65, (iv p4)), (66, (sv Ab p1 cb)), (68, (iv ((rdD p0 x24 z_Tile).S))), (73, (iv p2.North)), (74, (iv p4)), (75, (sv Ab p1 cb)), (77, (iv ((rdD p0 x24 z_Tile).N)))] [] [0, 1, 2, 3, 4] [(2, ⟨g6, 0, none⟩, (sv Ac p2.Cells cc)), (8, ⟨g6, 1, none⟩, (iv p2.South)), (12, ⟨g41, 2, none⟩, (iv ((rdD p0 x24 z_Tile).S))), (17, ⟨g6, 2, none⟩, (iv p2.North)), (21, ⟨g41, 0, none⟩, (iv ((rdD p0 x24 z_Tile).N)))] (fun fb => by kernel_rfl) rfl trivial rfl ?_
       refine WL.new hS67 15 [] (fun g => (pt g)) (.cells #[(.slice none 0 0), (iv 0), (iv 0)] 88 (0, 0)) [] (fun fb g => by kernel_rfl) trivial (fun g696 w697 hS698 => ?_)
       refine ⟨⟨hS698.cell 3 rfl 0 rfl, hS698.cell 3 rfl 1 rfl, hS698.cell 5 rfl 2 rfl, hS698.cell 3 rfl 2 rfl, hS698.cell 5 rfl 0 rfl, trivial⟩, ?_⟩
       refine WL.new hS698 56 [] (fun g => (.slice (some ⟨g, 0, none⟩) 0 0)) (.cells #[] 3 (0, 0)) [] (fun fb g => by kernel_rfl) trivial (fun g699 w700 hS701 => ?_)
       refine ⟨⟨hS701.cell 4 rfl 0 rfl, hS701.cell 4 rfl 1 rfl, hS701.cell 6 rfl 2 rfl, hS701.cell 4 rfl 2 rfl, hS701.cell 6 rfl 0 rfl, trivial⟩, ?_⟩
       have hS702 := hS.go w700 [rowO 3 encInt (some ⟨g699, 0, none⟩) 0 ([] : List Int), blk g696 (.cells #[(.slice none 0 0), (iv 0), (iv 0)] 88 (0, 0)), rowO 88 encN_Row_ref02 A20 c21 (tag H23 l22), poolO [nestO subN_Row_ref02 H23 l22], blk g6 (.cells #[(sv Ac p2.Cells cc), (iv p2.South), (iv p2.North)] 88 (0, 0)), rowO 3 encInt Ac cc p2.Cells, blk g41 (.cells #[(iv ((rdD p0 x24 z_Tile).N)), (iv ((rdD p0 x24 z_Tile).E)), (iv ((rdD p0 x24 z_Tile).S)), (iv ((rdD p0 x24 z_Tile).W))] 40 (0, 0))] (hS701.map1 0 _ (fun h => rowO.ofBlk h rfl (Nat.le_of_ble_eq_true (by kernel_rfl))) (fun _ h => by obtain ⟨_, h1, h2⟩ := h; injection h1 with h1; subst h1; exact h2) [1, 2, 3, 4, 5, 6] (by decide) (by decide))
       refine WL.new hS702 61 [] (fun g => (.slice (some ⟨g, 0, none⟩) 1 1)) (.cells #[(iv x24)] 3 (0, 0)) [] (fun fb g => by kernel_rfl) trivial (fun g703 w704 hS705 => ?_)
       refine ⟨⟨hS705.cell 5 rfl 0 rfl, hS705.cell 5 rfl 1 rfl, hS705.cell 7 rfl 2 rfl, hS705.cell 5 rfl 2 rfl, hS705.cell 7 rfl 0 rfl, trivial⟩, ?_⟩
       have hS706 := hS702.go w704 [rowO 3 encInt (some ⟨g703, 0, none⟩) 1 [x24], rowO 3 encInt (some ⟨g699, 0, none⟩) 0 ([] : List Int), blk g696 (.cells #[(.slice none 0 0), (iv 0), (iv 0)] 88 (0, 0)), rowO 88 encN_Row_ref02 A20 c21 (tag H23 l22), poolO [nestO subN_Row_ref02 H23 l22], blk g6 (.cells #[(sv Ac p2.Cells cc), (iv p2.South), (iv p2.North)] 88 (0, 0)), rowO 3 encInt Ac cc p2.Cells, blk g41 (.cells #[(iv ((rdD p0 x24 z_Tile).N)), (iv ((rdD p0 x24 z_Tile).E)), (iv ((rdD p0 x24 z_Tile).S)), (iv ((rdD p0 x24 z_Tile).W))] 40 (0, 0))] (hS705.map1 0 _ (fun h => rowO.ofBlk h rfl (Nat.le_of_ble_eq_true (by kernel_rfl))) (fun _ h => by obtain ⟨_, h1, h2⟩ := h; injection h1 with h1; subst h1; exact h2) [1, 2, 3, 4, 5, 6, 7] (by decide) (by decide))
       obtain ⟨h707, hx65⟩ := as_some hx65
       refine WL.append hS706 1 (d := 59) (tS := 25) (z := (iv 0)) (bytes := 8) (c2 := cc) rfl (fun fb => by kernel_rfl) (rowO.rd (hS706.own 6).1) (by kernel_rfl) (by kernel_rfl) rfl (by decide) h707 (by decide) [0, 2, 3, 4, 5, 6, 7] (by decide) (by decide) (fun A708 c709 w710 hS711 => ?_)
       refine ⟨⟨hS711.cell 5 rfl 1 rfl, hS711.cell 7 rfl 2 rfl, hS711.cell 5 rfl 2 rfl, hS711.cell 7 rfl 0 rfl, trivial⟩, ?_⟩
       obtain ⟨h712, hx65⟩ := as_some hx65
       refine WL.append hS711 0 (d := 62) (tS := 25) (z := (iv 0)) (bytes := 8) (c2 := 1) rfl (fun fb => by kernel_rfl) (rowO.rd (hS711.own 1).1) (by kernel_rfl) (by kernel_rfl) rfl (by decide) h712 (by decide) [1, 2, 3, 4, 5, 6, 7] (by decide) (by decide) (fun A713 c714 w715 hS716 => ?_)
       refine ⟨⟨hS716.cell 5 rfl 1 rfl, hS716.cell 7 rfl 2 rfl, hS716.cell 5 rfl 2 rfl, hS716.cell 7 rfl 0 rfl, trivial⟩, ?_⟩
       obtain ⟨t717, ht718, hx65⟩ := bind_some hx65
       refine WL.call (some 69) 87 #[(sv Ab p1 cb), (iv ((rdD p0 x24 z_Tile).S))] (fun fb => by kernel_rfl) (ref02_at_calls _ p1 ((rdD p0 x24 z_Tile).S) Ab cb t717 _ (hS716.rd 1) ht718) (fun v w719 hR720 => ?_)
       obtain ⟨rfl, hk_⟩ := hR720
       have hS721 := hS716.keepN hk_
       refine ⟨⟨hS721.cell 5 rfl 1 rfl, hS721.cell 5 rfl 2 rfl, hS721.cell 7 rfl 0 rfl, trivial⟩, ?_⟩
       refine seg 23 [] [0, 1, 3, 4, 5, 8, 13, 15, 62, 71, 73, 74, 75, 77] [(0, (sv Aa p0 ca)), (1, (sv Ab p1 cb)), (3, (iv p3)), (4, (iv p4)), (5, (sv A20 l22 c21)), (8, (pt g6)), (13, (iv x24)), (15, (pt g696)), (62, (sv A713 ((([] : List Int) ++ p2.Cells) ++ [x24]) c714)), (71, (iv (w64 (p2.South + (w64 (p4 * t717)))))), (73, (iv p2.North)), (74, (iv p4)), (75, (sv Ab p1 cb)), (77, (iv ((rdD p0 x24 z_Tile).N)))] [] (fun fb => by kernel_rfl) rfl trivial ?_
       obtain ⟨t722, ht723, hx65⟩ := bind_some hx65
       refine WL.call (some 78) 87 #[(sv Ab p1 cb), (iv ((rdD p0 x24 z_Tile).N))] (fun fb => by kernel_rfl) (ref02_at_calls _ p1 ((rdD p0 x24 z_Tile).N) Ab cb t722 _ (hS721.rd 1) ht723) (fun v w724 hR725 => ?_)
       obtain ⟨rfl, hk_⟩ := hR725
       have hS726 := hS721.keepN hk_
       refine ⟨⟨hS726.cell 5 rfl 1 rfl, hS726.cell 5 rfl 2 rfl, trivial⟩, ?_⟩
       refine seg 27 [] [0, 1, 3, 4, 5, 8, 13, 15, 81] [(0, (sv Aa p0 ca)), (1, (sv Ab p1 cb)), (3, (iv p3)), (4, (iv p4)), (5, (sv A20 l22 c21)), (8, (pt g6)), (13, (iv x24)), (15, (pt g696)), (81, (.agg #[(sv A713 ((([] : List Int) ++ p2.Cells) ++ [x24]) c714), (iv (w64 (p2.South + (w64 (p4 * t717))))), (iv (w64 (p2.North + (w64 (p4 * t722)))))]))] [] (fun fb => by kernel_rfl) rfl trivial ?_
       refine WL.store hS726 2 rfl [(0, (sv A713 ((([] : List Int) ++ p2.Cells) ++ [x24]) c714)), (1, (iv (w64 (p2.South + (w64 (p4 * t717)))))), (2, (iv (w64 (p2.North + (w64 (p4 * t722))))))] #[(sv A713 ((([] : List Int) ++ p2.Cells) ++ [x24]) c714), (iv (w64 (p2.South + (w64 (p4 * t717))))), (iv (w64 (p2.North + (w64 (p4 * t722)))))] (fun fb => by kernel_rfl) (by kernel_rfl) rfl [0, 1, 3, 4, 5, 6, 7] (by decide) (by decide) (fun w727 hS728 => ?_)
       refine ⟨trivial, ?_⟩
       refine WL.done rfl ?_
       injection hx65 with hx65
       exact WX.to Kx63 (((([] : List Int) ++ p2.Cells) ++ [x24], w64 (p2.South + (w64 (p4 * t717))), w64 (p2.North + (w64 (p4 * t722)))), g696, A713, c714) [0, 1, 3, 4, 5, 8, 13, 15] rfl ⟨(hS728.subR [0, 1]).sub [3, 4, 5, 6, 0, 1] (by decide), hx65.symm⟩
      refine segF 15 [.v (sv Ac p2.Cells cc), .v (iv p2.South), .v (iv ((rdD p0 x24 z_Tile).S)), .v (iv p2.North), .v (iv ((rdD p0 x24 z_Tile).N))] [0, 1, 3, 4, 5, 8, 13, 58, 60, 64, 65, 66, 68, 73, 74, 75, 77] [(0, (sv Aa p0 ca)), (1, (sv Ab p1 cb)), (3, (iv p3)), (4, (iv p4)), (5, (sv A20 l22 c21)), (8, (pt g6)), (13, (iv x24)), (58, (sv Ac p2.Cells cc)), (60, (iv x24)), (64, (iv p2.South)), (65, (iv p4)), (66, (sv Ab p1 cb)), (68, (iv ((rdD p0 x24 z_Tile).S))), (73, (iv p2.North)), (74, (iv p4)), (75, (sv Ab p1 cb)), (77, (iv ((rdD p0 x24 z_Tile).N)))] [] [0, 1, 2, 3, 4] [(2, ⟨g6, 0, none⟩, (sv Ac p2.Cells cc)), (8, ⟨g6, 1, none⟩, (iv p2.South)), (12, ⟨g41, 2, none⟩, (iv ((rdD p0 x24 z_Tile).S))), (17, ⟨g6, 2, none⟩, (iv p2.North)), (21, ⟨g41, 0, none⟩, (iv ((rdD p0 x24 z_Tile).N)))] (fun fb => by kernel_rfl) rfl trivial rfl ?_
      refine WL.new hS67 15 [] (fun g => (pt g)) (.cells #[(.slice none 0 0), (iv 0), (iv 0)] 88 (0, 0)) [] (fun fb g => by kernel_rfl) trivial (fun g729 w730 hS731 => ?_)
      refine ⟨⟨hS731.cell 3 rfl 0 rfl, hS731.cell 3 rfl 1 rfl, hS731.cell 5 rfl 2 rfl, hS731.cell 3 rfl 2 rfl, hS731.cell 5 rfl 0 rfl, trivial⟩, ?_⟩
      refine WL.new hS731 61 [] (fun g => (.slice (some ⟨g, 0, none⟩) 1 1)) (.cells #[(iv x24)] 3 (0, 0)) [] (fun fb g => by kernel_rfl) trivial (fun g732 w733 hS734 => ?_)
      refine ⟨⟨hS734.cell 4 rfl 0 rfl, hS734.cell 4 rfl 1 rfl, hS734.cell 6 rfl 2 rfl, hS734.cell 4 rfl 2 rfl, hS734.cell 6 rfl 0 rfl, trivial⟩, ?_⟩
      have hS735 := hS.go w733 [rowO 3 encInt (some ⟨g732, 0, none⟩) 1 [x24], blk g729 (.cells #[(.slice none 0 0), (iv 0), (iv 0)] 88 (0, 0)), rowO 88 encN_Row_ref02 A20 c21 (tag H23 l22), poolO [nestO subN_Row_ref02 H23 l22], blk g6 (.cells #[(sv Ac p2.Cells cc), (iv p2.South), (iv p2.North)] 88 (0, 0)), rowO 3 encInt Ac cc p2.Cells, blk g41 (.cells #[(iv ((rdD p0 x24 z_Tile).N)), (iv ((rdD p0 x24 z_Tile).E)), (iv ((rdD p0 x24 z_Tile).S)), (iv ((rdD p0 x24 z_Tile).W))] 40 (0, 0))] (hS734.map1 0 _ (fun h => rowO.ofBlk h rfl (Nat.le_of_ble_eq_true (by kernel_rfl))) (fun _ h => by obtain ⟨_, h1, h2⟩ := h; injection h1 with h1; subst h1; exact h2) [1, 2, 3, 4, 5, 6] (by decide) (by decide))
      refine WL.new hS735 56 [] (fun g => (.slice (some ⟨g, 0, none⟩) 0 0)) (.cells #[] 3 (0, 0)) [] (fun fb g => by kernel_rfl) trivial (fun g736 w737 hS738 => ?_)
      refine ⟨⟨hS738.cell 5 rfl 0 rfl, hS738.cell 5 rfl 1 rfl, hS738.cell 7 rfl 2 rfl, hS738.cell 5 rfl 2 rfl, hS738.cell 7 rfl 0 rfl, trivial⟩, ?_⟩
      have hS739 := hS735.go w737 [rowO 3 encInt (some ⟨g736, 0, none⟩) 0 ([] : List Int), rowO 3 encInt (some ⟨g732, 0, none⟩) 1 [x24], blk g729 (.cells #[(.slice none 0 0), (iv 0), (iv 0)] 88 (0, 0)), rowO 88 encN_Row_ref02 A20 c21 (tag H23 l22), poolO [nestO subN_Row_ref02 H23 l22], blk g6 (.cells #[(sv Ac p2.Cells cc), (iv p2.South), (iv p2.North)] 88 (0, 0)), rowO 3 encInt Ac cc p2.Cells, blk g41 (.cells #[(iv ((rdD p0 x24 z_Tile).N)), (iv ((rdD p0 x24 z_Tile).E)), (iv ((rdD p0 x24 z_Tile).S)), (iv ((rdD p0 x24 z_Tile).W))] 40 (0, 0))] (hS738.map1 0 _ (fun h => rowO.ofBlk h rfl (Nat.le_of_ble_eq_true (by kernel_rfl))) (fun _ h => by obtain ⟨_, h1, h2⟩ := h; injection h1 with h1; subst h1; exact h2) [1, 2, 3, 4, 5, 6, 7] (by decide) (by decide))
      obtain ⟨h740, hx65⟩ := as_some hx65
      refine WL.append hS739 0 (d := 59) (tS := 25) (z := (iv 0)) (bytes := 8) (c2 := cc) rfl (fun fb => by kernel_rfl) (rowO.rd (hS739.own 6).1) (by kernel_rfl) (by kernel_rfl) rfl (by decide) h740 (by decide) [1, 2, 3, 4, 5, 6, 7] (by decide) (by decide) (fun A741 c742 w743 hS744 => ?_)
      refine ⟨⟨hS744.cell 5 rfl 1 rfl, hS744.cell 7 rfl 2 rfl, hS744.cell 5 rfl 2 rfl, hS744.cell 7 rfl 0 rfl, trivial⟩, ?_⟩
      obtain ⟨h745, hx65⟩ := as_some hx65
      refine WL.append hS744 0 (d := 62) (tS := 25) (z := (iv 0)) (bytes := 8) (c2 := 1) rfl (fun fb => by kernel_rfl) (rowO.rd (hS744.own 1).1) (by kernel_rfl) (by kernel_rfl) rfl (by decide) h745 (by decide) [1, 2, 3, 4, 5, 6, 7] (by decide) (by decide) (fun A746 c747 w748 hS749 => ?_)
      refine ⟨⟨hS749.cell 5 rfl 1 rfl, hS749.cell 7 rfl 2 rfl, hS749.cell 5 rfl 2 rfl, hS749.cell 7 rfl 0 rfl, trivial⟩, ?_⟩
      obtain ⟨t750, ht751, hx65⟩ := bind_some hx65
      refine WL.call (some 69) 87 #[(sv Ab p1 cb), (iv ((rdD p0 x24 z_Tile).S))] (fun fb => by kernel_rfl) (ref02_at_calls _ p1 ((rdD p0 x24 z_Tile).S) Ab cb t750 _ (hS749.rd 1) ht751) (fun v w752 hR753 => ?_)
      obtain ⟨rfl, hk_⟩ := hR753
      have hS754 := hS749.keepN hk_
      refine ⟨⟨hS754.cell 5 rfl 1 rfl, hS754.cell 5 rfl 2 rfl, hS754.cell 7 rfl 0 rfl, trivial⟩, ?_⟩
      refine seg 23 [] [0, 1, 3, 4, 5, 8, 13, 15, 62, 71, 73, 74, 75, 77] [(0, (sv Aa p0 ca)), (1, (sv Ab p1 cb)), (3, (iv p3)), (4, (iv p4)), (5, (sv A20 l22 c21)), (8, (pt g6)), (13, (iv x24)), (15, (pt g729)), (62, (sv A746 ((([] : List Int) ++ p2.Cells) ++ [x24]) c747)), (71, (iv (w64 (p2.South + (w64 (p4 * t750)))))), (73, (iv p2.North)), (74, (iv p4)), (75, (sv Ab p1 cb)), (77, (iv ((rdD p0 x24 z_Tile).N)))] [] (fun fb => by kernel_rfl) rfl trivial ?_
      obtain ⟨t755, ht756, hx65⟩ := bind_some hx65
      refine WL.call (some 78) 87 #[(sv Ab p1 cb), (iv ((rdD p0 x24 z_Tile).N))] (fun fb => by kernel_rfl) (ref02_at_calls _ p1 ((rdD p0 x24 z_Tile).N) Ab cb t755 _ (hS754.rd 1) ht756) (fun v w757 hR758 => ?_)
      obtain ⟨rfl, hk_⟩ := hR758
      have hS759 := hS754.keepN hk_
      refine ⟨⟨hS759.cell 5 rfl 1 rfl, hS759.cell 5 rfl 2 rfl, trivial⟩, ?_⟩
      refine seg 27 [] [0, 1, 3, 4, 5, 8, 13, 15, 81] [(0, (sv Aa p0 ca)), (1, (sv Ab p1 cb)), (3, (iv p3)), (4, (iv p4)), (5, (sv A20 l22 c21)), (8, (pt g6)), (13, (iv x24)), (15, (pt g729)), (81, (.agg #[(sv A746 ((([] : List Int) ++ p2.Cells) ++ [x24]) c747), (iv (w64 (p2.South + (w64 (p4 * t750))))), (iv (w64 (p2.North + (w64 (p4 * t755)))))]))] [] (fun fb => by kernel_rfl) rfl trivial ?_
      refine WL.store hS759 2 rfl [(0, (sv A746 ((([] : List Int) ++ p2.Cells) ++ [x24]) c747)), (1, (iv (w64 (p2.South + (w64 (p4 * t750)))))), (2, (iv (w64 (p2.North + (w64 (p4 * t755))))))] #[(sv A746 ((([] : List Int) ++ p2.Cells) ++ [x24]) c747), (iv (w64 (p2.South + (w64 (p4 * t750))))), (iv (w64 (p2.North + (w64 (p4 * t755)))))] (fun fb => by kernel_rfl) (by kernel_rfl) rfl [0, 1, 3, 4, 5, 6, 7] (by decide) (by decide) (fun w760 hS761 => ?_)
      refine ⟨trivial, ?_⟩
      refine WL.done rfl ?_
      injection hx65 with hx65
      exact WX.to Kx63 (((([] : List Int) ++ p2.Cells) ++ [x24], w64 (p2.South + (w64 (p4 * t750))), w64 (p2.North + (w64 (p4 * t755)))), g729, A746, c747) [0, 1, 3, 4, 5, 8, 13, 15] rfl ⟨(hS761.subR [0, 1]).sub [3, 4, 5, 6, 0, 1] (by decide), hx65.symm⟩
     rintro ⟨y765, g60, A61, c62⟩ w762 ⟨hS763, hq764⟩
     subst hq764
     refine WX.next (WC.region ?_)
     refine seg 9 [.v (sv A61 x63.1 c62), .v (iv x63.2.1), .v (iv x63.2.2)] [0, 1, 3, 4, 8, 13, 82, 83, 84, 85, 89, 90] [(0, (sv Aa p0 ca)), (1, (sv Ab p1 cb)), (3, (iv p3)), (4, (iv p4)), (8, (pt g6)), (13, (iv x24)), (82, (sv Aa p0 ca)), (83, (sv Ab p1 cb)), (84, (.agg #[(sv A61 x63.1 c62), (iv x63.2.1), (iv x63.2.2)])), (85, (iv p3)), (89, (iv (w64 (p4 * (p1.length : Int))))), (90, (sv A20 l22 c21))] [.cell ⟨g60, 0, none⟩ (sv A61 x63.1 c62), .cell ⟨g60, 1, none⟩ (iv x63.2.1), .cell ⟨g60, 2, none⟩ (iv x63.2.2)] (fun fb => by kernel_rfl) rfl ⟨hS763.cell 4 rfl 0 rfl, hS763.cell 4 rfl 1 rfl, hS763.cell 4 rfl 2 rfl, trivial⟩ ?_
     obtain ⟨t766, ht767, hx39⟩ := bind_some hx39
     refine WL.call (some 91) 85 #[(sv Aa p0 ca), (sv Ab p1 cb), (.agg #[(sv A61 x63.1 c62), (iv x63.2.1), (iv x63.2.2)]), (iv p3), (iv (w64 (p4 * (p1.length : Int)))), (sv A20 l22 c21)] (fun fb => by kernel_rfl) (ih_ p0 p1 (Row_ref02.mk x63.1 x63.2.1 x63.2.2) p3 (w64 (p4 * (p1.length : Int))) l22 Aa ca Ab cb A61 c62 A20 c21 H23 t766 _ (hS763.rdT [5, 0, 1] 0) (hS763.rdT [5, 0, 1] 1) (hS763.io [5, 0, 1] (by decide)) ht767) (fun v w768 hR769 => ?_)
     obtain ⟨A771, c772, H773, rfl, hk_⟩ := hR769
     have hS770 := hS.go w768 [rowO 88 encN_Row_ref02 A771 c772 (tag H773 t766), poolO [nestO subN_Row_ref02 H773 t766], blk g6 (.cells #[(sv Ac p2.Cells cc), (iv p2.South), (iv p2.North)] 88 (0, 0)), rowO 3 encInt Ac cc p2.Cells, blk g60 (.cells #[(sv A61 x63.1 c62), (iv x63.2.1), (iv x63.2.2)] 88 (0, 0))] (hS763.call hk_ [5, 0, 1] [2, 3, 4] (fun g hg => fpL_sel g hg) (by decide) (by decide))
     refine ⟨trivial, ?_⟩
     refine seg 11 [] [0, 1, 3, 4, 5, 8, 13] [(0, (sv Aa p0 ca)), (1, (sv Ab p1 cb)), (3, (iv p3)), (4, (iv p4)), (5, (sv A771 t766 c772)), (8, (pt g6)), (13, (iv x24))] [] (fun fb => by kernel_rfl) rfl trivial ?_
     refine WL.done rfl ?_
     injection hx39 with hx39
     exact WX.blockN (WX.to Kx38 (t766, A771, c772, H773) [0, 1, 3, 4, 5, 8, 13] rfl ⟨(hS770.subR [0, 1]).sub [0, 1, 2, 3] (by decide), hx39.symm⟩)
    rintro ⟨y777, A35, c36, H37⟩ w774 ⟨hS775, hq776⟩
    subst hq776
    refine WX.next (WC.region ?_)
    refine seg 3 [] [0, 1, 3, 4, 5, 8, 13] [(0, (sv Aa p0 ca)), (1, (sv Ab p1 cb)), (3, (iv p3)), (4, (iv p4)), (5, (sv A35 x38 c36)), (8, (pt g6)), (13, (iv (w64 (x24 + 1))))] [] (fun fb => by kernel_rfl) rfl trivial ?_
    refine WL.done rfl ?_
    exact WX.again k30 (Nat.lt_succ_self _) ((x38, w64 (x24 + 1)), A35, c36, H37) [0, 1, 3, 4, 5, 8, 13] rfl ⟨(hS775.subR [0, 1]).sub [0, 1, 2, 3] (by decide), hl33⟩
   refine WC.condF2 (fun fb => by kernel_rfl) h34 ?_
   refine WC.exit ?_
   injection hl33 with hl33
   exact WX.thenX (WX.thenX (WX.blockHere (WX.to Kx28 (l22, A20, c21, H23) [5] rfl ⟨(hS32.subR [0, 1]).sub [0, 1] (by decide), hl33.symm⟩)))
 rintro ⟨y781, A25, c26, H27⟩ w778 ⟨hS779, hq780⟩
 subst hq780
 refine WX.next (WC.seq (WC.region ?_))
 refine seg 2 [] [12] [(12, (sv A25 x28 c26))] [] (fun fb => by kernel_rfl) rfl trivial ?_
 refine WL.done rfl (WX.next ?_)
 refine WC.ret ?_
 injection hf with hf
 subst hf
 exact WX.ret_ [] (sv A25 x28 c26) [] (fun fb => by kernel_rfl) trivial ⟨_, rfl, A25, c26, H27, rfl, (hS779.sub [0, 1] (by decide)).noR⟩
theorem ref02_Rows_calls (k : Nat) (p0 : List Tile) (p1 : Int) (Aa : Option Addr) (ca : Nat) (r : (List Row_ref02)) (w : World) (hR0 : RO NoS w (rowR enc_Tile Aa ca p0)) (hf : ref02_Rows k p0 p1 = some r) :
  CallsR Tryd.prog 62 #[(sv Aa p0 ca), (iv p1)] w (fun v w' => ∃ (A1_ : Option Addr), ∃ (c1_ : Nat), ∃ (h1_ : Nat → HF), v = (sv A1_ r c1_) ∧ St NoS w w' [] [rowO 88 encN_Row_ref02 A1_ c1_ (tag h1_ r), poolO [nestO subN_Row_ref02 h1_ r]]) := by
 have hS : St NoS w w [rowR enc_Tile Aa ca p0] [] := St.init (ro_cons hR0 (ro_nil _ _))
 refine enter 11 Tryd.func62 rfl Tryd.ntmps62 rfl ?_
 unfold ref02_Rows at hf
 refine WC.seq (WC.region ?_)
 refine seg 1 [] [0, 1] [(0, (sv Aa p0 ca)), (1, (iv p1))] [] (fun fb => by kernel_rfl) rfl trivial ?_
 refine WL.done rfl (WX.next (WC.seq (WC.region ?_)))
 refine seg 2 [] [1, 5, 6] [(1, (iv p1)), (5, (sv Aa p0 ca)), (6, (sv Aa p0 ca))] [] (fun fb => by kernel_rfl) rfl trivial ?_
 obtain ⟨t3, ht4, hf⟩ := bind_some hf
 refine WL.call (some 7) 38 #[(sv Aa p0 ca)] (fun fb => by kernel_rfl) (ref02_Colours_calls _ p0 Aa ca t3 _ (hS.rd 0) ht4) (fun v w5 hR6 => ?_)
 obtain ⟨A8, c9, rfl, hk_⟩ := hR6
 have hS7 := hS.go w5 [rowO 3 encInt A8 c9 t3] (hS.call hk_ [] [] (fun g hg => hg.elim) (by simp) (by decide))
 refine ⟨trivial, ?_⟩
 refine seg 5 [] [5, 7, 8, 9] [(5, (sv Aa p0 ca)), (7, (sv A8 t3 c9)), (8, (.agg #[(.slice none 0 0), (iv 0), (iv 0)])), (9, (iv p1))] [] (fun fb => by kernel_rfl) rfl trivial ?_
 have hS10 := hS7.nilrow 3 encInt
 have hS11 := hS7.go w5 [rowO 88 encN_Row_ref02 none 0 (tag h0 ([] : List Row_ref02)), rowO 3 encInt none 0 ([] : List Int), rowO 3 encInt A8 c9 t3] (hS10.nilrow 88 encN_Row_ref02)
 have hS12 := hS11.poolNil subN_Row_ref02 h0
 obtain ⟨t13, ht14, hf⟩ := bind_some hf
 refine WL.call (some 10) 85 #[(sv Aa p0 ca), (sv A8 t3 c9), (.agg #[(.slice none 0 0), (iv 0), (iv 0)]), (iv p1), (iv 1), (.slice none 0 0)] (fun fb => by kernel_rfl) (ref02_extend_calls _ p0 t3 (Row_ref02.mk ([] : List Int) 0 0) p1 1 ([] : List Row_ref02) Aa ca A8 c9 none 0 none 0 h0 t13 _ (hS12.rdT [2, 1, 0] 0) (hS12.owT [2, 1, 0] 3 (by decide)).ofO (hS12.io [2, 1, 0] (by decide)) ht14) (fun v w15 hR16 => ?_)
 obtain ⟨A18, c19, H20, rfl, hk_⟩ := hR16
 have hS17 := hS11.go w15 [rowO 88 encN_Row_ref02 A18 c19 (tag H20 t13), poolO [nestO subN_Row_ref02 H20 t13], rowO 3 encInt A8 c9 t3] (hS12.call hk_ [2, 1, 0] [3] (fun g hg => fpL_sel g hg) (by decide) (by decide))
 refine ⟨trivial, ?_⟩
 refine seg 7 [] [4] [(4, (sv A18 t13 c19))] [] (fun fb => by kernel_rfl) rfl trivial ?_
 refine WL.done rfl (WX.next ?_)
 refine WC.ret ?_
 injection hf with hf
 subst hf
 exact WX.ret_ [] (sv A18 t13 c19) [] (fun fb => by kernel_rfl) trivial ⟨_, rfl, A18, c19, H20, rfl, (hS17.sub [0, 1] (by decide)).noR⟩
theorem ref02_has_calls (p0 : List Int) (p1 : Int) (p2 : Int) (Aa : Option Addr) (ca : Nat) (r : Bool) (w : World) (hR0 : RO NoS w (rowR encInt Aa ca p0)) (hf : ref02_has p0 p1 p2 = some r) :
  CallsR Tryd.prog 66 #[(sv Aa p0 ca), (iv p1), (iv p2)] w (fun v w' => v = (bv r) ∧ Keeps NoS w w') := by
 have hS : St NoS w w [rowR encInt Aa ca p0] [] := St.init (ro_cons hR0 (ro_nil _ _))
 refine enter 18 Tryd.func66 rfl Tryd.ntmps66 rfl ?_
 unfold ref02_has at hf
 refine WC.seq (WC.region ?_)
 refine seg 1 [] [0, 1, 2] [(0, (sv Aa p0 ca)), (1, (iv p1)), (2, (iv p2))] [] (fun fb => by kernel_rfl) rfl trivial ?_
 refine WL.done rfl (WX.next (WC.seq (WC.region ?_)))
 refine seg 4 [] [0, 1, 2, 10] [(0, (sv Aa p0 ca)), (1, (iv p1)), (2, (iv p2)), (10, (bv ((p0.length : Int) == 0)))] [] (fun fb => by kernel_rfl) rfl trivial ?_
 obtain ⟨b3, hv4, hf⟩ := bind_some hf
 refine WL.cutV (T := Unit) 11 (fun t => [(17, (bv b3))]) (fun t => True) (fun K => ?_) ?_
 ·
  rcases br_some hv4 with ⟨h5, hv4⟩ | ⟨h5, hv4⟩
  ·
   refine WL.setB 10 h5 rfl ?_
   refine seg 11 [] [17] [(17, (bv true))] [] (fun fb => by kernel_rfl) rfl trivial ?_
   injection hv4 with hv4
   subst hv4
   exact WL.toV K () [17] rfl trivial
  refine WL.setB 10 h5 rfl ?_
  refine seg 6 [] [2, 10, 11, 12] [(2, (iv p2)), (10, (bv false)), (11, (sv Aa p0 ca)), (12, (iv p1))] [] (fun fb => by kernel_rfl) rfl trivial ?_
  obtain ⟨h6, hv4⟩ := as_some hv4
  refine seg 11 [.v (iv (rdD p0 p1 0))] [17] [(17, (bv ((rdD p0 p1 0) == p2)))] [.idx Aa p1 p0.length, .cell ((adr Aa).add ((p1).toNat * 1)) (iv (rdD p0 p1 0))] (fun fb => by kernel_rfl) rfl ⟨rowR.adr (hS.rd 0).1 h6.1 h6.2, rowR.cell (hS.rd 0).1 0 h6.1 h6.2 0 rfl, trivial⟩ ?_
  injection hv4 with hv4
  subst hv4
  exact WL.toV K () [17] rfl trivial
 rintro _ _
 refine seg 12 [] [6] [(6, (bv b3))] [] (fun fb => by kernel_rfl) rfl trivial ?_
 refine WL.done rfl (WX.next ?_)
 refine WC.ret ?_
 injection hf with hf
 subst hf
 exact WX.ret_ [] (bv b3) [] (fun fb => by kernel_rfl) trivial ⟨_, rfl, rfl, hS.keep⟩
end Gp
