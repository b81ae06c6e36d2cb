/- Walks: each function of the program computes its plain function. -/
import Derived.Test.YtjfmjfheeijfiaaGreatDoorGx0
set_option linter.unusedVariables false
set_option linter.unusedSimpArgs false
set_option maxHeartbeats 4000000
namespace Gp
open Go Gw Go.Proofs
theorem rows_All_1_calls : ∀ (k : Nat) (p0 : Int) (f0 : Int) (f1 : List Row) (f2 : List Tile) (f3 : List Int) (ga : Nat) (gb : Nat) (Aa : Option Addr) (ca : Nat) (Ha : Nat → HF) (gc : Nat) (Ab : Option Addr) (cb : Nat) (gd : Nat) (Ac : Option Addr) (cc : Nat) (ge : Nat) (r : (List Row) × (List Int)) (w : World) (hR0 : RO (fpL [blk gb (.cells #[(sv Aa f1 ca)] 48 (0, 0)), rowO 54 encN_Row Aa ca (tag Ha f1), poolO [nestO subN_Row Ha f1], blk gd (.cells #[(sv Ac f3 cc)] 23 (0, 0)), rowO 3 encInt Ac cc f3]) w (blk ga (.cells #[(iv f0)] 3 (0, 0)))) (hR1 : RO (fpL [blk gb (.cells #[(sv Aa f1 ca)] 48 (0, 0)), rowO 54 encN_Row Aa ca (tag Ha f1), poolO [nestO subN_Row Ha f1], blk gd (.cells #[(sv Ac f3 cc)] 23 (0, 0)), rowO 3 encInt Ac cc f3]) w (blk gc (.cells #[(sv Ab f2 cb)] 22 (0, 0)))) (hR2 : RO (fpL [blk gb (.cells #[(sv Aa f1 ca)] 48 (0, 0)), rowO 54 encN_Row Aa ca (tag Ha f1), poolO [nestO subN_Row Ha f1], blk gd (.cells #[(sv Ac f3 cc)] 23 (0, 0)), rowO 3 encInt Ac cc f3]) w (rowR enc_Tile Ab cb f2)) (hR3 : RO (fpL [blk gb (.cells #[(sv Aa f1 ca)] 48 (0, 0)), rowO 54 encN_Row Aa ca (tag Ha f1), poolO [nestO subN_Row Ha f1], blk gd (.cells #[(sv Ac f3 cc)] 23 (0, 0)), rowO 3 encInt Ac cc f3]) w (blk ge (.cells #[(.func (.func 44) #[] #[(pt ga), (pt gb), (pt gc), (pt gd), (pt ge)])] 93 (0, 0)))) (hI : IoOK w [blk gb (.cells #[(sv Aa f1 ca)] 48 (0, 0)), rowO 54 encN_Row Aa ca (tag Ha f1), poolO [nestO subN_Row Ha f1], blk gd (.cells #[(sv Ac f3 cc)] 23 (0, 0)), rowO 3 encInt Ac cc f3]) (hf : rows_All_1 k p0 f0 f1 f2 f3 = some r),
  CallsR Tryz.prog 44 #[(iv p0), (pt ga), (pt gb), (pt gc), (pt gd), (pt ge)] w (fun v w' => ∃ (A1_ : Option Addr), ∃ (c1_ : Nat), ∃ (h1_ : Nat → HF), ∃ (A2_ : Option Addr), ∃ (c2_ : Nat), v = (.tuple #[]) ∧ St (fpL [blk gb (.cells #[(sv Aa f1 ca)] 48 (0, 0)), rowO 54 encN_Row Aa ca (tag Ha f1), poolO [nestO subN_Row Ha f1], blk gd (.cells #[(sv Ac f3 cc)] 23 (0, 0)), rowO 3 encInt Ac cc f3]) w w' [] [blk gb (.cells #[(sv A1_ r.1 c1_)] 48 (0, 0)), rowO 54 encN_Row A1_ c1_ (tag h1_ r.1), poolO [nestO subN_Row h1_ r.1], blk gd (.cells #[(sv A2_ r.2 c2_)] 23 (0, 0)), rowO 3 encInt A2_ c2_ r.2]) := by
 intro k
 induction k with
 | zero => intro p0 f0 f1 f2 f3 ga gb Aa ca Ha gc Ab cb gd Ac cc ge r w hR0 hR1 hR2 hR3 hI hf; rw [rows_All_1] at hf; cases hf
 | succ k ih_ =>
 intro p0 f0 f1 f2 f3 ga gb Aa ca Ha gc Ab cb gd Ac cc ge r w hR0 hR1 hR2 hR3 hI hf
 have hS : St (fpL [blk gb (.cells #[(sv Aa f1 ca)] 48 (0, 0)), rowO 54 encN_Row Aa ca (tag Ha f1), poolO [nestO subN_Row Ha f1], blk gd (.cells #[(sv Ac f3 cc)] 23 (0, 0)), rowO 3 encInt Ac cc f3]) w w [blk ga (.cells #[(iv f0)] 3 (0, 0)), blk gc (.cells #[(sv Ab f2 cb)] 22 (0, 0)), rowR enc_Tile Ab cb f2, blk ge (.cells #[(.func (.func 44) #[] #[(pt ga), (pt gb), (pt gc), (pt gd), (pt ge)])] 93 (0, 0))] [blk gb (.cells #[(sv Aa f1 ca)] 48 (0, 0)), rowO 54 encN_Row Aa ca (tag Ha f1), poolO [nestO subN_Row Ha f1], blk gd (.cells #[(sv Ac f3 cc)] 23 (0, 0)), rowO 3 encInt Ac cc f3] := St.initIO (ro_cons hR0 (ro_cons hR1 (ro_cons hR2 (ro_cons hR3 (ro_nil _ _))))) hI
 rw [rows_All_1] at hf
 generalize rows_All_1 k = rc_ at hf ih_
 refine enter 50 Tryz.func44 rfl Tryz.ntmps44 rfl ?_
 refine WC.seq (WC.seq (WC.region ?_))
 refine seg 3 [.v (iv f0)] [0, 2, 3, 4, 5, 11] [(0, (iv p0)), (2, (pt gb)), (3, (pt gc)), (4, (pt gd)), (5, (pt ge)), (11, (bv (p0 == f0)))] [.cell ⟨ga, 0, none⟩ (iv f0)] (fun fb => by kernel_rfl) rfl ⟨blk_cell (hS.rd 0).1 0 rfl, trivial⟩ ?_
 refine WL.done rfl (WX.next ?_)
 rcases br_some hf with ⟨h8, hf⟩ | ⟨h8, hf⟩
 ·refine WC.condT2 (fun fb => by kernel_rfl) h8 ?_
  refine WC.seq ?_
  refine WC.regionD ([(0, ⟨gb, 0, none⟩, (sv Aa f1 ca)), (1, ⟨gc, 0, none⟩, (sv Ab f2 cb)), (2, ⟨gd, 0, none⟩, (sv Ac f3 cc))], [0, 1, 2], [[], [], [], [1, 2], [1, 2, 3], [0, 1, 2, 3, 4], [0, 1, 2, 3, 4, 5]]) [[0, 1, 2, 3, 4, 5, 6]] (by kernel_rfl) (by kernel_rfl) (NoPanic.seq (NoPanic.seq (NoPanic.body))) ?_
  have hS10 := hS.drew
  revert hS10
  generalize World.drew w = w9
  intro hS10
  refine ⟨⟨hS10.cell 0 rfl 0 rfl, blk_cell (hS10.rd 1).1 0 rfl, hS10.cell 3 rfl 0 rfl, trivial⟩, forallC ?_ (forallN)⟩
  refine segF 3 [.v (sv Aa f1 ca), .v (sv Ab f2 cb), .v (sv Ac f3 cc)] [2, 4, 12, 13, 14] [(2, (pt gb)), (4, (pt gd)), (12, (sv Aa f1 ca)), (13, (sv Ab f2 cb)), (14, (sv Ac f3 cc))] [] [0, 1, 2] [(0, ⟨gb, 0, none⟩, (sv Aa f1 ca)), (1, ⟨gc, 0, none⟩, (sv Ab f2 cb)), (2, ⟨gd, 0, none⟩, (sv Ac f3 cc))] (fun fb => by kernel_rfl) rfl trivial rfl ?_
  obtain ⟨t11, ht12, hf⟩ := bind_some hf
  refine WL.call (some 15) 45 #[(sv Ab f2 cb), (sv Ac f3 cc)] (fun fb => by kernel_rfl) (rows_rowOf_calls _ f2 f3 Ab cb Ac cc t11 _ (hS10.rd 2) (hS10.ow 4).ofO ht12) (fun v w13 hR14 => ?_)
  obtain ⟨A16, c17, rfl, hk_⟩ := hR14
  have hS15 : St (fpL [blk gb (.cells #[(.slice Aa f1.length ca)] 48 (0, 0)), rowO 54 encN_Row Aa ca (tag Ha f1), poolO [nestO subN_Row Ha f1], blk gd (.cells #[(.slice Ac f3.length cc)] 23 (0, 0)), rowO 3 encInt Ac cc f3]) w w13 [blk ga (.cells #[(iv f0)] 3 (0, 0)), blk gc (.cells #[(.slice Ab f2.length cb)] 22 (0, 0)), rowR enc_Tile Ab cb f2, blk ge (.cells #[(.func (.func 44) #[] #[(pt ga), (pt gb), (pt gc), (pt gd), (pt ge)])] 93 (0, 0))] [rowO 3 encInt A16 c17 t11.Cells, blk gb (.cells #[(.slice Aa f1.length ca)] 48 (0, 0)), rowO 54 encN_Row Aa ca (tag Ha f1), poolO [nestO subN_Row Ha f1], blk gd (.cells #[(.slice Ac f3.length cc)] 23 (0, 0)), rowO 3 encInt Ac cc f3] := hS10.call hk_ [] [0, 1, 2, 3, 4] (fun g hg => hg.elim) (by simp) (by decide)
  refine ⟨⟨hS15.cell 1 rfl 0 rfl, trivial⟩, ?_⟩
  refine WL.new hS15 16 [] (fun g => (.slice (some ⟨g, 0, none⟩) 1 1)) (.cells #[(sv A16 t11.Cells c17), (iv t11.South.e0), (iv t11.South.e1), (iv t11.South.e2), (iv t11.South.e3), (iv t11.South.e4), (iv t11.South.e5), (iv t11.South.e6), (iv t11.South.e7), (iv t11.North.e0), (iv t11.North.e1), (iv t11.North.e2), (iv t11.North.e3), (iv t11.North.e4), (iv t11.North.e5), (iv t11.North.e6), (iv t11.North.e7), (iv t11.West), (iv t11.East)] 54 (0, 0)) [] (fun fb g => by kernel_rfl) trivial (fun g18 w19 hS20 => ?_)
  refine ⟨⟨hS20.cell 2 rfl 0 rfl, trivial⟩, ?_⟩
  have hS21 := hS.go w19 [rowO 54 encN_Row (some ⟨g18, 0, none⟩) 1 [((hd1 A16 c17), t11)], rowO 3 encInt A16 c17 t11.Cells, blk gb (.cells #[(sv Aa f1 ca)] 48 (0, 0)), rowO 54 encN_Row Aa ca (tag Ha f1), poolO [nestO subN_Row Ha f1], blk gd (.cells #[(sv Ac f3 cc)] 23 (0, 0)), rowO 3 encInt Ac cc f3] (hS20.map1 0 _ (fun h => rowO.ofBlk h rfl (Nat.le_of_ble_eq_true (by kernel_rfl))) (fun _ h => by obtain ⟨_, h1, h2⟩ := h; injection h1 with h1; subst h1; exact h2) [1, 2, 3, 4, 5, 6] (by decide) (by decide))
  obtain ⟨h22, hf⟩ := as_some hf
  refine WL.appendN hS21 3 (d := 17) (tS := 48) (z := (.agg #[(.slice none 0 0), (iv 0), (iv 0), (iv 0), (iv 0), (iv 0), (iv 0), (iv 0), (iv 0), (iv 0), (iv 0), (iv 0), (iv 0), (iv 0), (iv 0), (iv 0), (iv 0), (iv 0), (iv 0)])) (bytes := 168) (c2 := 1) (hx := (hd1 A16 c17)) (x := t11) rfl (fun fb => by kernel_rfl) (rowO.rd (hS21.own 0).1) (by kernel_rfl) (by kernel_rfl) rfl (by decide) h22 (by decide) [0, 1, 2, 4, 5, 6] (by decide) (by decide) (fun A23 c24 w25 hS26 => ?_)
  have hS27 := hS15.go w25 [poolO [nestO subN_Row (updH Ha f1.length (hd1 A16 c17)) (f1 ++ [t11])], rowO 54 encN_Row A23 c24 (tag (updH Ha f1.length (hd1 A16 c17)) (f1 ++ [t11])), rowO 54 encN_Row (some ⟨g18, 0, none⟩) 1 [((hd1 A16 c17), t11)], blk gb (.cells #[(.slice Aa f1.length ca)] 48 (0, 0)), blk gd (.cells #[(.slice Ac f3.length cc)] 23 (0, 0)), rowO 3 encInt Ac cc f3] (hS26.poolPush 4 rfl 0 (by simp) rfl (hd1 A16 c17) t11 (hS26.ow 2).ofO [2] (fun g hg => ⟨2, by simp, rowO.fpR (hS26.own 2).1 g hg⟩) _ rfl [0, 1, 3, 5, 6] (by decide) (by decide))
  refine ⟨trivial, ?_⟩
  refine WL.store hS27 3 rfl [(0, (sv A23 (f1 ++ [t11]) c24))] #[(sv A23 (f1 ++ [t11]) c24)] (fun fb => by kernel_rfl) (by kernel_rfl) rfl [0, 1, 2, 4, 5] (by decide) (by decide) (fun w28 hS29 => ?_)
  refine ⟨trivial, ?_⟩
  refine WL.done rfl (WX.next ?_)
  refine WC.ret ?_
  injection hf with hf
  subst hf
  exact WX.thenR (WX.ret_ [] (.tuple #[]) [] (fun fb => by kernel_rfl) trivial ⟨_, rfl, A23, c24, (updH Ha f1.length (hd1 A16 c17)), Ac, cc, rfl, (hS29.sub [0, 2, 1, 4, 5] (by decide)).noR⟩)
 refine WC.condF2 (fun fb => by kernel_rfl) h8 ?_
 refine WC.skip (WX.next (WC.seq (WC.region ?_)))
 refine seg 3 [.v (sv Ab f2 cb)] [0, 2, 3, 4, 5, 18, 19, 20] [(0, (iv p0)), (2, (pt gb)), (3, (pt gc)), (4, (pt gd)), (5, (pt ge)), (18, (sv Ab f2 cb)), (19, (iv (f2.length : Int))), (20, (iv 0))] [.cell ⟨gc, 0, none⟩ (sv Ab f2 cb)] (fun fb => by kernel_rfl) rfl ⟨blk_cell (hS.rd 1).1 0 rfl, trivial⟩ ?_
 refine WL.done rfl (WX.next ?_)
 obtain ⟨x43, hx45, hf⟩ := bind_some hf
 refine WC.cutN (T := ((List Row) × (List Int)) × (Option Addr) × Nat × (Nat → HF) × (Option Addr) × Nat) (fun t => [(2, (pt gb)), (4, (pt gd))]) (fun t w1 => St (fpL [blk gb (.cells #[(sv Aa f1 ca)] 48 (0, 0)), rowO 54 encN_Row Aa ca (tag Ha f1), poolO [nestO subN_Row Ha f1], blk gd (.cells #[(sv Ac f3 cc)] 23 (0, 0)), rowO 3 encInt Ac cc f3]) w w1 [blk ga (.cells #[(iv f0)] 3 (0, 0)), blk gc (.cells #[(sv Ab f2 cb)] 22 (0, 0)), rowR enc_Tile Ab cb f2, blk ge (.cells #[(.func (.func 44) #[] #[(pt ga), (pt gb), (pt gc), (pt gd), (pt ge)])] 93 (0, 0))] [blk gb (.cells #[(sv t.2.1 t.1.1 t.2.2.1)] 48 (0, 0)), rowO 54 encN_Row t.2.1 t.2.2.1 (tag t.2.2.2.1 t.1.1), poolO [nestO subN_Row t.2.2.2.1 t.1.1], blk gd (.cells #[(sv t.2.2.2.2.1 t.1.2 t.2.2.2.2.2)] 23 (0, 0)), rowO 3 encInt t.2.2.2.2.1 t.2.2.2.2.2 t.1.2] ∧ x43 = t.1) (fun Kx43 => ?_) ?_
 ·
  refine WC.block ?_
  refine WC.loop (T := ((List Row) × (List Int) × Int) × (Option Addr) × Nat × (Nat → HF) × (Option Addr) × Nat) (fun t => [(0, (iv p0)), (2, (pt gb)), (3, (pt gc)), (4, (pt gd)), (5, (pt ge)), (18, (sv Ab f2 cb)), (19, (iv (f2.length : Int))), (20, (iv t.1.2.2))]) (fun n t w1 => St (fpL [blk gb (.cells #[(sv Aa f1 ca)] 48 (0, 0)), rowO 54 encN_Row Aa ca (tag Ha f1), poolO [nestO subN_Row Ha f1], blk gd (.cells #[(sv Ac f3 cc)] 23 (0, 0)), rowO 3 encInt Ac cc f3]) w w1 [blk ga (.cells #[(iv f0)] 3 (0, 0)), blk gc (.cells #[(sv Ab f2 cb)] 22 (0, 0)), rowR enc_Tile Ab cb f2, blk ge (.cells #[(.func (.func 44) #[] #[(pt ga), (pt gb), (pt gc), (pt gd), (pt ge)])] 93 (0, 0))] [blk gb (.cells #[(sv t.2.1 t.1.1 t.2.2.1)] 48 (0, 0)), rowO 54 encN_Row t.2.1 t.2.2.1 (tag t.2.2.2.1 t.1.1), poolO [nestO subN_Row t.2.2.2.1 t.1.1], blk gd (.cells #[(sv t.2.2.2.2.1 t.1.2.1 t.2.2.2.2.2)] 23 (0, 0)), rowO 3 encInt t.2.2.2.2.1 t.2.2.2.2.2 t.1.2.1] ∧ rows_All_1.l0 n t.1.1 t.1.2.1 t.1.2.2 p0 f0 f2 rc_ = some x43) k ((f1, f3, 0), Aa, ca, Ha, Ac, cc) [0, 2, 3, 4, 5, 18, 19, 20] rfl ⟨(hS.subR [0, 1, 2, 3]).sub [0, 1, 2, 3, 4] (by decide), hx45⟩ ?_
  rintro k46 ⟨⟨l32, l36, x37⟩, A30, c31, H33, A34, c35⟩ w47 ⟨hS48, hl49⟩
  cases k46 with
  | zero => rw [rows_All_1.l0] at hl49; cases hl49
  | succ k46 =>
   rw [rows_All_1.l0] at hl49
   refine WC.seq (WC.region ?_)
   refine seg 1 [] [0, 2, 3, 4, 5, 18, 19, 20, 21] [(0, (iv p0)), (2, (pt gb)), (3, (pt gc)), (4, (pt gd)), (5, (pt ge)), (18, (sv Ab f2 cb)), (19, (iv (f2.length : Int))), (20, (iv x37)), (21, (bv (decide (x37 < (f2.length : Int)))))] [] (fun fb => by kernel_rfl) rfl trivial ?_
   refine WL.done rfl (WX.next (WC.seq ?_))
   rcases br_some hl49 with ⟨h50, hl49⟩ | ⟨h50, hl49⟩
   ·refine WC.condT2 (fun fb => by kernel_rfl) h50 ?_
    refine WC.skip (WX.next (WC.seq (WC.block (WC.seq (WC.region ?_)))))
    refine seg 1 [] [0, 2, 3, 4, 5, 18, 19, 20, 22] [(0, (iv p0)), (2, (pt gb)), (3, (pt gc)), (4, (pt gd)), (5, (pt ge)), (18, (sv Ab f2 cb)), (19, (iv (f2.length : Int))), (20, (iv x37)), (22, (iv x37))] [] (fun fb => by kernel_rfl) rfl trivial ?_
    obtain ⟨h51, hl49⟩ := as_some hl49
    refine seg 3 [.v (iv ((rdD f2 x37 z_Tile).N)), .v (iv ((rdD f2 x37 z_Tile).E)), .v (iv ((rdD f2 x37 z_Tile).S)), .v (iv ((rdD f2 x37 z_Tile).W))] [0, 2, 3, 4, 5, 18, 19, 20, 22, 24] [(0, (iv p0)), (2, (pt gb)), (3, (pt gc)), (4, (pt gd)), (5, (pt ge)), (18, (sv Ab f2 cb)), (19, (iv (f2.length : Int))), (20, (iv x37)), (22, (iv x37)), (24, (.agg #[(iv ((rdD f2 x37 z_Tile).N)), (iv ((rdD f2 x37 z_Tile).E)), (iv ((rdD f2 x37 z_Tile).S)), (iv ((rdD f2 x37 z_Tile).W))]))] [.idx Ab x37 f2.length, .cell ((adr Ab).add ((x37).toNat * 4)) (iv ((rdD f2 x37 z_Tile).N)), .cell (((adr Ab).add ((x37).toNat * 4)).add 1) (iv ((rdD f2 x37 z_Tile).E)), .cell (((adr Ab).add ((x37).toNat * 4)).add 2) (iv ((rdD f2 x37 z_Tile).S)), .cell (((adr Ab).add ((x37).toNat * 4)).add 3) (iv ((rdD f2 x37 z_Tile).W))] (fun fb => by kernel_rfl) rfl ⟨rowR.adr (hS48.rd 2).1 h51.1 h51.2, rowR.cell (hS48.rd 2).1 z_Tile h51.1 h51.2 0 rfl, rowR.cell (hS48.rd 2).1 z_Tile h51.1 h51.2 1 rfl, rowR.cell (hS48.rd 2).1 z_Tile h51.1 h51.2 2 rfl, rowR.cell (hS48.rd 2).1 z_Tile h51.1 h51.2 3 rfl, trivial⟩ ?_
    refine WL.new hS48 8 [] (fun g => (pt g)) (.cells #[(iv 0), (iv 0), (iv 0), (iv 0)] 67 (0, 0)) [] (fun fb g => by kernel_rfl) trivial (fun g52 w53 hS54 => ?_)
    refine ⟨trivial, ?_⟩
    refine seg 5 [] [0, 2, 3, 4, 5, 7, 8, 18, 19, 20, 24] [(0, (iv p0)), (2, (pt gb)), (3, (pt gc)), (4, (pt gd)), (5, (pt ge)), (7, (iv x37)), (8, (pt g52)), (18, (sv Ab f2 cb)), (19, (iv (f2.length : Int))), (20, (iv x37)), (24, (.agg #[(iv ((rdD f2 x37 z_Tile).N)), (iv ((rdD f2 x37 z_Tile).E)), (iv ((rdD f2 x37 z_Tile).S)), (iv ((rdD f2 x37 z_Tile).W))]))] [] (fun fb => by kernel_rfl) rfl trivial ?_
    refine WL.store hS54 0 rfl [(0, (iv ((rdD f2 x37 z_Tile).N))), (1, (iv ((rdD f2 x37 z_Tile).E))), (2, (iv ((rdD f2 x37 z_Tile).S))), (3, (iv ((rdD f2 x37 z_Tile).W)))] #[(iv ((rdD f2 x37 z_Tile).N)), (iv ((rdD f2 x37 z_Tile).E)), (iv ((rdD f2 x37 z_Tile).S)), (iv ((rdD f2 x37 z_Tile).W))] (fun fb => by kernel_rfl) (by kernel_rfl) rfl [1, 2, 3, 4, 5] (by decide) (by decide) (fun w55 hS56 => ?_)
    refine ⟨trivial, ?_⟩
    refine WL.done rfl (WX.next (WC.seq ?_))
    obtain ⟨x57, hx58, hl49⟩ := bind_some hl49
    refine WC.cutN (T := Bool) (fun t => [(0, (iv p0)), (2, (pt gb)), (3, (pt gc)), (4, (pt gd)), (5, (pt ge)), (7, (iv x37)), (18, (sv Ab f2 cb)), (19, (iv (f2.length : Int))), (20, (iv x37)), (40, (bv t))]) (fun t w1 => St (fpL [blk gb (.cells #[(sv Aa f1 ca)] 48 (0, 0)), rowO 54 encN_Row Aa ca (tag Ha f1), poolO [nestO subN_Row Ha f1], blk gd (.cells #[(sv Ac f3 cc)] 23 (0, 0)), rowO 3 encInt Ac cc f3]) w w1 [blk ga (.cells #[(iv f0)] 3 (0, 0)), blk gc (.cells #[(sv Ab f2 cb)] 22 (0, 0)), rowR enc_Tile Ab cb f2, blk ge (.cells #[(.func (.func 44) #[] #[(pt ga), (pt gb), (pt gc), (pt gd), (pt ge)])] 93 (0, 0))] [blk gb (.cells #[(sv A30 l32 c31)] 48 (0, 0)), rowO 54 encN_Row A30 c31 (tag H33 l32), poolO [nestO subN_Row H33 l32], blk gd (.cells #[(sv A34 l36 c35)] 23 (0, 0)), rowO 3 encInt A34 c35 l36] ∧ x57 = t) (fun Kx57 => ?_) ?_
    ·
     rcases br_some hx58 with ⟨h59, hx58⟩ | ⟨h59, hx58⟩
     ·
      refine WC.regionD ([], [0, 1, 2, 3, 4, 5, 6, 7, 8, 9, 10, 11, 12, 13, 14, 15], [[], [0], [0, 1], [0, 1, 2], [0, 1, 2], [0, 1, 2], [0, 1, 2, 5], [0, 1, 2, 4, 5, 6], [0, 1, 2, 4, 5, 6, 7], [0, 1, 2, 3, 4, 5, 6, 7, 8], [0, 1, 2, 3, 4, 5, 6, 7, 8, 9], [0, 1, 2, 3, 4, 5, 6, 7, 8, 9, 10], [0, 1, 2], [0, 1, 2, 12], [0, 1, 2, 3, 4, 5, 6, 7, 8, 9, 10, 11, 12, 13], [0, 1, 2, 3, 4, 5, 6, 7, 8, 9, 10, 11, 12, 13, 14]]) [[0, 1, 2, 3, 4, 5, 6, 7, 8, 9, 10, 11, 12, 13, 14, 15]] (by kernel_rfl) (by kernel_rfl) (NoPanic.seq (NoPanic.block (NoPanic.seq (NoPanic.seq (NoPanic.block (NoPanic.body)))))) ?_
      have hS61 := hS56.drew
      revert hS61
      generalize World.drew w55 = w60
      intro hS61
      refine ⟨trivial, forallC ?_ (forallN)⟩
      refine seg 3 [] [0, 2, 3, 4, 5, 7, 8, 18, 19, 20, 27] [(0, (iv p0)), (2, (pt gb)), (3, (pt gc)), (4, (pt gd)), (5, (pt ge)), (7, (iv x37)), (8, (pt g52)), (18, (sv Ab f2 cb)), (19, (iv (f2.length : Int))), (20, (iv x37)), (27, (bv (p0 == 0)))] [] (fun fb => by kernel_rfl) rfl trivial ?_
      refine WL.setB 27 h59 rfl ?_
      refine seg 16 [] [0, 2, 3, 4, 5, 7, 18, 19, 20, 40] [(0, (iv p0)), (2, (pt gb)), (3, (pt gc)), (4, (pt gd)), (5, (pt ge)), (7, (iv x37)), (18, (sv Ab f2 cb)), (19, (iv (f2.length : Int))), (20, (iv x37)), (40, (bv true))] [] (fun fb => by kernel_rfl) rfl trivial ?_
      refine WL.done rfl ?_
      injection hx58 with hx58
      exact WX.to Kx57 true [0, 2, 3, 4, 5, 7, 18, 19, 20, 40] rfl ⟨(hS61.subR [0, 1, 2, 3]).sub [1, 2, 3, 4, 5] (by decide), hx58.symm⟩
     obtain ⟨h65, hx58⟩ := as_some hx58
     obtain ⟨h66, hx58⟩ := as_some hx58
     refine WC.regionD ([(3, ⟨gc, 0, none⟩, (sv Ab f2 cb)), (4, ⟨gd, 0, none⟩, (sv A34 l36 c35)), (8, ((adr A34).add ((w64 (p0 - 1)).toNat * 1)), (iv (rdD l36 (w64 (p0 - 1)) 0))), (11, (((adr Ab).add (((rdD l36 (w64 (p0 - 1)) 0)).toNat * 4)).add 1), (iv ((rdD f2 (rdD l36 (w64 (p0 - 1)) 0) z_Tile).E))), (13, ⟨g52, 3, none⟩, (iv ((rdD f2 x37 z_Tile).W)))], [0, 1, 2, 3, 4, 5, 6, 7, 8, 9, 10, 11, 12, 13, 14, 15], [[], [0], [0, 1], [0, 1, 2], [0, 1, 2], [0, 1, 2], [0, 1, 2, 5], [0, 1, 2, 4, 5, 6], [0, 1, 2, 4, 5, 6, 7], [0, 1, 2, 3, 4, 5, 6, 7, 8], [0, 1, 2, 3, 4, 5, 6, 7, 8, 9], [0, 1, 2, 3, 4, 5, 6, 7, 8, 9, 10], [0, 1, 2], [0, 1, 2, 12], [0, 1, 2, 3, 4, 5, 6, 7, 8, 9, 10, 11, 12, 13], [0, 1, 2, 3, 4, 5, 6, 7, 8, 9, 10, 11, 12, 13, 14]]) [[0, 1, 2, 3, 4, 5, 6, 7, 8, 9, 10, 11, 12, 13, 14, 15]] (by kernel_rfl) (by kernel_rfl) (NoPanic.seq (NoPanic.block (NoPanic.seq (NoPanic.seq (NoPanic.block (NoPanic.body)))))) ?_
     have hS63 := hS56.drew
     revert hS63
     generalize World.drew w55 = w62
     intro hS63
     refine ⟨⟨blk_cell (hS63.rd 1).1 0 rfl, hS63.cell 4 rfl 0 rfl, rowR.cell (rowO.rd (hS63.own 5).1) 0 h65.1 h65.2 0 rfl, rowR.cell (hS63.rd 2).1 z_Tile h66.1 h66.2 1 rfl, hS63.cell 0 rfl 3 rfl, trivial⟩, forallC ?_ (forallN)⟩
     refine seg 3 [] [0, 2, 3, 4, 5, 7, 8, 18, 19, 20, 27] [(0, (iv p0)), (2, (pt gb)), (3, (pt gc)), (4, (pt gd)), (5, (pt ge)), (7, (iv x37)), (8, (pt g52)), (18, (sv Ab f2 cb)), (19, (iv (f2.length : Int))), (20, (iv x37)), (27, (bv (p0 == 0)))] [] (fun fb => by kernel_rfl) rfl trivial ?_
     refine WL.setB 27 h59 rfl ?_
     refine segF 16 [.v (sv Ab f2 cb), .v (sv A34 l36 c35), .v (iv (rdD l36 (w64 (p0 - 1)) 0)), .v (iv ((rdD f2 (rdD l36 (w64 (p0 - 1)) 0) z_Tile).E)), .v (iv ((rdD f2 x37 z_Tile).W))] [0, 2, 3, 4, 5, 7, 18, 19, 20, 40] [(0, (iv p0)), (2, (pt gb)), (3, (pt gc)), (4, (pt gd)), (5, (pt ge)), (7, (iv x37)), (18, (sv Ab f2 cb)), (19, (iv (f2.length : Int))), (20, (iv x37)), (40, (bv (((rdD f2 (rdD l36 (w64 (p0 - 1)) 0) z_Tile).E) == ((rdD f2 x37 z_Tile).W))))] [.idx A34 (w64 (p0 - 1)) l36.length, .idx Ab (rdD l36 (w64 (p0 - 1)) 0) f2.length] [0, 1, 2, 3, 4] [(3, ⟨gc, 0, none⟩, (sv Ab f2 cb)), (4, ⟨gd, 0, none⟩, (sv A34 l36 c35)), (8, ((adr A34).add ((w64 (p0 - 1)).toNat * 1)), (iv (rdD l36 (w64 (p0 - 1)) 0))), (11, (((adr Ab).add (((rdD l36 (w64 (p0 - 1)) 0)).toNat * 4)).add 1), (iv ((rdD f2 (rdD l36 (w64 (p0 - 1)) 0) z_Tile).E))), (13, ⟨g52, 3, none⟩, (iv ((rdD f2 x37 z_Tile).W)))] (fun fb => by kernel_rfl) rfl ⟨rowR.adr (rowO.rd (hS63.own 5).1) h65.1 h65.2, rowR.adr (hS63.rd 2).1 h66.1 h66.2, trivial⟩ rfl ?_
     refine WL.done rfl ?_
     injection hx58 with hx58
     exact WX.to Kx57 (((rdD f2 (rdD l36 (w64 (p0 - 1)) 0) z_Tile).E) == ((rdD f2 x37 z_Tile).W)) [0, 2, 3, 4, 5, 7, 18, 19, 20, 40] rfl ⟨(hS63.subR [0, 1, 2, 3]).sub [1, 2, 3, 4, 5] (by decide), hx58.symm⟩
    rintro y70 w67 ⟨hS68, hq69⟩
    subst hq69
    refine WX.next ?_
    obtain ⟨x76, hx77, hl49⟩ := bind_some hl49
    refine WC.cutN (T := ((List Row) × (List Int)) × (Option Addr) × Nat × (Nat → HF) × (Option Addr) × Nat) (fun t => [(0, (iv p0)), (2, (pt gb)), (3, (pt gc)), (4, (pt gd)), (5, (pt ge)), (18, (sv Ab f2 cb)), (19, (iv (f2.length : Int))), (20, (iv x37))]) (fun t w1 => St (fpL [blk gb (.cells #[(sv Aa f1 ca)] 48 (0, 0)), rowO 54 encN_Row Aa ca (tag Ha f1), poolO [nestO subN_Row Ha f1], blk gd (.cells #[(sv Ac f3 cc)] 23 (0, 0)), rowO 3 encInt Ac cc f3]) w w1 [blk ga (.cells #[(iv f0)] 3 (0, 0)), blk gc (.cells #[(sv Ab f2 cb)] 22 (0, 0)), rowR enc_Tile Ab cb f2, blk ge (.cells #[(.func (.func 44) #[] #[(pt ga), (pt gb), (pt gc), (pt gd), (pt ge)])] 93 (0, 0))] [blk gb (.cells #[(sv t.2.1 t.1.1 t.2.2.1)] 48 (0, 0)), rowO 54 encN_Row t.2.1 t.2.2.1 (tag t.2.2.2.1 t.1.1), poolO [nestO subN_Row t.2.2.2.1 t.1.1], blk gd (.cells #[(sv t.2.2.2.2.1 t.1.2 t.2.2.2.2.2)] 23 (0, 0)), rowO 3 encInt t.2.2.2.2.1 t.2.2.2.2.2 t.1.2] ∧ x76 = t.1) (fun Kx76 => ?_) ?_
    ·
     rcases br_some hx77 with ⟨h78, hx77⟩ | ⟨h78, hx77⟩
     ·refine WC.condT2 (fun fb => by kernel_rfl) h78 ?_
      refine WC.seq (WC.region ?_)
      refine seg 3 [.v (sv A34 l36 c35)] [0, 2, 3, 4, 5, 18, 19, 20, 41, 42, 43] [(0, (iv p0)), (2, (pt gb)), (3, (pt gc)), (4, (pt gd)), (5, (pt ge)), (18, (sv Ab f2 cb)), (19, (iv (f2.length : Int))), (20, (iv x37)), (41, (sv A34 l36 c35)), (42, (iv p0)), (43, (iv x37))] [.cell ⟨gd, 0, none⟩ (sv A34 l36 c35)] (fun fb => by kernel_rfl) rfl ⟨hS68.cell 3 rfl 0 rfl, trivial⟩ ?_
      obtain ⟨h79, hx77⟩ := as_some hx77
      refine seg 4 [] [0, 2, 3, 4, 5, 18, 19, 20, 43, 44] [(0, (iv p0)), (2, (pt gb)), (3, (pt gc)), (4, (pt gd)), (5, (pt ge)), (18, (sv Ab f2 cb)), (19, (iv (f2.length : Int))), (20, (iv x37)), (43, (iv x37)), (44, (.pointer (some ((adr A34).add ((p0).toNat * 1)))))] [.idx A34 p0 l36.length] (fun fb => by kernel_rfl) rfl ⟨rowR.adr (rowO.rd (hS68.own 4).1) h79.1 h79.2, trivial⟩ ?_
      refine WL.storeRow hS68 4 rfl (p0) (x37) (0) [(0, (iv x37))] (fun fb => by kernel_rfl) h79.1 h79.2 (by kernel_rfl) rfl [0, 1, 2, 3] (by decide) (by decide) (fun w80 hS81 => ?_)
      refine ⟨trivial, ?_⟩
      have hS82 : St (fpL [blk gb (.cells #[(.slice Aa f1.length ca)] 48 (0, 0)), rowO 54 encN_Row Aa ca (tag Ha f1), poolO [nestO subN_Row Ha f1], blk gd (.cells #[(.slice Ac f3.length cc)] 23 (0, 0)), rowO 3 encInt Ac cc f3]) w w80 [blk ga (.cells #[(iv f0)] 3 (0, 0)), blk gc (.cells #[(.slice Ab f2.length cb)] 22 (0, 0)), rowR enc_Tile Ab cb f2, blk ge (.cells #[(.func (.func 44) #[] #[(pt ga), (pt gb), (pt gc), (pt gd), (pt ge)])] 93 (0, 0))] [rowO 3 encInt A34 c35 (l36.set (p0).toNat x37), blk gb (.cells #[(.slice A30 l32.length c31)] 48 (0, 0)), rowO 54 encN_Row A30 c31 (tag H33 l32), poolO [nestO subN_Row H33 l32], blk gd (.cells #[(.slice A34 (l36.set (p0).toNat x37).length c35)] 23 (0, 0))] := by simpa only [List.length_set] using (show St (fpL [blk gb (.cells #[(.slice Aa f1.length ca)] 48 (0, 0)), rowO 54 encN_Row Aa ca (tag Ha f1), poolO [nestO subN_Row Ha f1], blk gd (.cells #[(.slice Ac f3.length cc)] 23 (0, 0)), rowO 3 encInt Ac cc f3]) w w80 [blk ga (.cells #[(iv f0)] 3 (0, 0)), blk gc (.cells #[(.slice Ab f2.length cb)] 22 (0, 0)), rowR enc_Tile Ab cb f2, blk ge (.cells #[(.func (.func 44) #[] #[(pt ga), (pt gb), (pt gc), (pt gd), (pt ge)])] 93 (0, 0))] [rowO 3 encInt A34 c35 (l36.set (p0).toNat x37), blk gb (.cells #[(.slice A30 l32.length c31)] 48 (0, 0)), rowO 54 encN_Row A30 c31 (tag H33 l32), poolO [nestO subN_Row H33 l32], blk gd (.cells #[(.slice A34 l36.length c35)] 23 (0, 0))] from hS81)
      refine WL.done rfl (WX.next (WC.region ?_))
      refine seg 3 [.v (.func (.func 44) #[] #[(pt ga), (pt gb), (pt gc), (pt gd), (pt ge)])] [0, 2, 3, 4, 5, 18, 19, 20, 45, 47] [(0, (iv p0)), (2, (pt gb)), (3, (pt gc)), (4, (pt gd)), (5, (pt ge)), (18, (sv Ab f2 cb)), (19, (iv (f2.length : Int))), (20, (iv x37)), (45, (.func (.func 44) #[] #[(pt ga), (pt gb), (pt gc), (pt gd), (pt ge)])), (47, (iv (w64 (p0 + 1))))] [.cell ⟨ge, 0, none⟩ (.func (.func 44) #[] #[(pt ga), (pt gb), (pt gc), (pt gd), (pt ge)])] (fun fb => by kernel_rfl) rfl ⟨blk_cell (hS82.rd 3).1 0 rfl, trivial⟩ ?_
      obtain ⟨t83, ht84, hx77⟩ := bind_some hx77
      refine WL.call (some 48) 44 #[(iv (w64 (p0 + 1))), (pt ga), (pt gb), (pt gc), (pt gd), (pt ge)] (fun fb => by kernel_rfl) (ih_ (w64 (p0 + 1)) f0 l32 f2 (l36.set (p0).toNat x37) ga gb A30 c31 H33 gc Ab cb gd A34 c35 ge t83 _ (hS82.rdT [1, 2, 3, 4, 0] 0) (hS82.rdT [1, 2, 3, 4, 0] 1) (hS82.rdT [1, 2, 3, 4, 0] 2) (hS82.rdT [1, 2, 3, 4, 0] 3) (hS82.io [1, 2, 3, 4, 0] (by decide)) ht84) (fun v w85 hR86 => ?_)
      obtain ⟨A88, c89, H90, A91, c92, rfl, hk_⟩ := hR86
      have hS87 := hS.go w85 [blk gb (.cells #[(sv A88 t83.1 c89)] 48 (0, 0)), rowO 54 encN_Row A88 c89 (tag H90 t83.1), poolO [nestO subN_Row H90 t83.1], blk gd (.cells #[(sv A91 t83.2 c92)] 23 (0, 0)), rowO 3 encInt A91 c92 t83.2] (hS82.call hk_ [1, 2, 3, 4, 0] [] (fun g hg => fpL_sel g hg) (by decide) (by decide))
      refine ⟨trivial, ?_⟩
      refine WL.done rfl ?_
      injection hx77 with hx77
      exact WX.to Kx76 ((t83.1, t83.2), A88, c89, H90, A91, c92) [0, 2, 3, 4, 5, 18, 19, 20] rfl ⟨(hS87.subR [0, 1, 2, 3]).sub [0, 1, 2, 3, 4] (by decide), hx77.symm⟩
     refine WC.condF2 (fun fb => by kernel_rfl) h78 ?_
     refine WC.skip ?_
     injection hx77 with hx77
     exact WX.to Kx76 ((l32, l36), A30, c31, H33, A34, c35) [0, 2, 3, 4, 5, 18, 19, 20] rfl ⟨(hS68.subR [0, 1, 2, 3]).sub [0, 1, 2, 3, 4] (by decide), hx77.symm⟩
    rintro ⟨y96, A71, c72, H73, A74, c75⟩ w93 ⟨hS94, hq95⟩
    subst hq95
    refine WX.blockN (WX.next ?_)
    refine WC.region ?_
    refine seg 2 [] [0, 2, 3, 4, 5, 18, 19, 20] [(0, (iv p0)), (2, (pt gb)), (3, (pt gc)), (4, (pt gd)), (5, (pt ge)), (18, (sv Ab f2 cb)), (19, (iv (f2.length : Int))), (20, (iv (w64 (x37 + 1))))] [] (fun fb => by kernel_rfl) rfl trivial ?_
    refine WL.done rfl ?_
    exact WX.again k46 (Nat.lt_succ_self _) ((x76.1, x76.2, w64 (x37 + 1)), A71, c72, H73, A74, c75) [0, 2, 3, 4, 5, 18, 19, 20] rfl ⟨(hS94.subR [0, 1, 2, 3]).sub [0, 1, 2, 3, 4] (by decide), hl49⟩
   refine WC.condF2 (fun fb => by kernel_rfl) h50 ?_
   refine WC.exit ?_
   injection hl49 with hl49
   exact WX.thenX (WX.thenX (WX.blockHere (WX.to Kx43 ((l32, l36), A30, c31, H33, A34, c35) [2, 4] rfl ⟨(hS48.subR [0, 1, 2, 3]).sub [0, 1, 2, 3, 4] (by decide), hl49.symm⟩)))
 rintro ⟨y100, A38, c39, H40, A41, c42⟩ w97 ⟨hS98, hq99⟩
 subst hq99
 injection hf with hf
 subst hf
 exact WX.end_ [] (.tuple #[]) [] (fun fb => by kernel_rfl) trivial ⟨_, rfl, A38, c39, H40, A41, c42, rfl, (hS98.sub [0, 1, 2, 3, 4] (by decide)).noR⟩
theorem rows_All_calls (k : Nat) (p0 : List Tile) (p1 : Int) (Aa : Option Addr) (ca : Nat) (r : (List Row)) (w : World) (hR0 : RO NoS w (rowR enc_Tile Aa ca p0)) (hf : rows_All k p0 p1 = some r) :
  CallsR Tryz.prog 32 #[(sv Aa p0 ca), (iv p1)] w (fun v w' => ∃ (A1_ : Option Addr), ∃ (c1_ : Nat), ∃ (h1_ : Nat → HF), v = (sv A1_ r c1_) ∧ St NoS w w' [] [rowO 54 encN_Row A1_ c1_ (tag h1_ r), poolO [nestO subN_Row h1_ r]]) := by
 have hS : St NoS w w [rowR enc_Tile Aa ca p0] [] := St.init (ro_cons hR0 (ro_nil _ _))
 refine enter 14 Tryz.func32 rfl Tryz.ntmps32 rfl ?_
 unfold rows_All at hf
 refine WC.seq (WC.region ?_)
 refine WL.new hS 2 [] (fun g => (pt g)) (.cells #[(sv Aa p0 ca)] 22 (0, 0)) [] (fun fb g => by kernel_rfl) trivial (fun g2 w3 hS4 => ?_)
 refine ⟨trivial, ?_⟩
 refine WL.new hS4 3 [] (fun g => (pt g)) (.cells #[(iv p1)] 3 (0, 0)) [] (fun fb g => by kernel_rfl) trivial (fun g5 w6 hS7 => ?_)
 refine ⟨trivial, ?_⟩
 refine seg 3 [] [2, 3] [(2, (pt g2)), (3, (pt g5))] [] (fun fb => by kernel_rfl) rfl trivial ?_
 refine WL.done rfl (WX.next (WC.seq (WC.region ?_)))
 refine WL.new hS7 5 [] (fun g => (pt g)) (.cells #[(.slice none 0 0)] 48 (0, 0)) [] (fun fb g => by kernel_rfl) trivial (fun g8 w9 hS10 => ?_)
 refine ⟨trivial, ?_⟩
 refine WL.done rfl (WX.next (WC.seq (WC.region ?_)))
 refine seg 1 [.v (iv p1)] [2, 3, 5, 8] [(2, (pt g2)), (3, (pt g5)), (5, (pt g8)), (8, (iv p1))] [.cell ⟨g5, 0, none⟩ (iv p1)] (fun fb => by kernel_rfl) rfl ⟨hS10.cell 1 rfl 0 rfl, trivial⟩ ?_
 obtain ⟨h11, hf⟩ := as_some hf
 refine WL.make hS10 (e := encInt) (T := 3) (tS := 23) (z := (iv 0)) (bytes := 8) (d := 9) (0 : Int) p1 (fun fb => by kernel_rfl) (by kernel_rfl) (by kernel_rfl) rfl (by decide) h11 (by decide) (fun g12 w13 hS14 => ?_)
 refine ⟨trivial, ?_⟩
 refine WL.new hS14 6 [] (fun g => (pt g)) (.cells #[(.slice none 0 0)] 23 (0, 0)) [] (fun fb g => by kernel_rfl) trivial (fun g15 w16 hS17 => ?_)
 refine ⟨trivial, ?_⟩
 refine WL.store hS17 0 rfl [(0, (sv (some ⟨g12, 0, none⟩) (List.replicate p1.toNat (0 : Int)) p1.toNat))] #[(sv (some ⟨g12, 0, none⟩) (List.replicate p1.toNat (0 : Int)) p1.toNat)] (fun fb => by kernel_rfl) (by kernel_rfl) rfl [1, 2, 3, 4] (by decide) (by decide) (fun w18 hS19 => ?_)
 refine ⟨trivial, ?_⟩
 refine WL.done rfl (WX.next (WC.seq (WC.region ?_)))
 refine WL.new hS19 7 [] (fun g => (pt g)) (.cells #[.nilFunc] 93 (0, 0)) [] (fun fb g => by kernel_rfl) trivial (fun g20 w21 hS22 => ?_)
 refine ⟨trivial, ?_⟩
 refine WL.done rfl (WX.next (WC.seq (WC.region ?_)))
 refine seg 1 [] [5, 7, 10] [(5, (pt g8)), (7, (pt g20)), (10, (.func (.func 44) #[] #[(pt g5), (pt g8), (pt g2), (pt g15), (pt g20)]))] [] (fun fb => by kernel_rfl) rfl trivial ?_
 refine WL.store hS22 0 rfl [(0, (.func (.func 44) #[] #[(pt g5), (pt g8), (pt g2), (pt g15), (pt g20)]))] #[(.func (.func 44) #[] #[(pt g5), (pt g8), (pt g2), (pt g15), (pt g20)])] (fun fb => by kernel_rfl) (by kernel_rfl) rfl [1, 2, 3, 4, 5] (by decide) (by decide) (fun w23 hS24 => ?_)
 refine ⟨trivial, ?_⟩
 refine WL.done rfl (WX.next (WC.seq (WC.region ?_)))
 refine seg 1 [.v (.func (.func 44) #[] #[(pt g5), (pt g8), (pt g2), (pt g15), (pt g20)])] [5, 11] [(5, (pt g8)), (11, (.func (.func 44) #[] #[(pt g5), (pt g8), (pt g2), (pt g15), (pt g20)]))] [.cell ⟨g20, 0, none⟩ (.func (.func 44) #[] #[(pt g5), (pt g8), (pt g2), (pt g15), (pt g20)])] (fun fb => by kernel_rfl) rfl ⟨hS24.cell 0 rfl 0 rfl, trivial⟩ ?_
 have hS25 := hS.go w23 [rowO 54 encN_Row none 0 (tag h0 ([] : List Row)), blk g20 (.cells #[(.func (.func 44) #[] #[(pt g5), (pt g8), (pt g2), (pt g15), (pt g20)])] 93 (0, 0)), blk g15 (.cells #[(sv (some ⟨g12, 0, none⟩) (List.replicate p1.toNat (0 : Int)) p1.toNat)] 23 (0, 0)), rowO 3 encInt (some ⟨g12, 0, none⟩) p1.toNat (List.replicate p1.toNat (0 : Int)), blk g8 (.cells #[(.slice none 0 0)] 48 (0, 0)), blk g5 (.cells #[(iv p1)] 3 (0, 0)), blk g2 (.cells #[(sv Aa p0 ca)] 22 (0, 0))] (hS24.nilrow 54 encN_Row)
 have hS26 := hS25.poolNil subN_Row h0
 obtain ⟨t27, ht28, hf⟩ := bind_some hf
 refine WL.call (some 12) 44 #[(iv 0), (pt g5), (pt g8), (pt g2), (pt g15), (pt g20)] (fun fb => by kernel_rfl) (rows_All_1_calls _ 0 p1 ([] : List Row) p0 (List.replicate p1.toNat (0 : Int)) g5 g8 none 0 h0 g2 Aa ca g15 (some ⟨g12, 0, none⟩) p1.toNat g20 t27 _ (hS26.owT [5, 1, 0, 3, 4] 6 (by decide)) (hS26.owT [5, 1, 0, 3, 4] 7 (by decide)) (hS26.rdT [5, 1, 0, 3, 4] 0) (hS26.owT [5, 1, 0, 3, 4] 2 (by decide)) (hS26.io [5, 1, 0, 3, 4] (by decide)) ht28) (fun v w29 hR30 => ?_)
 obtain ⟨A33, c34, H35, A36, c37, rfl, hk_⟩ := hR30
 have hS31 := hS25.go w29 [blk g8 (.cells #[(sv A33 t27.1 c34)] 48 (0, 0)), rowO 54 encN_Row A33 c34 (tag H35 t27.1), poolO [nestO subN_Row H35 t27.1], blk g15 (.cells #[(sv A36 t27.2 c37)] 23 (0, 0)), rowO 3 encInt A36 c37 t27.2, blk g20 (.cells #[(.func (.func 44) #[] #[(pt g5), (pt g8), (pt g2), (pt g15), (pt g20)])] 93 (0, 0)), blk g5 (.cells #[(iv p1)] 3 (0, 0)), blk g2 (.cells #[(sv Aa p0 ca)] 22 (0, 0))] (hS26.call hk_ [5, 1, 0, 3, 4] [2, 6, 7] (fun g hg => fpL_sel g hg) (by decide) (by decide))
 refine ⟨trivial, ?_⟩
 refine WL.done rfl (WX.next (WC.seq (WC.region ?_)))
 refine seg 2 [.v (sv A33 t27.1 c34)] [4] [(4, (sv A33 t27.1 c34))] [.cell ⟨g8, 0, none⟩ (sv A33 t27.1 c34)] (fun fb => by kernel_rfl) rfl ⟨hS31.cell 0 rfl 0 rfl, trivial⟩ ?_
 refine WL.done rfl (WX.next ?_)
 refine WC.ret ?_
 injection hf with hf
 subst hf
 exact WX.ret_ [] (sv A33 t27.1 c34) [] (fun fb => by kernel_rfl) trivial ⟨_, rfl, A33, c34, H35, rfl, (hS31.sub [1, 2] (by decide)).noR⟩
theorem fill_begin_calls (k : Nat) (p0 : List Tile) (p1 : Int) (p2 : Int) (p3 : Edges) (Aa : Option Addr) (ca : Nat) (Ab : Option Addr) (cb : Nat) (Ac : Option Addr) (cc : Nat) (Ad : Option Addr) (cd : Nat) (Ae : Option Addr) (ce : Nat) (r : (Option Job) × Int) (w : World) (hR0 : RO NoS w (rowR enc_Tile Aa ca p0)) (hR1 : RO NoS w (rowR encInt Ab cb p3.North)) (hR2 : RO NoS w (rowR encInt Ac cc p3.East)) (hR3 : RO NoS w (rowR encInt Ad cd p3.South)) (hR4 : RO NoS w (rowR encInt Ae ce p3.West)) (hf : fill_begin k p0 p1 p2 p3 = some r) :
  CallsR Tryz.prog 18 #[(sv Aa p0 ca), (iv p1), (iv p2), (.agg #[(sv Ab p3.North cb), (sv Ac p3.East cc), (sv Ad p3.South cd), (sv Ae p3.West ce)])] w (fun v w' => ∃ (g1_ : Nat), ∃ (A2_ : Option Addr), ∃ (c2_ : Nat), ∃ (h2_ : Nat → HF), v = (.tuple #[(optP r.1 g1_), (iv r.2)]) ∧ optS r.1 (Keeps NoS w w') (fun y_ => St NoS w w' [] [blk g1_ (.cells #[(sv A2_ y_.rows c2_), (iv y_.width), (iv y_.height), (sv Ab p3.North cb), (sv Ac p3.East cc), (sv Ad p3.South cd), (sv Ae p3.West ce)] 50 (0, 0)), rowO 54 encN_Row A2_ c2_ (tag h2_ y_.rows), poolO [nestO subN_Row h2_ y_.rows]])) := by
 have hS : St NoS w w [rowR enc_Tile Aa ca p0, rowR encInt Ab cb p3.North, rowR encInt Ac cc p3.East, rowR encInt Ad cd p3.South, rowR encInt Ae ce p3.West] [] := St.init (ro_cons hR0 (ro_cons hR1 (ro_cons hR2 (ro_cons hR3 (ro_cons hR4 (ro_nil _ _))))))
 refine enter 76 Tryz.func18 rfl Tryz.ntmps18 rfl ?_
 unfold fill_begin at hf
 refine WC.seq (WC.region ?_)
 refine WL.new hS 7 [] (fun g => (pt g)) (.cells #[(sv Ab p3.North cb), (sv Ac p3.East cc), (sv Ad p3.South cd), (sv Ae p3.West ce)] 25 (0, 0)) [] (fun fb g => by kernel_rfl) trivial (fun g5 w6 hS7 => ?_)
 refine ⟨trivial, ?_⟩
 refine seg 3 [] [0, 1, 2, 7] [(0, (sv Aa p0 ca)), (1, (iv p1)), (2, (iv p2)), (7, (pt g5))] [] (fun fb => by kernel_rfl) rfl trivial ?_
 refine WL.done rfl (WX.next (WC.seq (WC.seq (WC.region ?_))))
 refine seg 1 [] [0, 1, 2, 7, 12] [(0, (sv Aa p0 ca)), (1, (iv p1)), (2, (iv p2)), (7, (pt g5)), (12, (sv Aa p0 ca))] [] (fun fb => by kernel_rfl) rfl trivial ?_
 obtain ⟨t8, ht9, hf⟩ := bind_some hf
 refine WL.call (some 13) 28 #[(sv Aa p0 ca)] (fun fb => by kernel_rfl) (tile_Valid_calls _ p0 Aa ca t8 _ (hS7.rd 0) ht9) (fun v w10 hR11 => ?_)
 obtain ⟨rfl, hk_⟩ := hR11
 have hS12 := hS7.keepN hk_
 refine ⟨trivial, ?_⟩
 refine seg 3 [] [0, 1, 2, 7, 14] [(0, (sv Aa p0 ca)), (1, (iv p1)), (2, (iv p2)), (7, (pt g5)), (14, (bv (!t8)))] [] (fun fb => by kernel_rfl) rfl trivial ?_
 refine WL.done rfl (WX.next ?_)
 rcases br_some hf with ⟨h13, hf⟩ | ⟨h13, hf⟩
 ·refine WC.condT2 (fun fb => by kernel_rfl) h13 ?_
  refine WC.seq (WC.region ?_)
  refine seg 2 [] [8, 9] [(8, (.pointer none)), (9, (iv 1))] [] (fun fb => by kernel_rfl) rfl trivial ?_
  refine WL.done rfl (WX.next ?_)
  refine WC.ret ?_
  injection hf with hf
  subst hf
  exact WX.thenR (WX.ret_ [] (.tuple #[(.pointer none), (iv 1)]) [] (fun fb => by kernel_rfl) trivial ⟨_, rfl, 0, none, 0, h0, rfl, hS12.keep⟩)
 refine WC.condF2 (fun fb => by kernel_rfl) h13 ?_
 refine WC.skip (WX.next (WC.seq (WC.seq (WC.region ?_))))
 refine seg 3 [] [0, 1, 2, 7, 17] [(0, (sv Aa p0 ca)), (1, (iv p1)), (2, (iv p2)), (7, (pt g5)), (17, (bv (decide (p1 < 1))))] [] (fun fb => by kernel_rfl) rfl trivial ?_
 refine WL.cutV (T := Bool) 6 (fun t => [(20, (bv t)), (0, (sv Aa p0 ca)), (1, (iv p1)), (2, (iv p2)), (7, (pt g5))]) (fun t => ((decide (p1 < 1)) || (decide (p1 > 8))) = t) (fun K => ?_) ?_
 ·
  rcases Bool.eq_false_or_eq_true (decide (p1 < 1)) with h14 | h14
  ·
   refine WL.setB 17 h14 rfl ?_
   refine seg 6 [] [0, 1, 2, 7, 20] [(0, (sv Aa p0 ca)), (1, (iv p1)), (2, (iv p2)), (7, (pt g5)), (20, (bv true))] [] (fun fb => by kernel_rfl) rfl trivial ?_
   exact WL.toV K true [20, 0, 1, 2, 7] rfl (by first | (rw [h14]; done) | (rw [h14]; rfl))
  refine WL.setB 17 h14 rfl ?_
  refine seg 6 [] [0, 1, 2, 7, 20] [(0, (sv Aa p0 ca)), (1, (iv p1)), (2, (iv p2)), (7, (pt g5)), (20, (bv (decide (p1 > 8))))] [] (fun fb => by kernel_rfl) rfl trivial ?_
  exact WL.toV K (decide (p1 > 8)) [20, 0, 1, 2, 7] rfl (by first | (rw [h14]; done) | (rw [h14]; rfl))
 rintro b15 rfl
 refine seg 7 [] [0, 1, 2, 7, 21] [(0, (sv Aa p0 ca)), (1, (iv p1)), (2, (iv p2)), (7, (pt g5)), (21, (bv ((decide (p1 < 1)) || (decide (p1 > 8)))))] [] (fun fb => by kernel_rfl) rfl trivial ?_
 refine WL.cutV (T := Bool) 10 (fun t => [(24, (bv t)), (0, (sv Aa p0 ca)), (1, (iv p1)), (2, (iv p2)), (7, (pt g5))]) (fun t => (((decide (p1 < 1)) || (decide (p1 > 8))) || (decide (p2 < 1))) = t) (fun K => ?_) ?_
 ·
  rcases Bool.eq_false_or_eq_true ((decide (p1 < 1)) || (decide (p1 > 8))) with h16 | h16
  ·
   refine WL.setB 21 h16 rfl ?_
   refine seg 10 [] [0, 1, 2, 7, 24] [(0, (sv Aa p0 ca)), (1, (iv p1)), (2, (iv p2)), (7, (pt g5)), (24, (bv true))] [] (fun fb => by kernel_rfl) rfl trivial ?_
   exact WL.toV K true [24, 0, 1, 2, 7] rfl (by first | (rw [h16]; done) | (rw [h16]; rfl))
  refine WL.setB 21 h16 rfl ?_
  refine seg 10 [] [0, 1, 2, 7, 24] [(0, (sv Aa p0 ca)), (1, (iv p1)), (2, (iv p2)), (7, (pt g5)), (24, (bv (decide (p2 < 1))))] [] (fun fb => by kernel_rfl) rfl trivial ?_
  exact WL.toV K (decide (p2 < 1)) [24, 0, 1, 2, 7] rfl (by first | (rw [h16]; done) | (rw [h16]; rfl))
 rintro b17 rfl
 refine seg 11 [] [0, 1, 2, 7, 25] [(0, (sv Aa p0 ca)), (1, (iv p1)), (2, (iv p2)), (7, (pt g5)), (25, (bv (((decide (p1 < 1)) || (decide (p1 > 8))) || (decide (p2 < 1)))))] [] (fun fb => by kernel_rfl) rfl trivial ?_
 refine WL.cutV (T := Bool) 14 (fun t => [(28, (bv t)), (0, (sv Aa p0 ca)), (1, (iv p1)), (2, (iv p2)), (7, (pt g5))]) (fun t => ((((decide (p1 < 1)) || (decide (p1 > 8))) || (decide (p2 < 1))) || (decide (p2 > 60))) = t) (fun K => ?_) ?_
 ·
  rcases Bool.eq_false_or_eq_true (((decide (p1 < 1)) || (decide (p1 > 8))) || (decide (p2 < 1))) with h19 | h19
  ·
   refine WL.setB 25 h19 rfl ?_
   refine seg 14 [] [0, 1, 2, 7, 28] [(0, (sv Aa p0 ca)), (1, (iv p1)), (2, (iv p2)), (7, (pt g5)), (28, (bv true))] [] (fun fb => by kernel_rfl) rfl trivial ?_
   exact WL.toV K true [28, 0, 1, 2, 7] rfl (by first | (rw [h19]; done) | (rw [h19]; rfl))
  refine WL.setB 25 h19 rfl ?_
  refine seg 14 [] [0, 1, 2, 7, 28] [(0, (sv Aa p0 ca)), (1, (iv p1)), (2, (iv p2)), (7, (pt g5)), (28, (bv (decide (p2 > 60))))] [] (fun fb => by kernel_rfl) rfl trivial ?_
  exact WL.toV K (decide (p2 > 60)) [28, 0, 1, 2, 7] rfl (by first | (rw [h19]; done) | (rw [h19]; rfl))
 rintro b20 rfl
 refine WL.done rfl (WX.next ?_)
 rcases br_some hf with ⟨h21, hf⟩ | ⟨h21, hf⟩
 ·refine WC.condT2 (fun fb => by kernel_rfl) h21 ?_
  refine WC.seq (WC.region ?_)
  refine seg 2 [] [8, 9] [(8, (.pointer none)), (9, (iv 2))] [] (fun fb => by kernel_rfl) rfl trivial ?_
  refine WL.done rfl (WX.next ?_)
  refine WC.ret ?_
  injection hf with hf
  subst hf
  exact WX.thenR (WX.ret_ [] (.tuple #[(.pointer none), (iv 2)]) [] (fun fb => by kernel_rfl) trivial ⟨_, rfl, 0, none, 0, h0, rfl, hS12.keep⟩)
 refine WC.condF2 (fun fb => by kernel_rfl) h21 ?_
 refine WC.skip (WX.next (WC.seq (WC.seq (WC.region ?_))))
 refine seg 16 [.v (sv Ab p3.North cb), .v (sv Ad p3.South cd), .v (sv Ac p3.East cc), .v (sv Ae p3.West ce)] [0, 1, 2, 7, 32, 36, 40, 44] [(0, (sv Aa p0 ca)), (1, (iv p1)), (2, (iv p2)), (7, (pt g5)), (32, (.agg #[(sv Ab p3.North cb), (iv p1)])), (36, (.agg #[(sv Ad p3.South cd), (iv p1)])), (40, (.agg #[(sv Ac p3.East cc), (iv p2)])), (44, (.agg #[(sv Ae p3.West ce), (iv p2)]))] [.cell ⟨g5, 0, none⟩ (sv Ab p3.North cb), .cell ⟨g5, 2, none⟩ (sv Ad p3.South cd), .cell ⟨g5, 1, none⟩ (sv Ac p3.East cc), .cell ⟨g5, 3, none⟩ (sv Ae p3.West ce)] (fun fb => by kernel_rfl) rfl ⟨hS12.cell 0 rfl 0 rfl, hS12.cell 0 rfl 2 rfl, hS12.cell 0 rfl 1 rfl, hS12.cell 0 rfl 3 rfl, trivial⟩ ?_
 refine WL.new hS12 45 [] (fun g => (.slice (some ⟨g, 0, none⟩) 4 4)) (.cells #[(sv Ab p3.North cb), (iv p1), (sv Ad p3.South cd), (iv p1), (sv Ac p3.East cc), (iv p2), (sv Ae p3.West ce), (iv p2)] 73 (0, 0)) [] (fun fb g => by kernel_rfl) trivial (fun g22 w23 hS24 => ?_)
 refine ⟨trivial, ?_⟩
 have hS26 : St NoS w w23 [nestO subN_S_side_n (hlN [(hd1 Ab cb), (hd1 Ad cd), (hd1 Ac cc), (hd1 Ae ce)]) [(S_side_n.mk p3.North p1), (S_side_n.mk p3.South p1), (S_side_n.mk p3.East p2), (S_side_n.mk p3.West p2)], rowR enc_Tile Aa ca p0, rowR encInt Ab cb p3.North, rowR encInt Ac cc p3.East, rowR encInt Ad cd p3.South, rowR encInt Ae ce p3.West] [blk g22 (.cells #[(sv Ab p3.North cb), (iv p1), (sv Ad p3.South cd), (iv p1), (sv Ac p3.East cc), (iv p2), (sv Ae p3.West ce), (iv p2)] 73 (0, 0)), blk g5 (.cells #[(sv Ab p3.North cb), (sv Ac p3.East cc), (sv Ad p3.South cd), (sv Ae p3.West ce)] 25 (0, 0))] := hS24.addR _ (nestO_cons (hS24.rdL 1) (nestO_cons (hS24.rdL 3) (nestO_cons (hS24.rdL 2) (nestO_cons (hS24.rdL 4) (nestO_nil _ _ _ _)))))
 have hS25 := hS26.go w23 [rowO 73 encN_S_side_n (some ⟨g22, 0, none⟩) 4 (tag (hlN [(hd1 Ab cb), (hd1 Ad cd), (hd1 Ac cc), (hd1 Ae ce)]) [(S_side_n.mk p3.North p1), (S_side_n.mk p3.South p1), (S_side_n.mk p3.East p2), (S_side_n.mk p3.West p2)]), blk g5 (.cells #[(sv Ab p3.North cb), (sv Ac p3.East cc), (sv Ad p3.South cd), (sv Ae p3.West ce)] 25 (0, 0))] (hS26.map1 0 _ (fun h => rowO.ofBlk h rfl (Nat.le_of_ble_eq_true (by kernel_rfl))) (fun _ h => by obtain ⟨_, h1, h2⟩ := h; injection h1 with h1; subst h1; exact h2) [1] (by decide) (by decide))
 refine seg 19 [] [0, 1, 2, 7, 45, 46, 47] [(0, (sv Aa p0 ca)), (1, (iv p1)), (2, (iv p2)), (7, (pt g5)), (45, (sv (some ⟨g22, 0, none⟩) [(S_side_n.mk p3.North p1), (S_side_n.mk p3.South p1), (S_side_n.mk p3.East p2), (S_side_n.mk p3.West p2)] 4)), (46, (iv ([(S_side_n.mk p3.North p1), (S_side_n.mk p3.South p1), (S_side_n.mk p3.East p2), (S_side_n.mk p3.West p2)].length : Int))), (47, (iv 0))] [] (fun fb => by kernel_rfl) rfl trivial ?_
 refine WL.done rfl (WX.next ?_)
 obtain ⟨x28, hx29, hf⟩ := bind_some hf
 refine WC.cutN (T := Unit) (fun t => [(0, (sv Aa p0 ca)), (1, (iv p1)), (2, (iv p2)), (7, (pt g5))]) (fun t w1 => St NoS w w1 [nestO subN_S_side_n (hlN [(hd1 Ab cb), (hd1 Ad cd), (hd1 Ac cc), (hd1 Ae ce)]) [(S_side_n.mk p3.North p1), (S_side_n.mk p3.South p1), (S_side_n.mk p3.East p2), (S_side_n.mk p3.West p2)], rowR enc_Tile Aa ca p0, rowR encInt Ab cb p3.North, rowR encInt Ac cc p3.East, rowR encInt Ad cd p3.South, rowR encInt Ae ce p3.West] [blk g5 (.cells #[(sv Ab p3.North cb), (sv Ac p3.East cc), (sv Ad p3.South cd), (sv Ae p3.West ce)] 25 (0, 0))] ∧ x28 = .inr t) (fun Kx28 => ?_) ?_
 ·
  refine WC.block ?_
  refine WC.loop (T := Int) (fun t => [(0, (sv Aa p0 ca)), (1, (iv p1)), (2, (iv p2)), (7, (pt g5)), (45, (sv (some ⟨g22, 0, none⟩) [(S_side_n.mk p3.North p1), (S_side_n.mk p3.South p1), (S_side_n.mk p3.East p2), (S_side_n.mk p3.West p2)] 4)), (46, (iv ([(S_side_n.mk p3.North p1), (S_side_n.mk p3.South p1), (S_side_n.mk p3.East p2), (S_side_n.mk p3.West p2)].length : Int))), (47, (iv t))]) (fun n t w1 => St NoS w w1 [nestO subN_S_side_n (hlN [(hd1 Ab cb), (hd1 Ad cd), (hd1 Ac cc), (hd1 Ae ce)]) [(S_side_n.mk p3.North p1), (S_side_n.mk p3.South p1), (S_side_n.mk p3.East p2), (S_side_n.mk p3.West p2)], rowR enc_Tile Aa ca p0, rowR encInt Ab cb p3.North, rowR encInt Ac cc p3.East, rowR encInt Ad cd p3.South, rowR encInt Ae ce p3.West] [blk g5 (.cells #[(sv Ab p3.North cb), (sv Ac p3.East cc), (sv Ad p3.South cd), (sv Ae p3.West ce)] 25 (0, 0)), rowO 73 encN_S_side_n (some ⟨g22, 0, none⟩) 4 (tag (hlN [(hd1 Ab cb), (hd1 Ad cd), (hd1 Ac cc), (hd1 Ae ce)]) [(S_side_n.mk p3.North p1), (S_side_n.mk p3.South p1), (S_side_n.mk p3.East p2), (S_side_n.mk p3.West p2)])] ∧ fill_begin.l0 n t p1 p2 p3 = some x28) k 0 [0, 1, 2, 7, 45, 46, 47] rfl ⟨(hS25.subR [0, 1, 2, 3, 4, 5]).sub [1, 0] (by decide), hx29⟩ ?_
  rintro k30 x27 w31 ⟨hS32, hl33⟩
  cases k30 with
  | zero => rw [fill_begin.l0] at hl33; cases hl33
  | succ k30 =>
   rw [fill_begin.l0] at hl33
   refine WC.seq (WC.region ?_)
   refine seg 1 [] [0, 1, 2, 7, 45, 46, 47, 48] [(0, (sv Aa p0 ca)), (1, (iv p1)), (2, (iv p2)), (7, (pt g5)), (45, (sv (some ⟨g22, 0, none⟩) [(S_side_n.mk p3.North p1), (S_side_n.mk p3.South p1), (S_side_n.mk p3.East p2), (S_side_n.mk p3.West p2)] 4)), (46, (iv ([(S_side_n.mk p3.North p1), (S_side_n.mk p3.South p1), (S_side_n.mk p3.East p2), (S_side_n.mk p3.West p2)].length : Int))), (47, (iv x27)), (48, (bv (decide (x27 < ([(S_side_n.mk p3.North p1), (S_side_n.mk p3.South p1), (S_side_n.mk p3.East p2), (S_side_n.mk p3.West p2)].length : Int)))))] [] (fun fb => by kernel_rfl) rfl trivial ?_
   refine WL.done rfl (WX.next (WC.seq ?_))
   rcases br_some hl33 with ⟨h34, hl33⟩ | ⟨h34, hl33⟩
   ·refine WC.condT2 (fun fb => by kernel_rfl) h34 ?_
    refine WC.skip (WX.next (WC.seq (WC.block (WC.seq (WC.region ?_)))))
    obtain ⟨h35, hl33⟩ := as_some hl33
    refine seg 2 [.v (sv (((hlN [(hd1 Ab cb), (hd1 Ad cd), (hd1 Ac cc), (hd1 Ae ce)]) x27.toNat 0).1) ((rdD [(S_side_n.mk p3.North p1), (S_side_n.mk p3.South p1), (S_side_n.mk p3.East p2), (S_side_n.mk p3.West p2)] x27 z_S_side_n).side) (((hlN [(hd1 Ab cb), (hd1 Ad cd), (hd1 Ac cc), (hd1 Ae ce)]) x27.toNat 0).2)), .v (iv ((rdD [(S_side_n.mk p3.North p1), (S_side_n.mk p3.South p1), (S_side_n.mk p3.East p2), (S_side_n.mk p3.West p2)] x27 z_S_side_n).n))] [0, 1, 2, 7, 45, 46, 47, 50] [(0, (sv Aa p0 ca)), (1, (iv p1)), (2, (iv p2)), (7, (pt g5)), (45, (sv (some ⟨g22, 0, none⟩) [(S_side_n.mk p3.North p1), (S_side_n.mk p3.South p1), (S_side_n.mk p3.East p2), (S_side_n.mk p3.West p2)] 4)), (46, (iv ([(S_side_n.mk p3.North p1), (S_side_n.mk p3.South p1), (S_side_n.mk p3.East p2), (S_side_n.mk p3.West p2)].length : Int))), (47, (iv x27)), (50, (.agg #[(sv (((hlN [(hd1 Ab cb), (hd1 Ad cd), (hd1 Ac cc), (hd1 Ae ce)]) x27.toNat 0).1) ((rdD [(S_side_n.mk p3.North p1), (S_side_n.mk p3.South p1), (S_side_n.mk p3.East p2), (S_side_n.mk p3.West p2)] x27 z_S_side_n).side) (((hlN [(hd1 Ab cb), (hd1 Ad cd), (hd1 Ac cc), (hd1 Ae ce)]) x27.toNat 0).2)), (iv ((rdD [(S_side_n.mk p3.North p1), (S_side_n.mk p3.South p1), (S_side_n.mk p3.East p2), (S_side_n.mk p3.West p2)] x27 z_S_side_n).n))]))] [.idx (some ⟨g22, 0, none⟩) x27 [(S_side_n.mk p3.North p1), (S_side_n.mk p3.South p1), (S_side_n.mk p3.East p2), (S_side_n.mk p3.West p2)].length, .cell ((adr (some ⟨g22, 0, none⟩)).add ((x27).toNat * 2)) (sv (((hlN [(hd1 Ab cb), (hd1 Ad cd), (hd1 Ac cc), (hd1 Ae ce)]) x27.toNat 0).1) ((rdD [(S_side_n.mk p3.North p1), (S_side_n.mk p3.South p1), (S_side_n.mk p3.East p2), (S_side_n.mk p3.West p2)] x27 z_S_side_n).side) (((hlN [(hd1 Ab cb), (hd1 Ad cd), (hd1 Ac cc), (hd1 Ae ce)]) x27.toNat 0).2)), .cell (((adr (some ⟨g22, 0, none⟩)).add ((x27).toNat * 2)).add 1) (iv ((rdD [(S_side_n.mk p3.North p1), (S_side_n.mk p3.South p1), (S_side_n.mk p3.East p2), (S_side_n.mk p3.West p2)] x27 z_S_side_n).n))] (fun fb => by kernel_rfl) rfl ⟨nrow_adr (rowO.rd (hS32.own 1).1) h35.1 h35.2, nrow_cell (rowO.rd (hS32.own 1).1) z_S_side_n h35.1 h35.2 0 rfl, nrow_cell (rowO.rd (hS32.own 1).1) z_S_side_n h35.1 h35.2 1 rfl, trivial⟩ ?_
    refine WL.new hS32 11 [] (fun g => (pt g)) (.cells #[(.slice none 0 0), (iv 0)] 73 (0, 0)) [] (fun fb g => by kernel_rfl) trivial (fun g36 w37 hS38 => ?_)
    refine ⟨trivial, ?_⟩
    refine WL.store hS38 0 rfl [(0, (sv (((hlN [(hd1 Ab cb), (hd1 Ad cd), (hd1 Ac cc), (hd1 Ae ce)]) x27.toNat 0).1) ((rdD [(S_side_n.mk p3.North p1), (S_side_n.mk p3.South p1), (S_side_n.mk p3.East p2), (S_side_n.mk p3.West p2)] x27 z_S_side_n).side) (((hlN [(hd1 Ab cb), (hd1 Ad cd), (hd1 Ac cc), (hd1 Ae ce)]) x27.toNat 0).2))), (1, (iv ((rdD [(S_side_n.mk p3.North p1), (S_side_n.mk p3.South p1), (S_side_n.mk p3.East p2), (S_side_n.mk p3.West p2)] x27 z_S_side_n).n)))] #[(sv (((hlN [(hd1 Ab cb), (hd1 Ad cd), (hd1 Ac cc), (hd1 Ae ce)]) x27.toNat 0).1) ((rdD [(S_side_n.mk p3.North p1), (S_side_n.mk p3.South p1), (S_side_n.mk p3.East p2), (S_side_n.mk p3.West p2)] x27 z_S_side_n).side) (((hlN [(hd1 Ab cb), (hd1 Ad cd), (hd1 Ac cc), (hd1 Ae ce)]) x27.toNat 0).2)), (iv ((rdD [(S_side_n.mk p3.North p1), (S_side_n.mk p3.South p1), (S_side_n.mk p3.East p2), (S_side_n.mk p3.West p2)] x27 z_S_side_n).n))] (fun fb => by kernel_rfl) (by kernel_rfl) rfl [1, 2] (by decide) (by decide) (fun w39 hS40 => ?_)
    refine ⟨trivial, ?_⟩
    refine WL.done rfl (WX.next (WC.seq (WC.region ?_)))
    refine seg 5 [.v (sv (((hlN [(hd1 Ab cb), (hd1 Ad cd), (hd1 Ac cc), (hd1 Ae ce)]) x27.toNat 0).1) ((rdD [(S_side_n.mk p3.North p1), (S_side_n.mk p3.South p1), (S_side_n.mk p3.East p2), (S_side_n.mk p3.West p2)] x27 z_S_side_n).side) (((hlN [(hd1 Ab cb), (hd1 Ad cd), (hd1 Ac cc), (hd1 Ae ce)]) x27.toNat 0).2))] [0, 1, 2, 7, 11, 45, 46, 47, 55] [(0, (sv Aa p0 ca)), (1, (iv p1)), (2, (iv p2)), (7, (pt g5)), (11, (pt g36)), (45, (sv (some ⟨g22, 0, none⟩) [(S_side_n.mk p3.North p1), (S_side_n.mk p3.South p1), (S_side_n.mk p3.East p2), (S_side_n.mk p3.West p2)] 4)), (46, (iv ([(S_side_n.mk p3.North p1), (S_side_n.mk p3.South p1), (S_side_n.mk p3.East p2), (S_side_n.mk p3.West p2)].length : Int))), (47, (iv x27)), (55, (bv ((((rdD [(S_side_n.mk p3.North p1), (S_side_n.mk p3.South p1), (S_side_n.mk p3.East p2), (S_side_n.mk p3.West p2)] x27 z_S_side_n).side).length : Int) != 0)))] [.cell ⟨g36, 0, none⟩ (sv (((hlN [(hd1 Ab cb), (hd1 Ad cd), (hd1 Ac cc), (hd1 Ae ce)]) x27.toNat 0).1) ((rdD [(S_side_n.mk p3.North p1), (S_side_n.mk p3.South p1), (S_side_n.mk p3.East p2), (S_side_n.mk p3.West p2)] x27 z_S_side_n).side) (((hlN [(hd1 Ab cb), (hd1 Ad cd), (hd1 Ac cc), (hd1 Ae ce)]) x27.toNat 0).2))] (fun fb => by kernel_rfl) rfl ⟨hS40.cell 0 rfl 0 rfl, trivial⟩ ?_
    refine WL.cutV (T := Bool) 12 (fun t => [(62, (bv t)), (0, (sv Aa p0 ca)), (1, (iv p1)), (2, (iv p2)), (7, (pt g5)), (45, (sv (some ⟨g22, 0, none⟩) [(S_side_n.mk p3.North p1), (S_side_n.mk p3.South p1), (S_side_n.mk p3.East p2), (S_side_n.mk p3.West p2)] 4)), (46, (iv ([(S_side_n.mk p3.North p1), (S_side_n.mk p3.South p1), (S_side_n.mk p3.East p2), (S_side_n.mk p3.West p2)].length : Int))), (47, (iv x27))]) (fun t => (((((rdD [(S_side_n.mk p3.North p1), (S_side_n.mk p3.South p1), (S_side_n.mk p3.East p2), (S_side_n.mk p3.West p2)] x27 z_S_side_n).side).length : Int) != 0) && ((((rdD [(S_side_n.mk p3.North p1), (S_side_n.mk p3.South p1), (S_side_n.mk p3.East p2), (S_side_n.mk p3.West p2)] x27 z_S_side_n).side).length : Int) != ((rdD [(S_side_n.mk p3.North p1), (S_side_n.mk p3.South p1), (S_side_n.mk p3.East p2), (S_side_n.mk p3.West p2)] x27 z_S_side_n).n))) = t) (fun K => ?_) ?_
    ·
     rcases Bool.eq_false_or_eq_true ((((rdD [(S_side_n.mk p3.North p1), (S_side_n.mk p3.South p1), (S_side_n.mk p3.East p2), (S_side_n.mk p3.West p2)] x27 z_S_side_n).side).length : Int) != 0) with h41 | h41
     ·
      refine WL.setB 55 h41 rfl ?_
      refine seg 12 [.v (sv (((hlN [(hd1 Ab cb), (hd1 Ad cd), (hd1 Ac cc), (hd1 Ae ce)]) x27.toNat 0).1) ((rdD [(S_side_n.mk p3.North p1), (S_side_n.mk p3.South p1), (S_side_n.mk p3.East p2), (S_side_n.mk p3.West p2)] x27 z_S_side_n).side) (((hlN [(hd1 Ab cb), (hd1 Ad cd), (hd1 Ac cc), (hd1 Ae ce)]) x27.toNat 0).2)), .v (iv ((rdD [(S_side_n.mk p3.North p1), (S_side_n.mk p3.South p1), (S_side_n.mk p3.East p2), (S_side_n.mk p3.West p2)] x27 z_S_side_n).n))] [0, 1, 2, 7, 45, 46, 47, 62] [(0, (sv Aa p0 ca)), (1, (iv p1)), (2, (iv p2)), (7, (pt g5)), (45, (sv (some ⟨g22, 0, none⟩) [(S_side_n.mk p3.North p1), (S_side_n.mk p3.South p1), (S_side_n.mk p3.East p2), (S_side_n.mk p3.West p2)] 4)), (46, (iv ([(S_side_n.mk p3.North p1), (S_side_n.mk p3.South p1), (S_side_n.mk p3.East p2), (S_side_n.mk p3.West p2)].length : Int))), (47, (iv x27)), (62, (bv ((((rdD [(S_side_n.mk p3.North p1), (S_side_n.mk p3.South p1), (S_side_n.mk p3.East p2), (S_side_n.mk p3.West p2)] x27 z_S_side_n).side).length : Int) != ((rdD [(S_side_n.mk p3.North p1), (S_side_n.mk p3.South p1), (S_side_n.mk p3.East p2), (S_side_n.mk p3.West p2)] x27 z_S_side_n).n))))] [.cell ⟨g36, 0, none⟩ (sv (((hlN [(hd1 Ab cb), (hd1 Ad cd), (hd1 Ac cc), (hd1 Ae ce)]) x27.toNat 0).1) ((rdD [(S_side_n.mk p3.North p1), (S_side_n.mk p3.South p1), (S_side_n.mk p3.East p2), (S_side_n.mk p3.West p2)] x27 z_S_side_n).side) (((hlN [(hd1 Ab cb), (hd1 Ad cd), (hd1 Ac cc), (hd1 Ae ce)]) x27.toNat 0).2)), .cell ⟨g36, 1, none⟩ (iv ((rdD [(S_side_n.mk p3.North p1), (S_side_n.mk p3.South p1), (S_side_n.mk p3.East p2), (S_side_n.mk p3.West p2)] x27 z_S_side_n).n))] (fun fb => by kernel_rfl) rfl ⟨hS40.cell 0 rfl 0 rfl, hS40.cell 0 rfl 1 rfl, trivial⟩ ?_
      exact WL.toV K ((((rdD [(S_side_n.mk p3.North p1), (S_side_n.mk p3.South p1), (S_side_n.mk p3.East p2), (S_side_n.mk p3.West p2)] x27 z_S_side_n).side).length : Int) != ((rdD [(S_side_n.mk p3.North p1), (S_side_n.mk p3.South p1), (S_side_n.mk p3.East p2), (S_side_n.mk p3.West p2)] x27 z_S_side_n).n)) [62, 0, 1, 2, 7, 45, 46, 47] rfl (by first | (rw [h41]; done) | (rw [h41]; rfl))
     refine WL.setB 55 h41 rfl ?_
     refine seg 12 [] [0, 1, 2, 7, 45, 46, 47, 62] [(0, (sv Aa p0 ca)), (1, (iv p1)), (2, (iv p2)), (7, (pt g5)), (45, (sv (some ⟨g22, 0, none⟩) [(S_side_n.mk p3.North p1), (S_side_n.mk p3.South p1), (S_side_n.mk p3.East p2), (S_side_n.mk p3.West p2)] 4)), (46, (iv ([(S_side_n.mk p3.North p1), (S_side_n.mk p3.South p1), (S_side_n.mk p3.East p2), (S_side_n.mk p3.West p2)].length : Int))), (47, (iv x27)), (62, (bv false))] [] (fun fb => by kernel_rfl) rfl trivial ?_
     exact WL.toV K false [62, 0, 1, 2, 7, 45, 46, 47] rfl (by first | (rw [h41]; done) | (rw [h41]; rfl))
    rintro b42 rfl
    refine WL.done rfl (WX.next ?_)
    rcases br_some hl33 with ⟨h43, hl33⟩ | ⟨h43, hl33⟩
    ·refine WC.condT2 (fun fb => by kernel_rfl) h43 ?_
     refine WC.seq (WC.region ?_)
     refine seg 2 [] [8, 9] [(8, (.pointer none)), (9, (iv 2))] [] (fun fb => by kernel_rfl) rfl trivial ?_
     refine WL.done rfl (WX.next ?_)
     refine WC.ret ?_
     injection hl33 with hl33
     subst hl33
     injection hf with hf
     subst hf
     exact WX.blockR (WX.thenR (WX.thenR (WX.blockR (WX.thenR (WX.ret_ [] (.tuple #[(.pointer none), (iv 2)]) [] (fun fb => by kernel_rfl) trivial ⟨_, rfl, 0, none, 0, h0, rfl, hS40.keep⟩)))))
    refine WC.condF2 (fun fb => by kernel_rfl) h43 ?_
    refine WC.skip ?_
    refine WX.blockN (WX.next ?_)
    refine WC.region ?_
    refine seg 2 [] [0, 1, 2, 7, 45, 46, 47] [(0, (sv Aa p0 ca)), (1, (iv p1)), (2, (iv p2)), (7, (pt g5)), (45, (sv (some ⟨g22, 0, none⟩) [(S_side_n.mk p3.North p1), (S_side_n.mk p3.South p1), (S_side_n.mk p3.East p2), (S_side_n.mk p3.West p2)] 4)), (46, (iv ([(S_side_n.mk p3.North p1), (S_side_n.mk p3.South p1), (S_side_n.mk p3.East p2), (S_side_n.mk p3.West p2)].length : Int))), (47, (iv (w64 (x27 + 1))))] [] (fun fb => by kernel_rfl) rfl trivial ?_
    refine WL.done rfl ?_
    exact WX.again k30 (Nat.lt_succ_self _) (w64 (x27 + 1)) [0, 1, 2, 7, 45, 46, 47] rfl ⟨(hS40.subR [0, 1, 2, 3, 4, 5]).sub [1, 2] (by decide), hl33⟩
   refine WC.condF2 (fun fb => by kernel_rfl) h34 ?_
   refine WC.exit ?_
   injection hl33 with hl33
   exact WX.thenX (WX.thenX (WX.blockHere (WX.to Kx28 () [0, 1, 2, 7] rfl ⟨(hS32.subR [0, 1, 2, 3, 4, 5]).sub [0] (by decide), hl33.symm⟩)))
 rintro y47 w44 ⟨hS45, hq46⟩
 subst hq46
 have hf := sum_inr hf
 refine WX.next (WC.seq (WC.seq (WC.region ?_)))
 refine seg 2 [] [0, 1, 2, 7, 64, 65] [(0, (sv Aa p0 ca)), (1, (iv p1)), (2, (iv p2)), (7, (pt g5)), (64, (sv Aa p0 ca)), (65, (iv p1))] [] (fun fb => by kernel_rfl) rfl trivial ?_
 obtain ⟨t48, ht49, hf⟩ := bind_some hf
 refine WL.call (some 66) 31 #[(sv Aa p0 ca), (iv p1)] (fun fb => by kernel_rfl) (rows_Few_calls _ p0 p1 Aa ca t48 _ (hS45.rd 1) ht49) (fun v w50 hR51 => ?_)
 obtain ⟨rfl, hk_⟩ := hR51
 have hS52 := hS45.keepN hk_
 refine ⟨trivial, ?_⟩
 refine seg 4 [] [0, 1, 2, 7, 67] [(0, (sv Aa p0 ca)), (1, (iv p1)), (2, (iv p2)), (7, (pt g5)), (67, (bv (!t48)))] [] (fun fb => by kernel_rfl) rfl trivial ?_
 refine WL.done rfl (WX.next ?_)
 rcases br_some hf with ⟨h53, hf⟩ | ⟨h53, hf⟩
 ·refine WC.condT2 (fun fb => by kernel_rfl) h53 ?_
  refine WC.seq (WC.region ?_)
  refine seg 2 [] [8, 9] [(8, (.pointer none)), (9, (iv 4))] [] (fun fb => by kernel_rfl) rfl trivial ?_
  refine WL.done rfl (WX.next ?_)
  refine WC.ret ?_
  injection hf with hf
  subst hf
  exact WX.thenR (WX.ret_ [] (.tuple #[(.pointer none), (iv 4)]) [] (fun fb => by kernel_rfl) trivial ⟨_, rfl, 0, none, 0, h0, rfl, hS52.keep⟩)
 refine WC.condF2 (fun fb => by kernel_rfl) h53 ?_
 refine WC.skip (WX.next (WC.seq ?_))
 refine WC.regionD ([(5, ⟨g5, 0, none⟩, (sv Ab p3.North cb)), (5, ⟨g5, 1, none⟩, (sv Ac p3.East cc)), (5, ⟨g5, 2, none⟩, (sv Ad p3.South cd)), (5, ⟨g5, 3, none⟩, (sv Ae p3.West ce))], [0, 1, 3, 4, 5, 6, 8, 9], [[], [], [0, 1], [], [], [], [0, 1, 2, 3, 4, 5], [0, 1, 2, 3, 4, 5, 6], [0, 1, 2, 3, 4, 5, 6, 7], [0, 1, 2, 3, 4, 5, 6, 7, 8]]) [[0, 1, 3, 4, 5, 2, 6, 7, 8, 9]] (by kernel_rfl) (by kernel_rfl) (NoPanic.seq (NoPanic.body)) ?_
 have hS55 := hS52.drew
 revert hS55
 generalize World.drew w50 = w54
 intro hS55
 refine ⟨⟨hS55.cell 0 rfl 0 rfl, hS55.cell 0 rfl 1 rfl, hS55.cell 0 rfl 2 rfl, hS55.cell 0 rfl 3 rfl, trivial⟩, forallC ?_ (forallN)⟩
 refine segF 5 [.v (sv Ab p3.North cb), .v (sv Ac p3.East cc), .v (sv Ad p3.South cd), .v (sv Ae p3.West ce)] [68, 69, 71, 72, 73] [(68, (sv Aa p0 ca)), (69, (iv p1)), (71, (iv p1)), (72, (iv p2)), (73, (.agg #[(sv Ab p3.North cb), (sv Ac p3.East cc), (sv Ad p3.South cd), (sv Ae p3.West ce)]))] [] [0, 1, 2, 3] [(5, ⟨g5, 0, none⟩, (sv Ab p3.North cb)), (5, ⟨g5, 1, none⟩, (sv Ac p3.East cc)), (5, ⟨g5, 2, none⟩, (sv Ad p3.South cd)), (5, ⟨g5, 3, none⟩, (sv Ae p3.West ce))] (fun fb => by kernel_rfl) rfl trivial rfl ?_
 obtain ⟨t56, ht57, hf⟩ := bind_some hf
 refine WL.call (some 70) 32 #[(sv Aa p0 ca), (iv p1)] (fun fb => by kernel_rfl) (rows_All_calls _ p0 p1 Aa ca t56 _ (hS55.rd 1) ht57) (fun v w58 hR59 => ?_)
 obtain ⟨A61, c62, H63, rfl, hk_⟩ := hR59
 have hS60 := hS25.go w58 [rowO 54 encN_Row A61 c62 (tag H63 t56), poolO [nestO subN_Row H63 t56], blk g5 (.cells #[(.slice Ab p3.North.length cb), (.slice Ac p3.East.length cc), (.slice Ad p3.South.length cd), (.slice Ae p3.West.length ce)] 25 (0, 0))] (hS55.call hk_ [] [0] (fun g hg => hg.elim) (by simp) (by decide))
 refine ⟨⟨hS60.cell 2 rfl 0 rfl, hS60.cell 2 rfl 1 rfl, hS60.cell 2 rfl 2 rfl, hS60.cell 2 rfl 3 rfl, trivial⟩, ?_⟩
 refine seg 7 [] [74] [(74, (.agg #[(sv A61 t56 c62), (iv p1), (iv p2), (sv Ab p3.North cb), (sv Ac p3.East cc), (sv Ad p3.South cd), (sv Ae p3.West ce)]))] [] (fun fb => by kernel_rfl) rfl trivial ?_
 refine WL.new hS60 75 [] (fun g => (pt g)) (.cells #[(sv A61 t56 c62), (iv p1), (iv p2), (sv Ab p3.North cb), (sv Ac p3.East cc), (sv Ad p3.South cd), (sv Ae p3.West ce)] 50 (0, 0)) [] (fun fb g => by kernel_rfl) trivial (fun g65 w66 hS67 => ?_)
 refine ⟨trivial, ?_⟩
 refine seg 10 [] [8, 9] [(8, (pt g65)), (9, (iv 0))] [] (fun fb => by kernel_rfl) rfl trivial ?_
 refine WL.done rfl (WX.next ?_)
 refine WC.ret ?_
 injection hf with hf
 subst hf
 exact WX.ret_ [] (.tuple #[(pt g65), (iv 0)]) [] (fun fb => by kernel_rfl) trivial ⟨_, rfl, g65, A61, c62, H63, rfl, (hS67.sub [0, 1, 2] (by decide)).noR⟩
theorem fill_Count_1_calls (p0 : Int) (p1 : Int)  (r : Int) (w : World)  (hf : fill_Count_1 p0 p1 = some r) :
  CallsR Tryz.prog 19 #[(iv p0), (iv p1)] w (fun v w' => v = (iv r) ∧ Keeps NoS w w') := by
 have hS : St NoS w w [] [] := St.init (ro_nil _ _)
 refine enter 9 Tryz.func19 rfl Tryz.ntmps19 rfl ?_
 unfold fill_Count_1 at hf
 refine WC.seq (WC.region ?_)
 refine seg 1 [] [0, 1] [(0, (iv p0)), (1, (iv p1))] [] (fun fb => by kernel_rfl) rfl trivial ?_
 refine WL.done rfl (WX.next (WC.seq (WC.region ?_)))
 refine seg 5 [] [4] [(4, (iv (minI (w64 (p0 + p1)) 1152921504606846977)))] [] (fun fb => by kernel_rfl) rfl trivial ?_
 refine WL.done rfl (WX.next ?_)
 refine WC.ret ?_
 injection hf with hf
 subst hf
 exact WX.ret_ [] (iv (minI (w64 (p0 + p1)) 1152921504606846977)) [] (fun fb => by kernel_rfl) trivial ⟨_, rfl, rfl, hS.keep⟩
theorem fill_at_calls (p0 : List Int) (p1 : Int) (p2 : Int) (Aa : Option Addr) (ca : Nat) (r : Bool) (w : World) (hR0 : RO NoS w (rowR encInt Aa ca p0)) (hf : fill_at p0 p1 p2 = some r) :
  CallsR Tryz.prog 33 #[(sv Aa p0 ca), (iv p1), (iv p2)] w (fun v w' => v = (bv r) ∧ Keeps NoS w w') := by
 have hS : St NoS w w [rowR encInt Aa ca p0] [] := St.init (ro_cons hR0 (ro_nil _ _))
 refine enter 18 Tryz.func33 rfl Tryz.ntmps33 rfl ?_
 unfold fill_at at hf
 refine WC.seq (WC.region ?_)
 refine seg 1 [] [0, 1, 2] [(0, (sv Aa p0 ca)), (1, (iv p1)), (2, (iv p2))] [] (fun fb => by kernel_rfl) rfl trivial ?_
 refine WL.done rfl (WX.next (WC.seq (WC.region ?_)))
 refine seg 4 [] [0, 1, 2, 10] [(0, (sv Aa p0 ca)), (1, (iv p1)), (2, (iv p2)), (10, (bv ((p0.length : Int) == 0)))] [] (fun fb => by kernel_rfl) rfl trivial ?_
 obtain ⟨b3, hv4, hf⟩ := bind_some hf
 refine WL.cutV (T := Unit) 11 (fun t => [(17, (bv b3))]) (fun t => True) (fun K => ?_) ?_
 ·
  rcases br_some hv4 with ⟨h5, hv4⟩ | ⟨h5, hv4⟩
  ·
   refine WL.setB 10 h5 rfl ?_
   refine seg 11 [] [17] [(17, (bv true))] [] (fun fb => by kernel_rfl) rfl trivial ?_
   injection hv4 with hv4
   subst hv4
   exact WL.toV K () [17] rfl trivial
  refine WL.setB 10 h5 rfl ?_
  refine seg 6 [] [2, 10, 11, 12] [(2, (iv p2)), (10, (bv false)), (11, (sv Aa p0 ca)), (12, (iv p1))] [] (fun fb => by kernel_rfl) rfl trivial ?_
  obtain ⟨h6, hv4⟩ := as_some hv4
  refine seg 11 [.v (iv (rdD p0 p1 0))] [17] [(17, (bv ((rdD p0 p1 0) == p2)))] [.idx Aa p1 p0.length, .cell ((adr Aa).add ((p1).toNat * 1)) (iv (rdD p0 p1 0))] (fun fb => by kernel_rfl) rfl ⟨rowR.adr (hS.rd 0).1 h6.1 h6.2, rowR.cell (hS.rd 0).1 0 h6.1 h6.2 0 rfl, trivial⟩ ?_
  injection hv4 with hv4
  subst hv4
  exact WL.toV K () [17] rfl trivial
 rintro _ _
 refine seg 12 [] [6] [(6, (bv b3))] [] (fun fb => by kernel_rfl) rfl trivial ?_
 refine WL.done rfl (WX.next ?_)
 refine WC.ret ?_
 injection hf with hf
 subst hf
 exact WX.ret_ [] (bv b3) [] (fun fb => by kernel_rfl) trivial ⟨_, rfl, rfl, hS.keep⟩
theorem fill_job_allows_calls (k : Nat) (p0 : Job) (p1 : Row) (p2 : Int) (ga : Nat) (Aa : Option Addr) (ca : Nat) (Ha : Nat → HF) (Ab : Option Addr) (cb : Nat) (Ac : Option Addr) (cc : Nat) (Ad : Option Addr) (cd : Nat) (Ae : Option Addr) (ce : Nat) (Af : Option Addr) (cf : Nat) (r : Bool) (w : World) (hR0 : RO NoS w (blk ga (.cells #[(sv Aa p0.rows ca), (iv p0.width), (iv p0.height), (sv Ab p0.edges.North cb), (sv Ac p0.edges.East cc), (sv Ad p0.edges.South cd), (sv Ae p0.edges.West ce)] 50 (0, 0)))) (hR1 : RO NoS w (rowR encN_Row Aa ca (tag Ha p0.rows))) (hR2 : RO NoS w (nestO subN_Row Ha p0.rows)) (hR3 : RO NoS w (rowR encInt Ab cb p0.edges.North)) (hR4 : RO NoS w (rowR encInt Ac cc p0.edges.East)) (hR5 : RO NoS w (rowR encInt Ad cd p0.edges.South)) (hR6 : RO NoS w (rowR encInt Ae ce p0.edges.West)) (hR7 : RO NoS w (rowR encInt Af cf p1.Cells)) (hf : fill_job_allows k p0 p1 p2 = some r) :
  CallsR Tryz.prog 20 #[(pt ga), (.agg #[(sv Af p1.Cells cf), (iv p1.South.e0), (iv p1.South.e1), (iv p1.South.e2), (iv p1.South.e3), (iv p1.South.e4), (iv p1.South.e5), (iv p1.South.e6), (iv p1.South.e7), (iv p1.North.e0), (iv p1.North.e1), (iv p1.North.e2), (iv p1.North.e3), (iv p1.North.e4), (iv p1.North.e5), (iv p1.North.e6), (iv p1.North.e7), (iv p1.West), (iv p1.East)]), (iv p2)] w (fun v w' => v = (bv r) ∧ Keeps NoS w w') := by
 have hS : St NoS w w [blk ga (.cells #[(sv Aa p0.rows ca), (iv p0.width), (iv p0.height), (sv Ab p0.edges.North cb), (sv Ac p0.edges.East cc), (sv Ad p0.edges.South cd), (sv Ae p0.edges.West ce)] 50 (0, 0)), rowR encN_Row Aa ca (tag Ha p0.rows), nestO subN_Row Ha p0.rows, rowR encInt Ab cb p0.edges.North, rowR encInt Ac cc p0.edges.East, rowR encInt Ad cd p0.edges.South, rowR encInt Ae ce p0.edges.West, rowR encInt Af cf p1.Cells] [] := St.init (ro_cons hR0 (ro_cons hR1 (ro_cons hR2 (ro_cons hR3 (ro_cons hR4 (ro_cons hR5 (ro_cons hR6 (ro_cons hR7 (ro_nil _ _)))))))))
 refine enter 77 Tryz.func20 rfl Tryz.ntmps20 rfl ?_
 unfold fill_job_allows at hf
 refine WC.seq (WC.region ?_)
 refine WL.new hS 4 [] (fun g => (pt g)) (.cells #[(sv Af p1.Cells cf), (iv p1.South.e0), (iv p1.South.e1), (iv p1.South.e2), (iv p1.South.e3), (iv p1.South.e4), (iv p1.South.e5), (iv p1.South.e6), (iv p1.South.e7), (iv p1.North.e0), (iv p1.North.e1), (iv p1.North.e2), (iv p1.North.e3), (iv p1.North.e4), (iv p1.North.e5), (iv p1.North.e6), (iv p1.North.e7), (iv p1.West), (iv p1.East)] 54 (0, 0)) [] (fun fb g => by kernel_rfl) trivial (fun g9 w10 hS11 => ?_)
 refine ⟨trivial, ?_⟩
 refine seg 2 [] [0, 2, 4] [(0, (pt ga)), (2, (iv p2)), (4, (pt g9))] [] (fun fb => by kernel_rfl) rfl trivial ?_
 refine WL.done rfl (WX.next (WC.seq (WC.seq ?_)))
 refine WC.regionD ([(4, ⟨ga, 6, none⟩, (sv Ae p0.edges.West ce)), (7, ⟨g9, 17, none⟩, (iv p1.West)), (18, ⟨g9, 18, none⟩, (iv p1.East))], [0, 1, 2, 3, 4, 5, 6, 7, 9, 10, 11, 12, 13, 14, 16, 17, 18, 20, 21], [[], [0], [0, 1], [0, 1, 2], [0, 1, 2, 3], [], [], [6], [0, 1, 2, 3, 4, 5, 6, 7], [0, 1, 2, 3, 4, 5, 6, 7, 8], [0, 1, 2, 3, 4, 5, 6, 7, 8, 9], [0, 1, 2, 3, 4, 5, 6, 7, 8, 9, 10], [0, 1, 2, 3, 4, 5, 6, 7, 8, 9, 10, 11], [0, 1, 2, 3, 4, 5, 6, 7, 8, 9, 10, 11, 12], [0, 1, 2, 3, 4, 5, 6, 7, 8, 9, 10, 11, 12, 13], [0, 1, 2, 3, 4, 5, 6, 7, 8, 9, 10, 11, 12, 13, 14], [0, 1, 2, 3, 4, 5, 6, 7, 8, 9, 10], [0, 1, 2, 3, 4, 5, 6, 7, 8, 9, 10], [0, 1, 2, 3, 4, 5, 6, 7, 8, 9, 10, 17], [0, 1, 2, 3, 4, 5, 6, 7, 8, 9, 10, 11, 12, 13, 14, 15, 16, 17, 18], [0, 1, 2, 3, 4, 5, 6, 7, 8, 9, 10, 11, 12, 13, 14, 15, 16, 17, 18, 19], [0, 1, 2, 3, 4, 5, 6, 7, 8, 9, 10, 11, 12, 13, 14, 15, 16, 17, 18, 19, 20]]) [[0, 1, 2, 3, 4, 5, 6, 7, 8, 9, 10, 11, 12, 13, 14, 16, 17, 18, 15, 19, 20, 21]] (by kernel_rfl) (by kernel_rfl) (NoPanic.seq (NoPanic.seq (NoPanic.body))) ?_
 have hS13 := hS11.drew
 revert hS13
 generalize World.drew w10 = w12
 intro hS13
 refine ⟨⟨blk_cell (hS13.rd 0).1 6 rfl, hS13.cell 0 rfl 17 rfl, hS13.cell 0 rfl 18 rfl, trivial⟩, forallC ?_ (forallN)⟩
 refine segF 8 [.v (sv Ae p0.edges.West ce), .v (iv p1.West)] [0, 2, 4, 12, 13, 15] [(0, (pt ga)), (2, (iv p2)), (4, (pt g9)), (12, (sv Ae p0.edges.West ce)), (13, (iv p2)), (15, (iv p1.West))] [] [0, 1] [(4, ⟨ga, 6, none⟩, (sv Ae p0.edges.West ce)), (7, ⟨g9, 17, none⟩, (iv p1.West))] (fun fb => by kernel_rfl) rfl trivial rfl ?_
 obtain ⟨t14, ht15, hf⟩ := bind_some hf
 refine WL.call (some 16) 33 #[(sv Ae p0.edges.West ce), (iv p2), (iv p1.West)] (fun fb => by kernel_rfl) (fill_at_calls p0.edges.West p2 p1.West Ae ce t14 _ (hS13.rd 6) ht15) (fun v w16 hR17 => ?_)
 obtain ⟨rfl, hk_⟩ := hR17
 have hS18 := hS13.keepN hk_
 refine ⟨⟨hS18.cell 0 rfl 18 rfl, trivial⟩, ?_⟩
 refine seg 11 [] [0, 2, 4, 18] [(0, (pt ga)), (2, (iv p2)), (4, (pt g9)), (18, (bv (!t14)))] [] (fun fb => by kernel_rfl) rfl trivial ?_
 obtain ⟨x19, hx21, hf⟩ := bind_some hf
 refine WL.cutW (T := Bool) 22 (fun t => [(0, (pt ga)), (2, (iv p2)), (4, (pt g9)), (29, (bv t))]) (fun t w1 => (St NoS w w1 [blk ga (.cells #[(sv Aa p0.rows ca), (iv p0.width), (iv p0.height), (sv Ab p0.edges.North cb), (sv Ac p0.edges.East cc), (sv Ad p0.edges.South cd), (sv Ae p0.edges.West ce)] 50 (0, 0)), rowR encN_Row Aa ca (tag Ha p0.rows), nestO subN_Row Ha p0.rows, rowR encInt Ab cb p0.edges.North, rowR encInt Ac cc p0.edges.East, rowR encInt Ad cd p0.edges.South, rowR encInt Ae ce p0.edges.West, rowR encInt Af cf p1.Cells] [blk g9 (.cells #[(sv Af p1.Cells cf), (iv p1.South.e0), (iv p1.South.e1), (iv p1.South.e2), (iv p1.South.e3), (iv p1.South.e4), (iv p1.South.e5), (iv p1.South.e6), (iv p1.South.e7), (iv p1.North.e0), (iv p1.North.e1), (iv p1.North.e2), (iv p1.North.e3), (iv p1.North.e4), (iv p1.North.e5), (iv p1.North.e6), (iv p1.North.e7), (iv p1.West), (iv p1.East)] 54 (0, 0))] ∧ x19 = t) ∧ CellsOK [] w1) (fun K => ?_) ?_
 ·
  rcases br_some hx21 with ⟨h22, hx21⟩ | ⟨h22, hx21⟩
  ·
   refine WL.setB 18 h22 rfl ?_
   refine seg 22 [] [0, 2, 4, 29] [(0, (pt ga)), (2, (iv p2)), (4, (pt g9)), (29, (bv true))] [] (fun fb => by kernel_rfl) rfl trivial ?_
   injection hx21 with hx21
   exact WL.to K true [0, 2, 4, 29] rfl ⟨⟨(hS18.subR [0, 1, 2, 3, 4, 5, 6, 7]).sub [0] (by decide), hx21.symm⟩, trivial⟩
  refine WL.setB 18 h22 rfl ?_
  refine segF 19 [.v (iv p1.East), .v (sv Ac p0.edges.East cc)] [0, 2, 4, 18, 23, 24, 26] [(0, (pt ga)), (2, (iv p2)), (4, (pt g9)), (18, (bv false)), (23, (sv Ac p0.edges.East cc)), (24, (iv p2)), (26, (iv p1.East))] [.cell ⟨ga, 4, none⟩ (sv Ac p0.edges.East cc)] [2] [(18, ⟨g9, 18, none⟩, (iv p1.East))] (fun fb => by kernel_rfl) rfl ⟨blk_cell (hS18.rd 0).1 4 rfl, trivial⟩ rfl ?_
  obtain ⟨t23, ht24, hx21⟩ := bind_some hx21
  refine WL.call (some 27) 33 #[(sv Ac p0.edges.East cc), (iv p2), (iv p1.East)] (fun fb => by kernel_rfl) (fill_at_calls p0.edges.East p2 p1.East Ac cc t23 _ (hS18.rd 4) ht24) (fun v w25 hR26 => ?_)
  obtain ⟨rfl, hk_⟩ := hR26
  have hS27 := hS18.keepN hk_
  refine ⟨trivial, ?_⟩
  refine seg 22 [] [0, 2, 4, 29] [(0, (pt ga)), (2, (iv p2)), (4, (pt g9)), (29, (bv (!t23)))] [] (fun fb => by kernel_rfl) rfl trivial ?_
  injection hx21 with hx21
  exact WL.to K (!t23) [0, 2, 4, 29] rfl ⟨⟨(hS27.subR [0, 1, 2, 3, 4, 5, 6, 7]).sub [0] (by decide), hx21.symm⟩, trivial⟩
 rintro y28 w30 ⟨⟨hS31, hq29⟩, hF32⟩
 subst hq29
 refine WL.done rfl (WX.next ?_)
 rcases br_some hf with ⟨h33, hf⟩ | ⟨h33, hf⟩
 ·refine WC.condT2 (fun fb => by kernel_rfl) h33 ?_
  refine WC.seq (WC.region ?_)
  refine seg 1 [] [6] [(6, (bv false))] [] (fun fb => by kernel_rfl) rfl trivial ?_
  refine WL.done rfl (WX.next ?_)
  refine WC.ret ?_
  injection hf with hf
  subst hf
  exact WX.thenR (WX.ret_ [] (bv false) [] (fun fb => by kernel_rfl) trivial ⟨_, rfl, rfl, hS31.keep⟩)
 refine WC.condF2 (fun fb => by kernel_rfl) h33 ?_
 refine WC.skip (WX.next (WC.seq (WC.seq (WC.region ?_))))
 refine seg 5 [.v (iv p0.width)] [0, 2, 4, 33, 34] [(0, (pt ga)), (2, (iv p2)), (4, (pt g9)), (33, (iv p0.width)), (34, (iv 0))] [.cell ⟨ga, 1, none⟩ (iv p0.width)] (fun fb => by kernel_rfl) rfl ⟨blk_cell (hS31.rd 0).1 1 rfl, trivial⟩ ?_
 refine WL.done rfl (WX.next ?_)
 obtain ⟨x35, hx36, hf⟩ := bind_some hf
 refine WC.cutN (T := Unit) (fun t => []) (fun t w1 => St NoS w w1 [blk ga (.cells #[(sv Aa p0.rows ca), (iv p0.width), (iv p0.height), (sv Ab p0.edges.North cb), (sv Ac p0.edges.East cc), (sv Ad p0.edges.South cd), (sv Ae p0.edges.West ce)] 50 (0, 0)), rowR encN_Row Aa ca (tag Ha p0.rows), nestO subN_Row Ha p0.rows, rowR encInt Ab cb p0.edges.North, rowR encInt Ac cc p0.edges.East, rowR encInt Ad cd p0.edges.South, rowR encInt Ae ce p0.edges.West, rowR encInt Af cf p1.Cells] [] ∧ x35 = .inr t) (fun Kx35 => ?_) ?_
 ·
  refine WC.block ?_
  refine WC.loop (T := Int) (fun t => [(0, (pt ga)), (2, (iv p2)), (4, (pt g9)), (33, (iv p0.width)), (34, (iv t))]) (fun n t w1 => St NoS w w1 [blk ga (.cells #[(sv Aa p0.rows ca), (iv p0.width), (iv p0.height), (sv Ab p0.edges.North cb), (sv Ac p0.edges.East cc), (sv Ad p0.edges.South cd), (sv Ae p0.edges.West ce)] 50 (0, 0)), rowR encN_Row Aa ca (tag Ha p0.rows), nestO subN_Row Ha p0.rows, rowR encInt Ab cb p0.edges.North, rowR encInt Ac cc p0.edges.East, rowR encInt Ad cd p0.edges.South, rowR encInt Ae ce p0.edges.West, rowR encInt Af cf p1.Cells] [blk g9 (.cells #[(sv Af p1.Cells cf), (iv p1.South.e0), (iv p1.South.e1), (iv p1.South.e2), (iv p1.South.e3), (iv p1.South.e4), (iv p1.South.e5), (iv p1.South.e6), (iv p1.South.e7), (iv p1.North.e0), (iv p1.North.e1), (iv p1.North.e2), (iv p1.North.e3), (iv p1.North.e4), (iv p1.North.e5), (iv p1.North.e6), (iv p1.North.e7), (iv p1.West), (iv p1.East)] 54 (0, 0))] ∧ fill_job_allows.l0 n t p0 p1 p2 = some x35) k 0 [0, 2, 4, 33, 34] rfl ⟨(hS31.subR [0, 1, 2, 3, 4, 5, 6, 7]).sub [0] (by decide), hx36⟩ ?_
  rintro k37 x34 w38 ⟨hS39, hl40⟩
  cases k37 with
  | zero => rw [fill_job_allows.l0] at hl40; cases hl40
  | succ k37 =>
   rw [fill_job_allows.l0] at hl40
   refine WC.seq (WC.region ?_)
   refine seg 1 [] [0, 2, 4, 33, 34, 35] [(0, (pt ga)), (2, (iv p2)), (4, (pt g9)), (33, (iv p0.width)), (34, (iv x34)), (35, (bv (decide (x34 < p0.width))))] [] (fun fb => by kernel_rfl) rfl trivial ?_
   refine WL.done rfl (WX.next (WC.seq ?_))
   rcases br_some hl40 with ⟨h41, hl40⟩ | ⟨h41, hl40⟩
   ·refine WC.condT2 (fun fb => by kernel_rfl) h41 ?_
    refine WC.skip (WX.next (WC.seq (WC.block (WC.seq (WC.region ?_)))))
    refine seg 2 [] [0, 2, 4, 7, 33, 34] [(0, (pt ga)), (2, (iv p2)), (4, (pt g9)), (7, (iv x34)), (33, (iv p0.width)), (34, (iv x34))] [] (fun fb => by kernel_rfl) rfl trivial ?_
    refine WL.done rfl (WX.next (WC.seq ?_))
    obtain ⟨x42, hx43, hl40⟩ := bind_some hl40
    refine WC.cutN (T := Bool) (fun t => [(0, (pt ga)), (2, (iv p2)), (4, (pt g9)), (33, (iv p0.width)), (34, (iv x34)), (75, (bv t))]) (fun t w1 => St NoS w w1 [blk ga (.cells #[(sv Aa p0.rows ca), (iv p0.width), (iv p0.height), (sv Ab p0.edges.North cb), (sv Ac p0.edges.East cc), (sv Ad p0.edges.South cd), (sv Ae p0.edges.West ce)] 50 (0, 0)), rowR encN_Row Aa ca (tag Ha p0.rows), nestO subN_Row Ha p0.rows, rowR encInt Ab cb p0.edges.North, rowR encInt Ac cc p0.edges.East, rowR encInt Ad cd p0.edges.South, rowR encInt Ae ce p0.edges.West, rowR encInt Af cf p1.Cells] [blk g9 (.cells #[(sv Af p1.Cells cf), (iv p1.South.e0), (iv p1.South.e1), (iv p1.South.e2), (iv p1.South.e3), (iv p1.South.e4), (iv p1.South.e5), (iv p1.South.e6), (iv p1.South.e7), (iv p1.North.e0), (iv p1.North.e1), (iv p1.North.e2), (iv p1.North.e3), (iv p1.North.e4), (iv p1.North.e5), (iv p1.North.e6), (iv p1.North.e7), (iv p1.West), (iv p1.East)] 54 (0, 0))] ∧ x42 = t) (fun Kx42 => ?_) ?_
    ·
     rcases br_some hx43 with ⟨h44, hx43⟩ | ⟨h44, hx43⟩
     ·
      rcases br_some hx43 with ⟨h45, hx43⟩ | ⟨h45, hx43⟩
      ·
       obtain ⟨h48, hx43⟩ := as_some hx43
       refine WC.regionD ([(7, ⟨ga, 5, none⟩, (sv Ad p0.edges.South cd)), (12, (flatA ⟨g9, 1, none⟩ (x34.toNat * 1)), (iv (A8_Int.get p1.South x34)))], [0, 1, 2, 3, 4, 5, 6, 7, 8, 9, 10, 11, 12, 14, 15, 16, 17, 18, 19, 20, 22, 23, 24, 25, 26, 27, 28, 30, 31, 32, 33, 36, 37, 38], [[], [0], [0, 1], [0, 1, 2], [0, 1, 2, 3], [0, 1, 2, 3, 4], [0, 1, 2, 3, 4, 5], [0, 1, 2, 3, 4, 5, 6], [0, 1, 2], [0, 1, 2], [0, 1, 2], [0, 1, 2, 9, 10], [0, 1, 2, 9, 10, 11], [0, 1, 2, 3, 4, 5, 6, 7, 8, 9, 10, 11, 12], [0, 1, 2, 3, 4, 5, 6, 7, 8, 9, 10, 11, 12, 13], [0, 1, 2, 3, 4, 5, 6, 7, 8, 9, 10, 11, 12, 13, 14], [0, 1, 2, 3, 4, 5, 6, 7, 8, 9, 10, 11, 12, 13, 14, 15], [0, 1, 2, 3, 4, 5, 6, 7, 8, 9, 10, 11, 12, 13, 14, 15, 16], [0, 1, 2, 3, 4, 5, 6, 7, 8, 9, 10, 11, 12, 13, 14, 15, 16], [0, 1, 2, 3, 4, 5, 6, 7, 8, 9, 10, 11, 12, 13, 14, 15, 16, 18], [0, 1, 2, 3, 4, 5, 6, 7, 8, 9, 10, 11, 12, 13, 14, 15, 16, 18, 19], [0, 1, 2, 3, 4, 5, 6, 7, 8, 9, 10, 11, 12, 13, 14, 15, 16, 18, 19, 20], [0, 1, 2, 3, 4, 5, 6, 7, 8, 9, 10, 11, 12, 13, 14, 15, 16, 18, 19, 20, 21], [0, 1, 2, 3, 4, 5, 6, 7, 8, 9, 10, 11, 12, 13, 14, 15, 16, 17, 18, 19, 20, 21, 22], [0, 1, 2, 3, 4, 5, 6, 7, 8, 9, 10, 11, 12, 13, 14, 15, 16, 17, 18, 19, 20, 21, 22, 23], [0, 1, 2, 3, 4, 5, 6, 7, 8, 9, 10, 11, 12, 13, 14, 15, 16, 17, 18, 19, 20, 21, 22, 23, 24], [0, 1, 2, 3, 4, 5, 6, 7, 8, 9, 10, 11, 12, 13, 14, 15, 16, 17, 18, 19, 20, 21, 22, 23, 24, 25], [0, 1, 2, 3, 4, 5, 6, 7, 8, 9, 10, 11, 12, 13, 14, 15, 16, 17, 18, 19, 20, 21, 22, 23, 24, 25, 26], [0, 1, 2, 3, 4, 5, 6, 7, 8, 9, 10, 11, 12, 13, 14, 15, 16, 17, 18, 19, 20, 21, 22, 23, 24, 25, 26, 27], [0, 1, 2, 3, 4, 5, 6, 7, 8, 9, 10, 11, 12, 13, 14, 15, 16, 17, 18, 19, 20, 21, 22, 23, 24, 25, 26, 27, 28], [0, 1, 2, 3, 4, 5, 6, 7, 8, 9, 10, 11, 12, 13, 14, 15, 16, 17, 18, 19, 20, 21, 22, 23, 24], [0, 1, 2, 3, 4, 5, 6, 7, 8, 9, 10, 11, 12, 13, 14, 15, 16, 17, 18, 19, 20, 21, 22, 23, 24], [0, 1, 2, 3, 4, 5, 6, 7, 8, 9, 10, 11, 12, 13, 14, 15, 16, 17, 18, 19, 20, 21, 22, 23, 24], [0, 1, 2, 3, 4, 5, 6, 7, 8, 9, 10, 11, 12, 13, 14, 15, 16, 17, 18, 19, 20, 21, 22, 23, 24, 31, 32], [0, 1, 2, 3, 4, 5, 6, 7, 8, 9, 10, 11, 12, 13, 14, 15, 16, 17, 18, 19, 20, 21, 22, 23, 24, 31, 32, 33], [0, 1, 2, 3, 4, 5, 6, 7, 8, 9, 10, 11, 12, 13, 14, 15, 16, 17, 18, 19, 20, 21, 22, 23, 24, 25, 26, 27, 28, 29, 30, 31, 32, 33, 34], [0, 1, 2, 3, 4, 5, 6, 7, 8, 9, 10, 11, 12, 13, 14, 15, 16, 17, 18, 19, 20, 21, 22, 23, 24, 25, 26, 27, 28, 29, 30, 31, 32, 33, 34, 35], [0, 1, 2, 3, 4, 5, 6, 7, 8, 9, 10, 11, 12, 13, 14, 15, 16, 17, 18, 19, 20, 21, 22, 23, 24, 25, 26, 27, 28, 29, 30, 31, 32, 33, 34, 35, 36], [0, 1, 2, 3, 4, 5, 6, 7, 8, 9, 10, 11, 12, 13, 14, 15, 16, 17, 18, 19, 20, 21, 22, 23, 24, 25, 26, 27, 28, 29, 30, 31, 32, 33, 34, 35, 36, 37]]) [[0, 1, 2, 3, 4, 5, 6, 7, 8, 9, 10, 11, 12, 13, 14, 15, 16, 17, 18, 19, 20, 21, 22, 23, 24, 25, 26, 27, 28, 30, 31, 32, 33, 29, 34, 35, 36, 37, 38], [0, 1, 2, 3, 4, 5, 6, 7, 8, 9, 10, 11, 12, 13, 14, 15, 16, 17, 18, 19, 20, 21, 22, 23, 24, 25, 26, 27, 28, 30, 31, 32, 33, 34, 29, 35, 36, 37, 38]] (by kernel_rfl) (by kernel_rfl) (NoPanic.seq (NoPanic.block (NoPanic.seq (NoPanic.seq (NoPanic.block (NoPanic.seq (NoPanic.body))))))) ?_
       have hS47 := hS39.drew
       revert hS47
       generalize World.drew w38 = w46
       intro hS47
       refine ⟨⟨blk_cell (hS47.rd 0).1 5 rfl, hS47.cell 0 rfl _ (cases8 (Q := fun z_ => (#[(sv Af p1.Cells cf), (iv p1.South.e0), (iv p1.South.e1), (iv p1.South.e2), (iv p1.South.e3), (iv p1.South.e4), (iv p1.South.e5), (iv p1.South.e6), (iv p1.South.e7), (iv p1.North.e0), (iv p1.North.e1), (iv p1.North.e2), (iv p1.North.e3), (iv p1.North.e4), (iv p1.North.e5), (iv p1.North.e6), (iv p1.North.e7), (iv p1.West), (iv p1.East)] : Array Value)[1 + z_.toNat * 1]? = some (iv (A8_Int.get p1.South z_))) h48 (by kernel_rfl) (by kernel_rfl) (by kernel_rfl) (by kernel_rfl) (by kernel_rfl) (by kernel_rfl) (by kernel_rfl) (by kernel_rfl)), trivial⟩, forallC ?_ (forallC ?_ (forallN))⟩
       ·
        refine seg 3 [] [0, 2, 4, 7, 33, 34, 39] [(0, (pt ga)), (2, (iv p2)), (4, (pt g9)), (7, (iv x34)), (33, (iv p0.width)), (34, (iv x34)), (39, (bv (p2 == 0)))] [] (fun fb => by kernel_rfl) rfl trivial ?_
        refine WL.setB 39 h44 rfl ?_
        refine segF 13 [.v (sv Ad p0.edges.South cd), .v (iv (A8_Int.get p1.South x34))] [0, 2, 4, 7, 33, 34, 39, 44, 45, 49] [(0, (pt ga)), (2, (iv p2)), (4, (pt g9)), (7, (iv x34)), (33, (iv p0.width)), (34, (iv x34)), (39, (bv true)), (44, (sv Ad p0.edges.South cd)), (45, (iv x34)), (49, (iv (A8_Int.get p1.South x34)))] [.idx (some ⟨0, 0, none⟩) x34 8] [0, 1] [(7, ⟨ga, 5, none⟩, (sv Ad p0.edges.South cd)), (12, (flatA ⟨g9, 1, none⟩ (x34.toNat * 1)), (iv (A8_Int.get p1.South x34)))] (fun fb => by kernel_rfl) rfl ⟨⟨h48.1, h48.2, rfl⟩, trivial⟩ rfl ?_
        obtain ⟨t49, ht50, hx43⟩ := bind_some hx43
        refine WL.call (some 50) 33 #[(sv Ad p0.edges.South cd), (iv x34), (iv (A8_Int.get p1.South x34))] (fun fb => by kernel_rfl) (fill_at_calls p0.edges.South x34 (A8_Int.get p1.South x34) Ad cd t49 _ (hS47.rd 5) ht50) (fun v w51 hR52 => ?_)
        obtain ⟨rfl, hk_⟩ := hR52
        have hS53 := hS47.keepN hk_
        refine ⟨trivial, ?_⟩
        refine seg 17 [] [0, 2, 4, 7, 33, 34, 53] [(0, (pt ga)), (2, (iv p2)), (4, (pt g9)), (7, (iv x34)), (33, (iv p0.width)), (34, (iv x34)), (53, (bv (!t49)))] [] (fun fb => by kernel_rfl) rfl trivial ?_
        obtain ⟨x54, hx55, hx43⟩ := bind_some hx43
        refine WL.cutW (T := Bool) 39 (fun t => [(0, (pt ga)), (2, (iv p2)), (4, (pt g9)), (33, (iv p0.width)), (34, (iv x34)), (75, (bv t))]) (fun t w1 => (St NoS w w1 [blk ga (.cells #[(sv Aa p0.rows ca), (iv p0.width), (iv p0.height), (sv Ab p0.edges.North cb), (sv Ac p0.edges.East cc), (sv Ad p0.edges.South cd), (sv Ae p0.edges.West ce)] 50 (0, 0)), rowR encN_Row Aa ca (tag Ha p0.rows), nestO subN_Row Ha p0.rows, rowR encInt Ab cb p0.edges.North, rowR encInt Ac cc p0.edges.East, rowR encInt Ad cd p0.edges.South, rowR encInt Ae ce p0.edges.West, rowR encInt Af cf p1.Cells] [blk g9 (.cells #[(sv Af p1.Cells cf), (iv p1.South.e0), (iv p1.South.e1), (iv p1.South.e2), (iv p1.South.e3), (iv p1.South.e4), (iv p1.South.e5), (iv p1.South.e6), (iv p1.South.e7), (iv p1.North.e0), (iv p1.North.e1), (iv p1.North.e2), (iv p1.North.e3), (iv p1.North.e4), (iv p1.North.e5), (iv p1.North.e6), (iv p1.North.e7), (iv p1.West), (iv p1.East)] 54 (0, 0))] ∧ x54 = t) ∧ CellsOK [] w1) (fun K => ?_) ?_
        ·
         rcases br_some hx55 with ⟨h56, hx55⟩ | ⟨h56, hx55⟩
         ·
          refine WL.setB 53 h56 rfl ?_
          refine seg 39 [] [0, 2, 4, 33, 34, 75] [(0, (pt ga)), (2, (iv p2)), (4, (pt g9)), (33, (iv p0.width)), (34, (iv x34)), (75, (bv true))] [] (fun fb => by kernel_rfl) rfl trivial ?_
          injection hx55 with hx55
          exact WL.to K true [0, 2, 4, 33, 34, 75] rfl ⟨⟨(hS53.subR [0, 1, 2, 3, 4, 5, 6, 7]).sub [0] (by decide), hx55.symm⟩, trivial⟩
         refine WL.setB 53 h56 rfl ?_
         refine seg 25 [.v (iv p0.height)] [0, 2, 4, 7, 33, 34, 53, 61] [(0, (pt ga)), (2, (iv p2)), (4, (pt g9)), (7, (iv x34)), (33, (iv p0.width)), (34, (iv x34)), (53, (bv false)), (61, (bv (p2 == (w64 (p0.height - 1)))))] [.cell ⟨ga, 2, none⟩ (iv p0.height)] (fun fb => by kernel_rfl) rfl ⟨blk_cell (hS53.rd 0).1 2 rfl, trivial⟩ ?_
         refine WL.setB 61 h45 rfl ?_
         refine seg 35 [.v (sv Ab p0.edges.North cb), .v (iv (A8_Int.get p1.North x34))] [0, 2, 4, 33, 34, 53, 61, 66, 67, 71] [(0, (pt ga)), (2, (iv p2)), (4, (pt g9)), (33, (iv p0.width)), (34, (iv x34)), (53, (bv false)), (61, (bv true)), (66, (sv Ab p0.edges.North cb)), (67, (iv x34)), (71, (iv (A8_Int.get p1.North x34)))] [.idx (some ⟨0, 0, none⟩) x34 8, .cell ⟨ga, 3, none⟩ (sv Ab p0.edges.North cb), .cell (flatA ⟨g9, 9, none⟩ (x34.toNat * 1)) (iv (A8_Int.get p1.North x34))] (fun fb => by kernel_rfl) rfl ⟨⟨h48.1, h48.2, rfl⟩, blk_cell (hS53.rd 0).1 3 rfl, hS53.cell 0 rfl _ (cases8 (Q := fun z_ => (#[(sv Af p1.Cells cf), (iv p1.South.e0), (iv p1.South.e1), (iv p1.South.e2), (iv p1.South.e3), (iv p1.South.e4), (iv p1.South.e5), (iv p1.South.e6), (iv p1.South.e7), (iv p1.North.e0), (iv p1.North.e1), (iv p1.North.e2), (iv p1.North.e3), (iv p1.North.e4), (iv p1.North.e5), (iv p1.North.e6), (iv p1.North.e7), (iv p1.West), (iv p1.East)] : Array Value)[9 + z_.toNat * 1]? = some (iv (A8_Int.get p1.North z_))) h48 (by kernel_rfl) (by kernel_rfl) (by kernel_rfl) (by kernel_rfl) (by kernel_rfl) (by kernel_rfl) (by kernel_rfl) (by kernel_rfl)), trivial⟩ ?_
         obtain ⟨t57, ht58, hx55⟩ := bind_some hx55
         refine WL.call (some 72) 33 #[(sv Ab p0.edges.North cb), (iv x34), (iv (A8_Int.get p1.North x34))] (fun fb => by kernel_rfl) (fill_at_calls p0.edges.North x34 (A8_Int.get p1.North x34) Ab cb t57 _ (hS53.rd 3) ht58) (fun v w59 hR60 => ?_)
         obtain ⟨rfl, hk_⟩ := hR60
         have hS61 := hS53.keepN hk_
         refine ⟨trivial, ?_⟩
         refine seg 39 [] [0, 2, 4, 33, 34, 75] [(0, (pt ga)), (2, (iv p2)), (4, (pt g9)), (33, (iv p0.width)), (34, (iv x34)), (75, (bv (!t57)))] [] (fun fb => by kernel_rfl) rfl trivial ?_
         injection hx55 with hx55
         exact WL.to K (!t57) [0, 2, 4, 33, 34, 75] rfl ⟨⟨(hS61.subR [0, 1, 2, 3, 4, 5, 6, 7]).sub [0] (by decide), hx55.symm⟩, trivial⟩
        rintro y62 w65 ⟨⟨hS66, hq63⟩, hF67⟩
        subst hq63
        refine WL.done rfl ?_
        injection hx43 with hx43
        exact WX.to Kx42 x54 [0, 2, 4, 33, 34, 75] rfl ⟨(hS66.subR [0, 1, 2, 3, 4, 5, 6, 7]).sub [0] (by decide), hx43.symm⟩
       refine seg 3 [] [0, 2, 4, 7, 33, 34, 39] [(0, (pt ga)), (2, (iv p2)), (4, (pt g9)), (7, (iv x34)), (33, (iv p0.width)), (34, (iv x34)), (39, (bv (p2 == 0)))] [] (fun fb => by kernel_rfl) rfl trivial ?_
       refine WL.setB 39 h44 rfl ?_
       refine segF 13 [.v (sv Ad p0.edges.South cd), .v (iv (A8_Int.get p1.South x34))] [0, 2, 4, 7, 33, 34, 39, 44, 45, 49] [(0, (pt ga)), (2, (iv p2)), (4, (pt g9)), (7, (iv x34)), (33, (iv p0.width)), (34, (iv x34)), (39, (bv true)), (44, (sv Ad p0.edges.South cd)), (45, (iv x34)), (49, (iv (A8_Int.get p1.South x34)))] [.idx (some ⟨0, 0, none⟩) x34 8] [0, 1] [(7, ⟨ga, 5, none⟩, (sv Ad p0.edges.South cd)), (12, (flatA ⟨g9, 1, none⟩ (x34.toNat * 1)), (iv (A8_Int.get p1.South x34)))] (fun fb => by kernel_rfl) rfl ⟨⟨h48.1, h48.2, rfl⟩, trivial⟩ rfl ?_
       obtain ⟨t68, ht69, hx43⟩ := bind_some hx43
       refine WL.call (some 50) 33 #[(sv Ad p0.edges.South cd), (iv x34), (iv (A8_Int.get p1.South x34))] (fun fb => by kernel_rfl) (fill_at_calls p0.edges.South x34 (A8_Int.get p1.South x34) Ad cd t68 _ (hS47.rd 5) ht69) (fun v w70 hR71 => ?_)
       obtain ⟨rfl, hk_⟩ := hR71
       have hS72 := hS47.keepN hk_
       refine ⟨trivial, ?_⟩
       refine seg 17 [] [0, 2, 4, 7, 33, 34, 53] [(0, (pt ga)), (2, (iv p2)), (4, (pt g9)), (7, (iv x34)), (33, (iv p0.width)), (34, (iv x34)), (53, (bv (!t68)))] [] (fun fb => by kernel_rfl) rfl trivial ?_
       obtain ⟨x73, hx74, hx43⟩ := bind_some hx43
       refine WL.cutW (T := Bool) 39 (fun t => [(0, (pt ga)), (2, (iv p2)), (4, (pt g9)), (33, (iv p0.width)), (34, (iv x34)), (75, (bv t))]) (fun t w1 => (St NoS w w1 [blk ga (.cells #[(sv Aa p0.rows ca), (iv p0.width), (iv p0.height), (sv Ab p0.edges.North cb), (sv Ac p0.edges.East cc), (sv Ad p0.edges.South cd), (sv Ae p0.edges.West ce)] 50 (0, 0)), rowR encN_Row Aa ca (tag Ha p0.rows), nestO subN_Row Ha p0.rows, rowR encInt Ab cb p0.edges.North, rowR encInt Ac cc p0.edges.East, rowR encInt Ad cd p0.edges.South, rowR encInt Ae ce p0.edges.West, rowR encInt Af cf p1.Cells] [blk g9 (.cells #[(sv Af p1.Cells cf), (iv p1.South.e0), (iv p1.South.e1), (iv p1.South.e2), (iv p1.South.e3), (iv p1.South.e4), (iv p1.South.e5), (iv p1.South.e6), (iv p1.South.e7), (iv p1.North.e0), (iv p1.North.e1), (iv p1.North.e2), (iv p1.North.e3), (iv p1.North.e4), (iv p1.North.e5), (iv p1.North.e6), (iv p1.North.e7), (iv p1.West), (iv p1.East)] 54 (0, 0))] ∧ x73 = t) ∧ CellsOK [] w1) (fun K => ?_) ?_
       ·
        rcases br_some hx74 with ⟨h75, hx74⟩ | ⟨h75, hx74⟩
        ·
         refine WL.setB 53 h75 rfl ?_
         refine seg 39 [] [0, 2, 4, 33, 34, 75] [(0, (pt ga)), (2, (iv p2)), (4, (pt g9)), (33, (iv p0.width)), (34, (iv x34)), (75, (bv true))] [] (fun fb => by kernel_rfl) rfl trivial ?_
         injection hx74 with hx74
         exact WL.to K true [0, 2, 4, 33, 34, 75] rfl ⟨⟨(hS72.subR [0, 1, 2, 3, 4, 5, 6, 7]).sub [0] (by decide), hx74.symm⟩, trivial⟩
        refine WL.setB 53 h75 rfl ?_
        refine seg 25 [.v (iv p0.height)] [0, 2, 4, 7, 33, 34, 53, 61] [(0, (pt ga)), (2, (iv p2)), (4, (pt g9)), (7, (iv x34)), (33, (iv p0.width)), (34, (iv x34)), (53, (bv false)), (61, (bv (p2 == (w64 (p0.height - 1)))))] [.cell ⟨ga, 2, none⟩ (iv p0.height)] (fun fb => by kernel_rfl) rfl ⟨blk_cell (hS72.rd 0).1 2 rfl, trivial⟩ ?_
        refine WL.setB 61 h45 rfl ?_
        refine seg 35 [.v (iv (A8_Int.get p1.North x34)), .v (sv Ab p0.edges.North cb)] [0, 2, 4, 33, 34, 53, 61, 66, 67, 71] [(0, (pt ga)), (2, (iv p2)), (4, (pt g9)), (33, (iv p0.width)), (34, (iv x34)), (53, (bv false)), (61, (bv true)), (66, (sv Ab p0.edges.North cb)), (67, (iv x34)), (71, (iv (A8_Int.get p1.North x34)))] [.idx (some ⟨0, 0, none⟩) x34 8, .cell (flatA ⟨g9, 9, none⟩ (x34.toNat * 1)) (iv (A8_Int.get p1.North x34)), .cell ⟨ga, 3, none⟩ (sv Ab p0.edges.North cb)] (fun fb => by kernel_rfl) rfl ⟨⟨h48.1, h48.2, rfl⟩, hS72.cell 0 rfl _ (cases8 (Q := fun z_ => (#[(sv Af p1.Cells cf), (iv p1.South.e0), (iv p1.South.e1), (iv p1.South.e2), (iv p1.South.e3), (iv p1.South.e4), (iv p1.South.e5), (iv p1.South.e6), (iv p1.South.e7), (iv p1.North.e0), (iv p1.North.e1), (iv p1.North.e2), (iv p1.North.e3), (iv p1.North.e4), (iv p1.North.e5), (iv p1.North.e6), (iv p1.North.e7), (iv p1.West), (iv p1.East)] : Array Value)[9 + z_.toNat * 1]? = some (iv (A8_Int.get p1.North z_))) h48 (by kernel_rfl) (by kernel_rfl) (by kernel_rfl) (by kernel_rfl) (by kernel_rfl) (by kernel_rfl) (by kernel_rfl) (by kernel_rfl)), blk_cell (hS72.rd 0).1 3 rfl, trivial⟩ ?_
        obtain ⟨t76, ht77, hx74⟩ := bind_some hx74
        refine WL.call (some 72) 33 #[(sv Ab p0.edges.North cb), (iv x34), (iv (A8_Int.get p1.North x34))] (fun fb => by kernel_rfl) (fill_at_calls p0.edges.North x34 (A8_Int.get p1.North x34) Ab cb t76 _ (hS72.rd 3) ht77) (fun v w78 hR79 => ?_)
        obtain ⟨rfl, hk_⟩ := hR79
        have hS80 := hS72.keepN hk_
        refine ⟨trivial, ?_⟩
        refine seg 39 [] [0, 2, 4, 33, 34, 75] [(0, (pt ga)), (2, (iv p2)), (4, (pt g9)), (33, (iv p0.width)), (34, (iv x34)), (75, (bv (!t76)))] [] (fun fb => by kernel_rfl) rfl trivial ?_
        injection hx74 with hx74
        exact WL.to K (!t76) [0, 2, 4, 33, 34, 75] rfl ⟨⟨(hS80.subR [0, 1, 2, 3, 4, 5, 6, 7]).sub [0] (by decide), hx74.symm⟩, trivial⟩
       rintro y81 w83 ⟨⟨hS84, hq82⟩, hF85⟩
       subst hq82
       refine WL.done rfl ?_
       injection hx43 with hx43
       exact WX.to Kx42 x73 [0, 2, 4, 33, 34, 75] rfl ⟨(hS84.subR [0, 1, 2, 3, 4, 5, 6, 7]).sub [0] (by decide), hx43.symm⟩
      obtain ⟨h88, hx43⟩ := as_some hx43
      refine WC.regionD ([(7, ⟨ga, 5, none⟩, (sv Ad p0.edges.South cd)), (12, (flatA ⟨g9, 1, none⟩ (x34.toNat * 1)), (iv (A8_Int.get p1.South x34)))], [0, 1, 2, 3, 4, 5, 6, 7, 8, 9, 10, 11, 12, 14, 15, 16, 17, 18, 19, 20, 22, 23, 24, 25, 26, 27, 28, 30, 31, 32, 33, 36, 37, 38], [[], [0], [0, 1], [0, 1, 2], [0, 1, 2, 3], [0, 1, 2, 3, 4], [0, 1, 2, 3, 4, 5], [0, 1, 2, 3, 4, 5, 6], [0, 1, 2], [0, 1, 2], [0, 1, 2], [0, 1, 2, 9, 10], [0, 1, 2, 9, 10, 11], [0, 1, 2, 3, 4, 5, 6, 7, 8, 9, 10, 11, 12], [0, 1, 2, 3, 4, 5, 6, 7, 8, 9, 10, 11, 12, 13], [0, 1, 2, 3, 4, 5, 6, 7, 8, 9, 10, 11, 12, 13, 14], [0, 1, 2, 3, 4, 5, 6, 7, 8, 9, 10, 11, 12, 13, 14, 15], [0, 1, 2, 3, 4, 5, 6, 7, 8, 9, 10, 11, 12, 13, 14, 15, 16], [0, 1, 2, 3, 4, 5, 6, 7, 8, 9, 10, 11, 12, 13, 14, 15, 16], [0, 1, 2, 3, 4, 5, 6, 7, 8, 9, 10, 11, 12, 13, 14, 15, 16, 18], [0, 1, 2, 3, 4, 5, 6, 7, 8, 9, 10, 11, 12, 13, 14, 15, 16, 18, 19], [0, 1, 2, 3, 4, 5, 6, 7, 8, 9, 10, 11, 12, 13, 14, 15, 16, 18, 19, 20], [0, 1, 2, 3, 4, 5, 6, 7, 8, 9, 10, 11, 12, 13, 14, 15, 16, 18, 19, 20, 21], [0, 1, 2, 3, 4, 5, 6, 7, 8, 9, 10, 11, 12, 13, 14, 15, 16, 17, 18, 19, 20, 21, 22], [0, 1, 2, 3, 4, 5, 6, 7, 8, 9, 10, 11, 12, 13, 14, 15, 16, 17, 18, 19, 20, 21, 22, 23], [0, 1, 2, 3, 4, 5, 6, 7, 8, 9, 10, 11, 12, 13, 14, 15, 16, 17, 18, 19, 20, 21, 22, 23, 24], [0, 1, 2, 3, 4, 5, 6, 7, 8, 9, 10, 11, 12, 13, 14, 15, 16, 17, 18, 19, 20, 21, 22, 23, 24, 25], [0, 1, 2, 3, 4, 5, 6, 7, 8, 9, 10, 11, 12, 13, 14, 15, 16, 17, 18, 19, 20, 21, 22, 23, 24, 25, 26], [0, 1, 2, 3, 4, 5, 6, 7, 8, 9, 10, 11, 12, 13, 14, 15, 16, 17, 18, 19, 20, 21, 22, 23, 24, 25, 26, 27], [0, 1, 2, 3, 4, 5, 6, 7, 8, 9, 10, 11, 12, 13, 14, 15, 16, 17, 18, 19, 20, 21, 22, 23, 24, 25, 26, 27, 28], [0, 1, 2, 3, 4, 5, 6, 7, 8, 9, 10, 11, 12, 13, 14, 15, 16, 17, 18, 19, 20, 21, 22, 23, 24], [0, 1, 2, 3, 4, 5, 6, 7, 8, 9, 10, 11, 12, 13, 14, 15, 16, 17, 18, 19, 20, 21, 22, 23, 24], [0, 1, 2, 3, 4, 5, 6, 7, 8, 9, 10, 11, 12, 13, 14, 15, 16, 17, 18, 19, 20, 21, 22, 23, 24], [0, 1, 2, 3, 4, 5, 6, 7, 8, 9, 10, 11, 12, 13, 14, 15, 16, 17, 18, 19, 20, 21, 22, 23, 24, 31, 32], [0, 1, 2, 3, 4, 5, 6, 7, 8, 9, 10, 11, 12, 13, 14, 15, 16, 17, 18, 19, 20, 21, 22, 23, 24, 31, 32, 33], [0, 1, 2, 3, 4, 5, 6, 7, 8, 9, 10, 11, 12, 13, 14, 15, 16, 17, 18, 19, 20, 21, 22, 23, 24, 25, 26, 27, 28, 29, 30, 31, 32, 33, 34], [0, 1, 2, 3, 4, 5, 6, 7, 8, 9, 10, 11, 12, 13, 14, 15, 16, 17, 18, 19, 20, 21, 22, 23, 24, 25, 26, 27, 28, 29, 30, 31, 32, 33, 34, 35], [0, 1, 2, 3, 4, 5, 6, 7, 8, 9, 10, 11, 12, 13, 14, 15, 16, 17, 18, 19, 20, 21, 22, 23, 24, 25, 26, 27, 28, 29, 30, 31, 32, 33, 34, 35, 36], [0, 1, 2, 3, 4, 5, 6, 7, 8, 9, 10, 11, 12, 13, 14, 15, 16, 17, 18, 19, 20, 21, 22, 23, 24, 25, 26, 27, 28, 29, 30, 31, 32, 33, 34, 35, 36, 37]]) [[0, 1, 2, 3, 4, 5, 6, 7, 8, 9, 10, 11, 12, 13, 14, 15, 16, 17, 18, 19, 20, 21, 22, 23, 24, 25, 26, 27, 28, 30, 31, 32, 33, 29, 34, 35, 36, 37, 38], [0, 1, 2, 3, 4, 5, 6, 7, 8, 9, 10, 11, 12, 13, 14, 15, 16, 17, 18, 19, 20, 21, 22, 23, 24, 25, 26, 27, 28, 30, 31, 32, 33, 34, 29, 35, 36, 37, 38]] (by kernel_rfl) (by kernel_rfl) (NoPanic.seq (NoPanic.block (NoPanic.seq (NoPanic.seq (NoPanic.block (NoPanic.seq (NoPanic.body))))))) ?_
      have hS87 := hS39.drew
      revert hS87
      generalize World.drew w38 = w86
      intro hS87
      refine ⟨⟨blk_cell (hS87.rd 0).1 5 rfl, hS87.cell 0 rfl _ (cases8 (Q := fun z_ => (#[(sv Af p1.Cells cf), (iv p1.South.e0), (iv p1.South.e1), (iv p1.South.e2), (iv p1.South.e3), (iv p1.South.e4), (iv p1.South.e5), (iv p1.South.e6), (iv p1.South.e7), (iv p1.North.e0), (iv p1.North.e1), (iv p1.North.e2), (iv p1.North.e3), (iv p1.North.e4), (iv p1.North.e5), (iv p1.North.e6), (iv p1.North.e7), (iv p1.West), (iv p1.East)] : Array Value)[1 + z_.toNat * 1]? = some (iv (A8_Int.get p1.South z_))) h88 (by kernel_rfl) (by kernel_rfl) (by kernel_rfl) (by kernel_rfl) (by kernel_rfl) (by kernel_rfl) (by kernel_rfl) (by kernel_rfl)), trivial⟩, forallC ?_ (forallC ?_ (forallN))⟩
      ·
       refine seg 3 [] [0, 2, 4, 7, 33, 34, 39] [(0, (pt ga)), (2, (iv p2)), (4, (pt g9)), (7, (iv x34)), (33, (iv p0.width)), (34, (iv x34)), (39, (bv (p2 == 0)))] [] (fun fb => by kernel_rfl) rfl trivial ?_
       refine WL.setB 39 h44 rfl ?_
       refine segF 13 [.v (sv Ad p0.edges.South cd), .v (iv (A8_Int.get p1.South x34))] [0, 2, 4, 7, 33, 34, 39, 44, 45, 49] [(0, (pt ga)), (2, (iv p2)), (4, (pt g9)), (7, (iv x34)), (33, (iv p0.width)), (34, (iv x34)), (39, (bv true)), (44, (sv Ad p0.edges.South cd)), (45, (iv x34)), (49, (iv (A8_Int.get p1.South x34)))] [.idx (some ⟨0, 0, none⟩) x34 8] [0, 1] [(7, ⟨ga, 5, none⟩, (sv Ad p0.edges.South cd)), (12, (flatA ⟨g9, 1, none⟩ (x34.toNat * 1)), (iv (A8_Int.get p1.South x34)))] (fun fb => by kernel_rfl) rfl ⟨⟨h88.1, h88.2, rfl⟩, trivial⟩ rfl ?_
       obtain ⟨t89, ht90, hx43⟩ := bind_some hx43
       refine WL.call (some 50) 33 #[(sv Ad p0.edges.South cd), (iv x34), (iv (A8_Int.get p1.South x34))] (fun fb => by kernel_rfl) (fill_at_calls p0.edges.South x34 (A8_Int.get p1.South x34) Ad cd t89 _ (hS87.rd 5) ht90) (fun v w91 hR92 => ?_)
       obtain ⟨rfl, hk_⟩ := hR92
       have hS93 := hS87.keepN hk_
       refine ⟨trivial, ?_⟩
       refine seg 17 [] [0, 2, 4, 7, 33, 34, 53] [(0, (pt ga)), (2, (iv p2)), (4, (pt g9)), (7, (iv x34)), (33, (iv p0.width)), (34, (iv x34)), (53, (bv (!t89)))] [] (fun fb => by kernel_rfl) rfl trivial ?_
       refine WL.cutV (T := Bool) 39 (fun t => [(75, (bv t)), (0, (pt ga)), (2, (iv p2)), (4, (pt g9)), (33, (iv p0.width)), (34, (iv x34))]) (fun t => (!t89) = t) (fun K => ?_) ?_
       ·
        rcases Bool.eq_false_or_eq_true (!t89) with h94 | h94
        ·
         refine WL.setB 53 h94 rfl ?_
         refine seg 39 [] [0, 2, 4, 33, 34, 75] [(0, (pt ga)), (2, (iv p2)), (4, (pt g9)), (33, (iv p0.width)), (34, (iv x34)), (75, (bv true))] [] (fun fb => by kernel_rfl) rfl trivial ?_
         exact WL.toV K true [75, 0, 2, 4, 33, 34] rfl (by first | (rw [h94]; done) | (rw [h94]; rfl))
        refine WL.setB 53 h94 rfl ?_
        refine seg 25 [.v (iv p0.height)] [0, 2, 4, 7, 33, 34, 53, 61] [(0, (pt ga)), (2, (iv p2)), (4, (pt g9)), (7, (iv x34)), (33, (iv p0.width)), (34, (iv x34)), (53, (bv false)), (61, (bv (p2 == (w64 (p0.height - 1)))))] [.cell ⟨ga, 2, none⟩ (iv p0.height)] (fun fb => by kernel_rfl) rfl ⟨blk_cell (hS93.rd 0).1 2 rfl, trivial⟩ ?_
        refine WL.setB 61 h45 rfl ?_
        refine seg 39 [] [0, 2, 4, 33, 34, 75] [(0, (pt ga)), (2, (iv p2)), (4, (pt g9)), (33, (iv p0.width)), (34, (iv x34)), (75, (bv false))] [] (fun fb => by kernel_rfl) rfl trivial ?_
        exact WL.toV K false [75, 0, 2, 4, 33, 34] rfl (by first | (rw [h94]; done) | (rw [h94]; rfl))
       rintro b95 rfl
       refine WL.done rfl ?_
       injection hx43 with hx43
       exact WX.to Kx42 (!t89) [0, 2, 4, 33, 34, 75] rfl ⟨(hS93.subR [0, 1, 2, 3, 4, 5, 6, 7]).sub [0] (by decide), hx43.symm⟩
      refine seg 3 [] [0, 2, 4, 7, 33, 34, 39] [(0, (pt ga)), (2, (iv p2)), (4, (pt g9)), (7, (iv x34)), (33, (iv p0.width)), (34, (iv x34)), (39, (bv (p2 == 0)))] [] (fun fb => by kernel_rfl) rfl trivial ?_
      refine WL.setB 39 h44 rfl ?_
      refine segF 13 [.v (sv Ad p0.edges.South cd), .v (iv (A8_Int.get p1.South x34))] [0, 2, 4, 7, 33, 34, 39, 44, 45, 49] [(0, (pt ga)), (2, (iv p2)), (4, (pt g9)), (7, (iv x34)), (33, (iv p0.width)), (34, (iv x34)), (39, (bv true)), (44, (sv Ad p0.edges.South cd)), (45, (iv x34)), (49, (iv (A8_Int.get p1.South x34)))] [.idx (some ⟨0, 0, none⟩) x34 8] [0, 1] [(7, ⟨ga, 5, none⟩, (sv Ad p0.edges.South cd)), (12, (flatA ⟨g9, 1, none⟩ (x34.toNat * 1)), (iv (A8_Int.get p1.South x34)))] (fun fb => by kernel_rfl) rfl ⟨⟨h88.1, h88.2, rfl⟩, trivial⟩ rfl ?_
      obtain ⟨t96, ht97, hx43⟩ := bind_some hx43
      refine WL.call (some 50) 33 #[(sv Ad p0.edges.South cd), (iv x34), (iv (A8_Int.get p1.South x34))] (fun fb => by kernel_rfl) (fill_at_calls p0.edges.South x34 (A8_Int.get p1.South x34) Ad cd t96 _ (hS87.rd 5) ht97) (fun v w98 hR99 => ?_)
      obtain ⟨rfl, hk_⟩ := hR99
      have hS100 := hS87.keepN hk_
      refine ⟨trivial, ?_⟩
      refine seg 17 [] [0, 2, 4, 7, 33, 34, 53] [(0, (pt ga)), (2, (iv p2)), (4, (pt g9)), (7, (iv x34)), (33, (iv p0.width)), (34, (iv x34)), (53, (bv (!t96)))] [] (fun fb => by kernel_rfl) rfl trivial ?_
      refine WL.cutV (T := Bool) 39 (fun t => [(75, (bv t)), (0, (pt ga)), (2, (iv p2)), (4, (pt g9)), (33, (iv p0.width)), (34, (iv x34))]) (fun t => (!t96) = t) (fun K => ?_) ?_
      ·
       rcases Bool.eq_false_or_eq_true (!t96) with h101 | h101
       ·
        refine WL.setB 53 h101 rfl ?_
        refine seg 39 [] [0, 2, 4, 33, 34, 75] [(0, (pt ga)), (2, (iv p2)), (4, (pt g9)), (33, (iv p0.width)), (34, (iv x34)), (75, (bv true))] [] (fun fb => by kernel_rfl) rfl trivial ?_
        exact WL.toV K true [75, 0, 2, 4, 33, 34] rfl (by first | (rw [h101]; done) | (rw [h101]; rfl))
       refine WL.setB 53 h101 rfl ?_
       refine seg 25 [.v (iv p0.height)] [0, 2, 4, 7, 33, 34, 53, 61] [(0, (pt ga)), (2, (iv p2)), (4, (pt g9)), (7, (iv x34)), (33, (iv p0.width)), (34, (iv x34)), (53, (bv false)), (61, (bv (p2 == (w64 (p0.height - 1)))))] [.cell ⟨ga, 2, none⟩ (iv p0.height)] (fun fb => by kernel_rfl) rfl ⟨blk_cell (hS100.rd 0).1 2 rfl, trivial⟩ ?_
       refine WL.setB 61 h45 rfl ?_
       refine seg 39 [] [0, 2, 4, 33, 34, 75] [(0, (pt ga)), (2, (iv p2)), (4, (pt g9)), (33, (iv p0.width)), (34, (iv x34)), (75, (bv false))] [] (fun fb => by kernel_rfl) rfl trivial ?_
       exact WL.toV K false [75, 0, 2, 4, 33, 34] rfl (by first | (rw [h101]; done) | (rw [h101]; rfl))
      rintro b102 rfl
      refine WL.done rfl ?_
      injection hx43 with hx43
      exact WX.to Kx42 (!t96) [0, 2, 4, 33, 34, 75] rfl ⟨(hS100.subR [0, 1, 2, 3, 4, 5, 6, 7]).sub [0] (by decide), hx43.symm⟩
     rcases br_some hx43 with ⟨h103, hx43⟩ | ⟨h103, hx43⟩
     ·
      refine WC.regionD ([], [0, 1, 2, 3, 4, 5, 6, 7, 8, 9, 10, 11, 12, 14, 15, 16, 17, 18, 19, 20, 22, 23, 24, 25, 26, 27, 28, 30, 31, 32, 33, 36, 37, 38], [[], [0], [0, 1], [0, 1, 2], [0, 1, 2, 3], [0, 1, 2, 3, 4], [0, 1, 2, 3, 4, 5], [0, 1, 2, 3, 4, 5, 6], [0, 1, 2], [0, 1, 2], [0, 1, 2], [0, 1, 2, 9, 10], [0, 1, 2, 9, 10, 11], [0, 1, 2, 3, 4, 5, 6, 7, 8, 9, 10, 11, 12], [0, 1, 2, 3, 4, 5, 6, 7, 8, 9, 10, 11, 12, 13], [0, 1, 2, 3, 4, 5, 6, 7, 8, 9, 10, 11, 12, 13, 14], [0, 1, 2, 3, 4, 5, 6, 7, 8, 9, 10, 11, 12, 13, 14, 15], [0, 1, 2, 3, 4, 5, 6, 7, 8, 9, 10, 11, 12, 13, 14, 15, 16], [0, 1, 2, 3, 4, 5, 6, 7, 8, 9, 10, 11, 12, 13, 14, 15, 16], [0, 1, 2, 3, 4, 5, 6, 7, 8, 9, 10, 11, 12, 13, 14, 15, 16, 18], [0, 1, 2, 3, 4, 5, 6, 7, 8, 9, 10, 11, 12, 13, 14, 15, 16, 18, 19], [0, 1, 2, 3, 4, 5, 6, 7, 8, 9, 10, 11, 12, 13, 14, 15, 16, 18, 19, 20], [0, 1, 2, 3, 4, 5, 6, 7, 8, 9, 10, 11, 12, 13, 14, 15, 16, 18, 19, 20, 21], [0, 1, 2, 3, 4, 5, 6, 7, 8, 9, 10, 11, 12, 13, 14, 15, 16, 17, 18, 19, 20, 21, 22], [0, 1, 2, 3, 4, 5, 6, 7, 8, 9, 10, 11, 12, 13, 14, 15, 16, 17, 18, 19, 20, 21, 22, 23], [0, 1, 2, 3, 4, 5, 6, 7, 8, 9, 10, 11, 12, 13, 14, 15, 16, 17, 18, 19, 20, 21, 22, 23, 24], [0, 1, 2, 3, 4, 5, 6, 7, 8, 9, 10, 11, 12, 13, 14, 15, 16, 17, 18, 19, 20, 21, 22, 23, 24, 25], [0, 1, 2, 3, 4, 5, 6, 7, 8, 9, 10, 11, 12, 13, 14, 15, 16, 17, 18, 19, 20, 21, 22, 23, 24, 25, 26], [0, 1, 2, 3, 4, 5, 6, 7, 8, 9, 10, 11, 12, 13, 14, 15, 16, 17, 18, 19, 20, 21, 22, 23, 24, 25, 26, 27], [0, 1, 2, 3, 4, 5, 6, 7, 8, 9, 10, 11, 12, 13, 14, 15, 16, 17, 18, 19, 20, 21, 22, 23, 24, 25, 26, 27, 28], [0, 1, 2, 3, 4, 5, 6, 7, 8, 9, 10, 11, 12, 13, 14, 15, 16, 17, 18, 19, 20, 21, 22, 23, 24], [0, 1, 2, 3, 4, 5, 6, 7, 8, 9, 10, 11, 12, 13, 14, 15, 16, 17, 18, 19, 20, 21, 22, 23, 24], [0, 1, 2, 3, 4, 5, 6, 7, 8, 9, 10, 11, 12, 13, 14, 15, 16, 17, 18, 19, 20, 21, 22, 23, 24], [0, 1, 2, 3, 4, 5, 6, 7, 8, 9, 10, 11, 12, 13, 14, 15, 16, 17, 18, 19, 20, 21, 22, 23, 24, 31, 32], [0, 1, 2, 3, 4, 5, 6, 7, 8, 9, 10, 11, 12, 13, 14, 15, 16, 17, 18, 19, 20, 21, 22, 23, 24, 31, 32, 33], [0, 1, 2, 3, 4, 5, 6, 7, 8, 9, 10, 11, 12, 13, 14, 15, 16, 17, 18, 19, 20, 21, 22, 23, 24, 25, 26, 27, 28, 29, 30, 31, 32, 33, 34], [0, 1, 2, 3, 4, 5, 6, 7, 8, 9, 10, 11, 12, 13, 14, 15, 16, 17, 18, 19, 20, 21, 22, 23, 24, 25, 26, 27, 28, 29, 30, 31, 32, 33, 34, 35], [0, 1, 2, 3, 4, 5, 6, 7, 8, 9, 10, 11, 12, 13, 14, 15, 16, 17, 18, 19, 20, 21, 22, 23, 24, 25, 26, 27, 28, 29, 30, 31, 32, 33, 34, 35, 36], [0, 1, 2, 3, 4, 5, 6, 7, 8, 9, 10, 11, 12, 13, 14, 15, 16, 17, 18, 19, 20, 21, 22, 23, 24, 25, 26, 27, 28, 29, 30, 31, 32, 33, 34, 35, 36, 37]]) [[0, 1, 2, 3, 4, 5, 6, 7, 8, 9, 10, 11, 12, 13, 14, 15, 16, 17, 18, 19, 20, 21, 22, 23, 24, 25, 26, 27, 28, 30, 31, 32, 33, 29, 34, 35, 36, 37, 38], [0, 1, 2, 3, 4, 5, 6, 7, 8, 9, 10, 11, 12, 13, 14, 15, 16, 17, 18, 19, 20, 21, 22, 23, 24, 25, 26, 27, 28, 30, 31, 32, 33, 34, 29, 35, 36, 37, 38]] (by kernel_rfl) (by kernel_rfl) (NoPanic.seq (NoPanic.block (NoPanic.seq (NoPanic.seq (NoPanic.block (NoPanic.seq (NoPanic.body))))))) ?_
      have hS105 := hS39.drew
      revert hS105
      generalize World.drew w38 = w104
      intro hS105
      refine ⟨trivial, forallC ?_ (forallC ?_ (forallN))⟩
      ·
       refine seg 3 [] [0, 2, 4, 7, 33, 34, 39] [(0, (pt ga)), (2, (iv p2)), (4, (pt g9)), (7, (iv x34)), (33, (iv p0.width)), (34, (iv x34)), (39, (bv (p2 == 0)))] [] (fun fb => by kernel_rfl) rfl trivial ?_
       refine WL.setB 39 h44 rfl ?_
       refine seg 25 [.v (iv p0.height)] [0, 2, 4, 7, 33, 34, 53, 61] [(0, (pt ga)), (2, (iv p2)), (4, (pt g9)), (7, (iv x34)), (33, (iv p0.width)), (34, (iv x34)), (53, (bv false)), (61, (bv (p2 == (w64 (p0.height - 1)))))] [.cell ⟨ga, 2, none⟩ (iv p0.height)] (fun fb => by kernel_rfl) rfl ⟨blk_cell (hS105.rd 0).1 2 rfl, trivial⟩ ?_
       refine WL.setB 61 h103 rfl ?_
       refine seg 32 [] [0, 2, 4, 33, 34, 53, 61, 65, 67, 68, 69] [(0, (pt ga)), (2, (iv p2)), (4, (pt g9)), (33, (iv p0.width)), (34, (iv x34)), (53, (bv false)), (61, (bv true)), (65, (.pointer (some ⟨ga, 3, none⟩))), (67, (iv x34)), (68, (iv x34)), (69, (.pointer (some ⟨g9, 9, none⟩)))] [] (fun fb => by kernel_rfl) rfl trivial ?_
       obtain ⟨h106, hx43⟩ := as_some hx43
       refine seg 35 [.v (sv Ab p0.edges.North cb), .v (iv (A8_Int.get p1.North x34))] [0, 2, 4, 33, 34, 53, 61, 66, 67, 71] [(0, (pt ga)), (2, (iv p2)), (4, (pt g9)), (33, (iv p0.width)), (34, (iv x34)), (53, (bv false)), (61, (bv true)), (66, (sv Ab p0.edges.North cb)), (67, (iv x34)), (71, (iv (A8_Int.get p1.North x34)))] [.idx (some ⟨0, 0, none⟩) x34 8, .cell ⟨ga, 3, none⟩ (sv Ab p0.edges.North cb), .cell (flatA ⟨g9, 9, none⟩ (x34.toNat * 1)) (iv (A8_Int.get p1.North x34))] (fun fb => by kernel_rfl) rfl ⟨⟨h106.1, h106.2, rfl⟩, blk_cell (hS105.rd 0).1 3 rfl, hS105.cell 0 rfl _ (cases8 (Q := fun z_ => (#[(sv Af p1.Cells cf), (iv p1.South.e0), (iv p1.South.e1), (iv p1.South.e2), (iv p1.South.e3), (iv p1.South.e4), (iv p1.South.e5), (iv p1.South.e6), (iv p1.South.e7), (iv p1.North.e0), (iv p1.North.e1), (iv p1.North.e2), (iv p1.North.e3), (iv p1.North.e4), (iv p1.North.e5), (iv p1.North.e6), (iv p1.North.e7), (iv p1.West), (iv p1.East)] : Array Value)[9 + z_.toNat * 1]? = some (iv (A8_Int.get p1.North z_))) h106 (by kernel_rfl) (by kernel_rfl) (by kernel_rfl) (by kernel_rfl) (by kernel_rfl) (by kernel_rfl) (by kernel_rfl) (by kernel_rfl)), trivial⟩ ?_
       obtain ⟨t107, ht108, hx43⟩ := bind_some hx43
       refine WL.call (some 72) 33 #[(sv Ab p0.edges.North cb), (iv x34), (iv (A8_Int.get p1.North x34))] (fun fb => by kernel_rfl) (fill_at_calls p0.edges.North x34 (A8_Int.get p1.North x34) Ab cb t107 _ (hS105.rd 3) ht108) (fun v w109 hR110 => ?_)
       obtain ⟨rfl, hk_⟩ := hR110
       have hS111 := hS105.keepN hk_
       refine ⟨trivial, ?_⟩
       refine seg 39 [] [0, 2, 4, 33, 34, 75] [(0, (pt ga)), (2, (iv p2)), (4, (pt g9)), (33, (iv p0.width)), (34, (iv x34)), (75, (bv (!t107)))] [] (fun fb => by kernel_rfl) rfl trivial ?_
       refine WL.done rfl ?_
       injection hx43 with hx43
       exact WX.to Kx42 (!t107) [0, 2, 4, 33, 34, 75] rfl ⟨(hS111.subR [0, 1, 2, 3, 4, 5, 6, 7]).sub [0] (by decide), hx43.symm⟩
      refine seg 3 [] [0, 2, 4, 7, 33, 34, 39] [(0, (pt ga)), (2, (iv p2)), (4, (pt g9)), (7, (iv x34)), (33, (iv p0.width)), (34, (iv x34)), (39, (bv (p2 == 0)))] [] (fun fb => by kernel_rfl) rfl trivial ?_
      refine WL.setB 39 h44 rfl ?_
      refine seg 25 [.v (iv p0.height)] [0, 2, 4, 7, 33, 34, 53, 61] [(0, (pt ga)), (2, (iv p2)), (4, (pt g9)), (7, (iv x34)), (33, (iv p0.width)), (34, (iv x34)), (53, (bv false)), (61, (bv (p2 == (w64 (p0.height - 1)))))] [.cell ⟨ga, 2, none⟩ (iv p0.height)] (fun fb => by kernel_rfl) rfl ⟨blk_cell (hS105.rd 0).1 2 rfl, trivial⟩ ?_
      refine WL.setB 61 h103 rfl ?_
      refine seg 32 [] [0, 2, 4, 33, 34, 53, 61, 65, 67, 68, 69] [(0, (pt ga)), (2, (iv p2)), (4, (pt g9)), (33, (iv p0.width)), (34, (iv x34)), (53, (bv false)), (61, (bv true)), (65, (.pointer (some ⟨ga, 3, none⟩))), (67, (iv x34)), (68, (iv x34)), (69, (.pointer (some ⟨g9, 9, none⟩)))] [] (fun fb => by kernel_rfl) rfl trivial ?_
      obtain ⟨h112, hx43⟩ := as_some hx43
      refine seg 35 [.v (iv (A8_Int.get p1.North x34)), .v (sv Ab p0.edges.North cb)] [0, 2, 4, 33, 34, 53, 61, 66, 67, 71] [(0, (pt ga)), (2, (iv p2)), (4, (pt g9)), (33, (iv p0.width)), (34, (iv x34)), (53, (bv false)), (61, (bv true)), (66, (sv Ab p0.edges.North cb)), (67, (iv x34)), (71, (iv (A8_Int.get p1.North x34)))] [.idx (some ⟨0, 0, none⟩) x34 8, .cell (flatA ⟨g9, 9, none⟩ (x34.toNat * 1)) (iv (A8_Int.get p1.North x34)), .cell ⟨ga, 3, none⟩ (sv Ab p0.edges.North cb)] (fun fb => by kernel_rfl) rfl ⟨⟨h112.1, h112.2, rfl⟩, hS105.cell 0 rfl _ (cases8 (Q := fun z_ => (#[(sv Af p1.Cells cf), (iv p1.South.e0), (iv p1.South.e1), (iv p1.South.e2), (iv p1.South.e3), (iv p1.South.e4), (iv p1.South.e5), (iv p1.South.e6), (iv p1.South.e7), (iv p1.North.e0), (iv p1.North.e1), (iv p1.North.e2), (iv p1.North.e3), (iv p1.North.e4), (iv p1.North.e5), (iv p1.North.e6), (iv p1.North.e7), (iv p1.West), (iv p1.East)] : Array Value)[9 + z_.toNat * 1]? = some (iv (A8_Int.get p1.North z_))) h112 (by kernel_rfl) (by kernel_rfl) (by kernel_rfl) (by kernel_rfl) (by kernel_rfl) (by kernel_rfl) (by kernel_rfl) (by kernel_rfl)), blk_cell (hS105.rd 0).1 3 rfl, trivial⟩ ?_
      obtain ⟨t113, ht114, hx43⟩ := bind_some hx43
      refine WL.call (some 72) 33 #[(sv Ab p0.edges.North cb), (iv x34), (iv (A8_Int.get p1.North x34))] (fun fb => by kernel_rfl) (fill_at_calls p0.edges.North x34 (A8_Int.get p1.North x34) Ab cb t113 _ (hS105.rd 3) ht114) (fun v w115 hR116 => ?_)
      obtain ⟨rfl, hk_⟩ := hR116
      have hS117 := hS105.keepN hk_
      refine ⟨trivial, ?_⟩
      refine seg 39 [] [0, 2, 4, 33, 34, 75] [(0, (pt ga)), (2, (iv p2)), (4, (pt g9)), (33, (iv p0.width)), (34, (iv x34)), (75, (bv (!t113)))] [] (fun fb => by kernel_rfl) rfl trivial ?_
      refine WL.done rfl ?_
      injection hx43 with hx43
      exact WX.to Kx42 (!t113) [0, 2, 4, 33, 34, 75] rfl ⟨(hS117.subR [0, 1, 2, 3, 4, 5, 6, 7]).sub [0] (by decide), hx43.symm⟩
     refine WC.regionD ([], [0, 1, 2, 3, 4, 5, 6, 7, 8, 9, 10, 11, 12, 14, 15, 16, 17, 18, 19, 20, 22, 23, 24, 25, 26, 27, 28, 30, 31, 32, 33, 36, 37, 38], [[], [0], [0, 1], [0, 1, 2], [0, 1, 2, 3], [0, 1, 2, 3, 4], [0, 1, 2, 3, 4, 5], [0, 1, 2, 3, 4, 5, 6], [0, 1, 2], [0, 1, 2], [0, 1, 2], [0, 1, 2, 9, 10], [0, 1, 2, 9, 10, 11], [0, 1, 2, 3, 4, 5, 6, 7, 8, 9, 10, 11, 12], [0, 1, 2, 3, 4, 5, 6, 7, 8, 9, 10, 11, 12, 13], [0, 1, 2, 3, 4, 5, 6, 7, 8, 9, 10, 11, 12, 13, 14], [0, 1, 2, 3, 4, 5, 6, 7, 8, 9, 10, 11, 12, 13, 14, 15], [0, 1, 2, 3, 4, 5, 6, 7, 8, 9, 10, 11, 12, 13, 14, 15, 16], [0, 1, 2, 3, 4, 5, 6, 7, 8, 9, 10, 11, 12, 13, 14, 15, 16], [0, 1, 2, 3, 4, 5, 6, 7, 8, 9, 10, 11, 12, 13, 14, 15, 16, 18], [0, 1, 2, 3, 4, 5, 6, 7, 8, 9, 10, 11, 12, 13, 14, 15, 16, 18, 19], [0, 1, 2, 3, 4, 5, 6, 7, 8, 9, 10, 11, 12, 13, 14, 15, 16, 18, 19, 20], [0, 1, 2, 3, 4, 5, 6, 7, 8, 9, 10, 11, 12, 13, 14, 15, 16, 18, 19, 20, 21], [0, 1, 2, 3, 4, 5, 6, 7, 8, 9, 10, 11, 12, 13, 14, 15, 16, 17, 18, 19, 20, 21, 22], [0, 1, 2, 3, 4, 5, 6, 7, 8, 9, 10, 11, 12, 13, 14, 15, 16, 17, 18, 19, 20, 21, 22, 23], [0, 1, 2, 3, 4, 5, 6, 7, 8, 9, 10, 11, 12, 13, 14, 15, 16, 17, 18, 19, 20, 21, 22, 23, 24], [0, 1, 2, 3, 4, 5, 6, 7, 8, 9, 10, 11, 12, 13, 14, 15, 16, 17, 18, 19, 20, 21, 22, 23, 24, 25], [0, 1, 2, 3, 4, 5, 6, 7, 8, 9, 10, 11, 12, 13, 14, 15, 16, 17, 18, 19, 20, 21, 22, 23, 24, 25, 26], [0, 1, 2, 3, 4, 5, 6, 7, 8, 9, 10, 11, 12, 13, 14, 15, 16, 17, 18, 19, 20, 21, 22, 23, 24, 25, 26, 27], [0, 1, 2, 3, 4, 5, 6, 7, 8, 9, 10, 11, 12, 13, 14, 15, 16, 17, 18, 19, 20, 21, 22, 23, 24, 25, 26, 27, 28], [0, 1, 2, 3, 4, 5, 6, 7, 8, 9, 10, 11, 12, 13, 14, 15, 16, 17, 18, 19, 20, 21, 22, 23, 24], [0, 1, 2, 3, 4, 5, 6, 7, 8, 9, 10, 11, 12, 13, 14, 15, 16, 17, 18, 19, 20, 21, 22, 23, 24], [0, 1, 2, 3, 4, 5, 6, 7, 8, 9, 10, 11, 12, 13, 14, 15, 16, 17, 18, 19, 20, 21, 22, 23, 24], [0, 1, 2, 3, 4, 5, 6, 7, 8, 9, 10, 11, 12, 13, 14, 15, 16, 17, 18, 19, 20, 21, 22, 23, 24, 31, 32], [0, 1, 2, 3, 4, 5, 6, 7, 8, 9, 10, 11, 12, 13, 14, 15, 16, 17, 18, 19, 20, 21, 22, 23, 24, 31, 32, 33], [0, 1, 2, 3, 4, 5, 6, 7, 8, 9, 10, 11, 12, 13, 14, 15, 16, 17, 18, 19, 20, 21, 22, 23, 24, 25, 26, 27, 28, 29, 30, 31, 32, 33, 34], [0, 1, 2, 3, 4, 5, 6, 7, 8, 9, 10, 11, 12, 13, 14, 15, 16, 17, 18, 19, 20, 21, 22, 23, 24, 25, 26, 27, 28, 29, 30, 31, 32, 33, 34, 35], [0, 1, 2, 3, 4, 5, 6, 7, 8, 9, 10, 11, 12, 13, 14, 15, 16, 17, 18, 19, 20, 21, 22, 23, 24, 25, 26, 27, 28, 29, 30, 31, 32, 33, 34, 35, 36], [0, 1, 2, 3, 4, 5, 6, 7, 8, 9, 10, 11, 12, 13, 14, 15, 16, 17, 18, 19, 20, 21, 22, 23, 24, 25, 26, 27, 28, 29, 30, 31, 32, 33, 34, 35, 36, 37]]) [[0, 1, 2, 3, 4, 5, 6, 7, 8, 9, 10, 11, 12, 13, 14, 15, 16, 17, 18, 19, 20, 21, 22, 23, 24, 25, 26, 27, 28, 30, 31, 32, 33, 29, 34, 35, 36, 37, 38], [0, 1, 2, 3, 4, 5, 6, 7, 8, 9, 10, 11, 12, 13, 14, 15, 16, 17, 18, 19, 20, 21, 22, 23, 24, 25, 26, 27, 28, 30, 31, 32, 33, 34, 29, 35, 36, 37, 38]] (by kernel_rfl) (by kernel_rfl) (NoPanic.seq (NoPanic.block (NoPanic.seq (NoPanic.seq (NoPanic.block (NoPanic.seq (NoPanic.body))))))) ?_
     have hS119 := hS39.drew
     revert hS119
     generalize World.drew w38 = w118
     intro hS119
     refine ⟨trivial, forallC ?_ (forallC ?_ (forallN))⟩
     ·
      refine seg 3 [] [0, 2, 4, 7, 33, 34, 39] [(0, (pt ga)), (2, (iv p2)), (4, (pt g9)), (7, (iv x34)), (33, (iv p0.width)), (34, (iv x34)), (39, (bv (p2 == 0)))] [] (fun fb => by kernel_rfl) rfl trivial ?_
      refine WL.setB 39 h44 rfl ?_
      refine seg 25 [.v (iv p0.height)] [0, 2, 4, 7, 33, 34, 53, 61] [(0, (pt ga)), (2, (iv p2)), (4, (pt g9)), (7, (iv x34)), (33, (iv p0.width)), (34, (iv x34)), (53, (bv false)), (61, (bv (p2 == (w64 (p0.height - 1)))))] [.cell ⟨ga, 2, none⟩ (iv p0.height)] (fun fb => by kernel_rfl) rfl ⟨blk_cell (hS119.rd 0).1 2 rfl, trivial⟩ ?_
      refine WL.setB 61 h103 rfl ?_
      refine seg 39 [] [0, 2, 4, 33, 34, 75] [(0, (pt ga)), (2, (iv p2)), (4, (pt g9)), (33, (iv p0.width)), (34, (iv x34)), (75, (bv false))] [] (fun fb => by kernel_rfl) rfl trivial ?_
      refine WL.done rfl ?_
      injection hx43 with hx43
      exact WX.to Kx42 false [0, 2, 4, 33, 34, 75] rfl ⟨(hS119.subR [0, 1, 2, 3, 4, 5, 6, 7]).sub [0] (by decide), hx43.symm⟩
     refine seg 3 [] [0, 2, 4, 7, 33, 34, 39] [(0, (pt ga)), (2, (iv p2)), (4, (pt g9)), (7, (iv x34)), (33, (iv p0.width)), (34, (iv x34)), (39, (bv (p2 == 0)))] [] (fun fb => by kernel_rfl) rfl trivial ?_
     refine WL.setB 39 h44 rfl ?_
     refine seg 25 [.v (iv p0.height)] [0, 2, 4, 7, 33, 34, 53, 61] [(0, (pt ga)), (2, (iv p2)), (4, (pt g9)), (7, (iv x34)), (33, (iv p0.width)), (34, (iv x34)), (53, (bv false)), (61, (bv (p2 == (w64 (p0.height - 1)))))] [.cell ⟨ga, 2, none⟩ (iv p0.height)] (fun fb => by kernel_rfl) rfl ⟨blk_cell (hS119.rd 0).1 2 rfl, trivial⟩ ?_
     refine WL.setB 61 h103 rfl ?_
     refine seg 39 [] [0, 2, 4, 33, 34, 75] [(0, (pt ga)), (2, (iv p2)), (4, (pt g9)), (33, (iv p0.width)), (34, (iv x34)), (75, (bv false))] [] (fun fb => by kernel_rfl) rfl trivial ?_
     refine WL.done rfl ?_
     injection hx43 with hx43
     exact WX.to Kx42 false [0, 2, 4, 33, 34, 75] rfl ⟨(hS119.subR [0, 1, 2, 3, 4, 5, 6, 7]).sub [0] (by decide), hx43.symm⟩
    rintro y123 w120 ⟨hS121, hq122⟩
    subst hq122
    refine WX.next ?_
    rcases br_some hl40 with ⟨h124, hl40⟩ | ⟨h124, hl40⟩
    ·refine WC.condT2 (fun fb => by kernel_rfl) h124 ?_
     refine WC.seq (WC.region ?_)
     refine seg 1 [] [6] [(6, (bv false))] [] (fun fb => by kernel_rfl) rfl trivial ?_
     refine WL.done rfl (WX.next ?_)
     refine WC.ret ?_
     injection hl40 with hl40
     subst hl40
     injection hf with hf
     subst hf
     exact WX.blockR (WX.thenR (WX.thenR (WX.blockR (WX.thenR (WX.ret_ [] (bv false) [] (fun fb => by kernel_rfl) trivial ⟨_, rfl, rfl, hS121.keep⟩)))))
    refine WC.condF2 (fun fb => by kernel_rfl) h124 ?_
    refine WC.skip ?_
    refine WX.blockN (WX.next ?_)
    refine WC.region ?_
    refine seg 2 [] [0, 2, 4, 33, 34] [(0, (pt ga)), (2, (iv p2)), (4, (pt g9)), (33, (iv p0.width)), (34, (iv (w64 (x34 + 1))))] [] (fun fb => by kernel_rfl) rfl trivial ?_
    refine WL.done rfl ?_
    exact WX.again k37 (Nat.lt_succ_self _) (w64 (x34 + 1)) [0, 2, 4, 33, 34] rfl ⟨(hS121.subR [0, 1, 2, 3, 4, 5, 6, 7]).sub [0] (by decide), hl40⟩
   refine WC.condF2 (fun fb => by kernel_rfl) h41 ?_
   refine WC.exit ?_
   injection hl40 with hl40
   exact WX.thenX (WX.thenX (WX.blockHere (WX.to Kx35 () [] rfl ⟨(hS39.subR [0, 1, 2, 3, 4, 5, 6, 7]).sub [] (by decide), hl40.symm⟩)))
 rintro y128 w125 ⟨hS126, hq127⟩
 subst hq127
 have hf := sum_inr hf
 refine WX.next (WC.seq (WC.region ?_))
 refine seg 1 [] [6] [(6, (bv true))] [] (fun fb => by kernel_rfl) rfl trivial ?_
 refine WL.done rfl (WX.next ?_)
 refine WC.ret ?_
 injection hf with hf
 subst hf
 exact WX.ret_ [] (bv true) [] (fun fb => by kernel_rfl) trivial ⟨_, rfl, rfl, hS126.keep⟩
theorem fill_Count_key52 : KeyK Tryz.prog 52 (aggI ints_A8_Int) := KeyK.array (n := 8) (by kernel_rfl) ints_A8_Int (fun _ => rfl) (fun x y h => by cases x; cases y; simp only [ints_A8_Int, List.cons.injEq, and_true] at h; obtain ⟨rfl, rfl, rfl, rfl, rfl, rfl, rfl, rfl⟩ := h; rfl)
theorem fill_Count_calls (k : Nat) (p0 : List Tile) (p1 : Int) (p2 : Int) (p3 : Edges) (Aa : Option Addr) (ca : Nat) (Ab : Option Addr) (cb : Nat) (Ac : Option Addr) (cc : Nat) (Ad : Option Addr) (cd : Nat) (Ae : Option Addr) (ce : Nat) (r : Int × Int) (w : World) (hR0 : RO NoS w (rowR enc_Tile Aa ca p0)) (hR1 : RO NoS w (rowR encInt Ab cb p3.North)) (hR2 : RO NoS w (rowR encInt Ac cc p3.East)) (hR3 : RO NoS w (rowR encInt Ad cd p3.South)) (hR4 : RO NoS w (rowR encInt Ae ce p3.West)) (hf : fill_Count k p0 p1 p2 p3 = some r) :
  CallsR Tryz.prog 6 #[(sv Aa p0 ca), (iv p1), (iv p2), (.agg #[(sv Ab p3.North cb), (sv Ac p3.East cc), (sv Ad p3.South cd), (sv Ae p3.West ce)])] w (fun v w' => v = (.tuple #[(iv r.1), (iv r.2)]) ∧ Keeps NoS w w') := by
 have hS : St NoS w w [rowR enc_Tile Aa ca p0, rowR encInt Ab cb p3.North, rowR encInt Ac cc p3.East, rowR encInt Ad cd p3.South, rowR encInt Ae ce p3.West] [] := St.init (ro_cons hR0 (ro_cons hR1 (ro_cons hR2 (ro_cons hR3 (ro_cons hR4 (ro_nil _ _))))))
 refine enter 87 Tryz.func6 rfl Tryz.ntmps6 rfl ?_
 unfold fill_Count at hf
 refine WC.seq (WC.region ?_)
 refine WL.new hS 7 [] (fun g => (pt g)) (.cells #[(sv Ab p3.North cb), (sv Ac p3.East cc), (sv Ad p3.South cd), (sv Ae p3.West ce)] 25 (0, 0)) [] (fun fb g => by kernel_rfl) trivial (fun g9 w10 hS11 => ?_)
 refine ⟨trivial, ?_⟩
 refine seg 3 [] [0, 1, 2, 7] [(0, (sv Aa p0 ca)), (1, (iv p1)), (2, (iv p2)), (7, (pt g9))] [] (fun fb => by kernel_rfl) rfl trivial ?_
 refine WL.done rfl (WX.next (WC.seq (WC.region ?_)))
 refine seg 4 [.v (sv Ab p3.North cb), .v (sv Ac p3.East cc), .v (sv Ad p3.South cd), .v (sv Ae p3.West ce)] [2, 23, 24, 25, 26] [(2, (iv p2)), (23, (sv Aa p0 ca)), (24, (iv p1)), (25, (iv p2)), (26, (.agg #[(sv Ab p3.North cb), (sv Ac p3.East cc), (sv Ad p3.South cd), (sv Ae p3.West ce)]))] [.cell ⟨g9, 0, none⟩ (sv Ab p3.North cb), .cell ⟨g9, 1, none⟩ (sv Ac p3.East cc), .cell ⟨g9, 2, none⟩ (sv Ad p3.South cd), .cell ⟨g9, 3, none⟩ (sv Ae p3.West ce)] (fun fb => by kernel_rfl) rfl ⟨hS11.cell 0 rfl 0 rfl, hS11.cell 0 rfl 1 rfl, hS11.cell 0 rfl 2 rfl, hS11.cell 0 rfl 3 rfl, trivial⟩ ?_
 obtain ⟨t12, ht13, hf⟩ := bind_some hf
 refine WL.call (some 27) 18 #[(sv Aa p0 ca), (iv p1), (iv p2), (.agg #[(sv Ab p3.North cb), (sv Ac p3.East cc), (sv Ad p3.South cd), (sv Ae p3.West ce)])] (fun fb => by kernel_rfl) (fill_begin_calls _ p0 p1 p2 p3 Aa ca Ab cb Ac cc Ad cd Ae ce t12 _ (hS11.rd 0) (hS11.rd 1) (hS11.rd 2) (hS11.rd 3) (hS11.rd 4) ht13) (fun v w14 hR15 => ?_)
 obtain ⟨g17, A18, c19, H20, rfl, hk_⟩ := hR15
 refine ⟨trivial, ?_⟩
 rcases optM_some hf with ⟨ho22, hf⟩ | ⟨y21, ho22, hf⟩
 ·
  have ho22 : t12.1 = none := ho22
  have hS16 := hS11.keepN (optS_none ho22 hk_)
  refine WL.reE [2, 23, 24, 25, 26, 27] [(2, (iv p2)), (23, (.slice Aa p0.length ca)), (24, (iv p1)), (25, (iv p2)), (26, (.agg #[(.slice Ab p3.North.length cb), (.slice Ac p3.East.length cc), (.slice Ad p3.South.length cd), (.slice Ae p3.West.length ce)])), (27, (.tuple #[(optP t12.1 g17), (iv t12.2)]))] [(2, (iv p2)), (23, (.slice Aa p0.length ca)), (24, (iv p1)), (25, (iv p2)), (26, (.agg #[(.slice Ab p3.North.length cb), (.slice Ac p3.East.length cc), (.slice Ad p3.South.length cd), (.slice Ae p3.West.length ce)])), (27, (.tuple #[(.pointer none), (iv t12.2)]))] rfl (by rw [ho22]; rfl) ?_
  refine seg 10 [] [2, 10, 11] [(2, (iv p2)), (10, (.pointer none)), (11, (iv t12.2))] [] (fun fb => by kernel_rfl) rfl trivial ?_
  refine WL.done rfl (WX.next (WC.seq (WC.seq (WC.region ?_))))
  refine seg 2 [] [2, 10, 11, 31] [(2, (iv p2)), (10, (.pointer none)), (11, (iv t12.2)), (31, (bv (t12.2 != 0)))] [] (fun fb => by kernel_rfl) rfl trivial ?_
  refine WL.done rfl (WX.next ?_)
  rcases br_some hf with ⟨h23, hf⟩ | ⟨h23, hf⟩
  ·refine WC.condT2 (fun fb => by kernel_rfl) h23 ?_
   refine WC.seq (WC.region ?_)
   refine seg 3 [] [8, 9] [(8, (iv 0)), (9, (iv t12.2))] [] (fun fb => by kernel_rfl) rfl trivial ?_
   refine WL.done rfl (WX.next ?_)
   refine WC.ret ?_
   injection hf with hf
   subst hf
   exact WX.thenR (WX.ret_ [] (.tuple #[(iv 0), (iv t12.2)]) [] (fun fb => by kernel_rfl) trivial ⟨_, rfl, rfl, hS16.keep⟩)
  refine WC.condF2 (fun fb => by kernel_rfl) h23 ?_
  refine WC.skip (WX.next (WC.seq (WC.region ?_)))
  refine seg 1 [] [2, 10, 12] [(2, (iv p2)), (10, (.pointer none)), (12, (.func (.func 19) #[] #[]))] [] (fun fb => by kernel_rfl) rfl trivial ?_
  refine WL.done rfl (WX.next (WC.seq (WC.region ?_)))
  have hS24 := hS.go w14 [mapN (aggI ints_A8_Int) (vI .i64) (none : Option Nat) ([] : List (A8_Int × Int)), blk g9 (.cells #[(sv Ab p3.North cb), (sv Ac p3.East cc), (sv Ad p3.South cd), (sv Ae p3.West ce)] 25 (0, 0))] (hS16.mapnNil (aggI ints_A8_Int) (vI .i64))
  refine seg 1 [] [2, 10, 12, 13] [(2, (iv p2)), (10, (.pointer none)), (12, (.func (.func 19) #[] #[])), (13, (.map (none : Option Nat)))] [] (fun fb => by kernel_rfl) rfl trivial ?_
  refine WL.done rfl (WX.next (WC.seq (WC.seq (WC.region ?_))))
  refine seg 2 [] [10, 12, 13, 33, 34] [(10, (.pointer none)), (12, (.func (.func 19) #[] #[])), (13, (.map (none : Option Nat))), (33, (iv p2)), (34, (iv 0))] [] (fun fb => by kernel_rfl) rfl trivial ?_
  refine WL.done rfl (WX.next ?_)
  obtain ⟨x25, hx26, hf⟩ := bind_some hf
  refine WC.cutN (T := Unit) (fun t => [(12, (.func (.func 19) #[] #[])), (13, (.map (none : Option Nat)))]) (fun t w1 => St NoS w w1 [rowR enc_Tile Aa ca p0, rowR encInt Ab cb p3.North, rowR encInt Ac cc p3.East, rowR encInt Ad cd p3.South, rowR encInt Ae ce p3.West] [mapN (aggI ints_A8_Int) (vI .i64) (none : Option Nat) ([] : List (A8_Int × Int))] ∧ x25 = t) (fun Kx25 => ?_) ?_
  ·
   refine WC.block ?_
   refine WC.loop (T := Unit) (fun t => [(10, (.pointer none)), (12, (.func (.func 19) #[] #[])), (13, (.map (none : Option Nat))), (33, (iv p2)), (34, (iv 0))]) (fun n t w1 => St NoS w w1 [rowR enc_Tile Aa ca p0, rowR encInt Ab cb p3.North, rowR encInt Ac cc p3.East, rowR encInt Ad cd p3.South, rowR encInt Ae ce p3.West] [mapN (aggI ints_A8_Int) (vI .i64) (none : Option Nat) ([] : List (A8_Int × Int))] ∧ fill_Count.l0 n p2 = some x25) k () [10, 12, 13, 33, 34] rfl ⟨(hS24.subR [0, 1, 2, 3, 4]).sub [0] (by decide), hx26⟩ ?_
   rintro k27 ⟨⟩ w28 ⟨hS29, hl30⟩
   cases k27 with
   | zero => rw [fill_Count.l0] at hl30; cases hl30
   | succ k27 =>
    rw [fill_Count.l0] at hl30
    refine WC.seq (WC.region ?_)
    refine seg 1 [] [10, 12, 13, 33, 34, 35] [(10, (.pointer none)), (12, (.func (.func 19) #[] #[])), (13, (.map (none : Option Nat))), (33, (iv p2)), (34, (iv 0)), (35, (bv (decide (0 < p2))))] [] (fun fb => by kernel_rfl) rfl trivial ?_
    refine WL.done rfl (WX.next (WC.seq ?_))
    rcases br_some hl30 with ⟨h31, hl30⟩ | ⟨h31, hl30⟩
    ·refine WC.condT2 (fun fb => by kernel_rfl) h31 ?_
     refine WC.skip (WX.next (WC.seq (WC.block (WC.seq (WC.region ?_)))))
     refine seg 2 [] [10, 12, 13, 14, 33, 34] [(10, (.pointer none)), (12, (.func (.func 19) #[] #[])), (13, (.map (none : Option Nat))), (14, (iv 0)), (33, (iv p2)), (34, (iv 0))] [] (fun fb => by kernel_rfl) rfl trivial ?_
     refine WL.done rfl (WX.next (WC.seq (WC.region ?_)))
     refine WL.new hS29 37 [] (fun g => (.map (some g))) (mapObj (aggI ints_A8_Int) (vI .i64) ([] : List (A8_Int × Int))) [] (fun fb g => by kernel_rfl) trivial (fun g32 w33 hS34 => ?_)
     refine ⟨trivial, ?_⟩
     refine seg 2 [] [10, 12, 13, 14, 15, 33, 34] [(10, (.pointer none)), (12, (.func (.func 19) #[] #[])), (13, (.map (none : Option Nat))), (14, (iv 0)), (15, (.map (some g32))), (33, (iv p2)), (34, (iv 0))] [] (fun fb => by kernel_rfl) rfl trivial ?_
     refine WL.done rfl (WX.next (WC.seq (WC.seq (WC.region ?_))))
     refine seg 1 [] [10, 12, 13, 14, 15, 33, 34, 38] [(10, (.pointer none)), (12, (.func (.func 19) #[] #[])), (13, (.map (none : Option Nat))), (14, (iv 0)), (15, (.map (some g32))), (33, (iv p2)), (34, (iv 0)), (38, (.pointer none))] [] (fun fb => by kernel_rfl) rfl trivial ?_
     cases hl30
    refine WC.condF2 (fun fb => by kernel_rfl) h31 ?_
    refine WC.exit ?_
    injection hl30 with hl30
    exact WX.thenX (WX.thenX (WX.blockHere (WX.to Kx25 () [12, 13] rfl ⟨(hS29.subR [0, 1, 2, 3, 4]).sub [0] (by decide), hl30.symm⟩)))
  rintro y38 w35 ⟨hS36, hq37⟩
  subst hq37
  refine WX.next (WC.seq (WC.region ?_))
  refine seg 1 [] [12, 13, 19] [(12, (.func (.func 19) #[] #[])), (13, (.map (none : Option Nat))), (19, (iv 0))] [] (fun fb => by kernel_rfl) rfl trivial ?_
  refine WL.done rfl (WX.next (WC.seq (WC.seq (WC.region ?_))))
  refine seg 1 [] [12, 19, 74] [(12, (.func (.func 19) #[] #[])), (19, (iv 0)), (74, (.map (none : Option Nat)))] [] (fun fb => by kernel_rfl) rfl trivial ?_
  refine WL.mrange hS36 0 (kT := 52) (eT := 3) (t := 47) (d := 75) rfl (fun fb => by kernel_rfl) (by kernel_rfl) (fun g39 w40 hS41 => ?_)
  refine ⟨trivial, ?_⟩
  refine WL.done rfl (WX.next ?_)
  obtain ⟨x50, hx51, hf⟩ := bind_some hf
  have hO53 := sat_free (step := fun (x49 : Int) (vv46 : Int) => (fill_Count_1 x49 vv46).bind fun t70 => some t70) (by decide) (by decide) (fun a v => rfl) hx51
  refine WC.cutN (T := Int) (fun t => [(19, (iv t))]) (fun t w1 => St NoS w w1 [rowR enc_Tile Aa ca p0, rowR encInt Ab cb p3.North, rowR encInt Ac cc p3.East, rowR encInt Ad cd p3.South, rowR encInt Ae ce p3.West] [] ∧ x50 = t) (fun Kx50 => ?_) ?_
  ·
   refine WC.block ?_
   refine WC.loop (T := List Nat × Int) (fun t => [(12, (.func (.func 19) #[] #[])), (19, (iv t.2)), (75, (pt g39))]) (fun n t w1 => St NoS w w1 [rowR enc_Tile Aa ca p0, rowR encInt Ab cb p3.North, rowR encInt Ac cc p3.East, rowR encInt Ad cd p3.South, rowR encInt Ae ce p3.West] [blk g39 (iterOb (none : Option Nat) ([] : List (A8_Int × Int)).length t.1), mapN (aggI ints_A8_Int) (vI .i64) (none : Option Nat) ([] : List (A8_Int × Int))] ∧ t.1.Nodup ∧ (∀ x_ ∈ t.1, x_ < ([] : List (A8_Int × Int)).length) ∧ t.1.length + n = ([] : List (A8_Int × Int)).length + 1 ∧ (valsAt ([] : List (A8_Int × Int)) t.1).foldlM (fun (x49 : Int) (vv46 : Int) => (fill_Count_1 x49 vv46).bind fun t70 => some t70) 0 = some t.2) (([] : List (A8_Int × Int)).length + 1) ([], 0) [12, 19, 75] rfl ⟨(hS41.subR [0, 1, 2, 3, 4]).sub [0, 1] (by decide), List.nodup_nil, (fun x_ h_ => by cases h_), Nat.zero_add _, rfl⟩ ?_
   rintro n54 ⟨sn42, x49⟩ w59 ⟨hS60, h55, h56, h57, h58⟩
   have h57 : sn42.length + n54 = ([] : List (A8_Int × Int)).length + 1 := h57
   refine WC.seq (WC.region ?_)
   refine WL.mnext hS60 1 0 (kE := (aggI ints_A8_Int)) (vE := (vI .i64)) (og := (none : Option Nat)) (l := ([] : List (A8_Int × Int))) rfl rfl (by decide) (d := 76) (fun fb => by kernel_rfl) [1] (by decide) (by decide) (fun hall69 => ?_) (fun q43 hq44 kk45 vv46 hkv47 hqs48 w67 hS68 => ?_)
   ·
    refine ⟨trivial, ?_⟩
    have hc_x50 := h58.symm.trans (hO53.all h55 h56 hall69)
    refine seg 2 [] [12, 19, 75, 77] [(12, (.func (.func 19) #[] #[])), (19, (iv x49)), (75, (pt g39)), (77, (bv false))] [] (fun fb => by kernel_rfl) rfl trivial ?_
    refine WL.done rfl (WX.next (WC.seq ?_))
    refine WC.condF (fun fb => by kernel_rfl) ?_
    refine WC.exit ?_
    injection hc_x50 with hc_x50
    exact WX.thenX (WX.thenX (WX.blockHere (WX.to Kx50 x49 [19] rfl ⟨(hS60.subR [0, 1, 2, 3, 4]).sub [] (by decide), hc_x50.symm⟩)))
   refine ⟨trivial, ?_⟩
   obtain ⟨h62, h63, hlt61, c65, hc_x50, h66⟩ := hO53.step h55 h56 hq44 hqs48 hkv47 h58
   refine seg 2 [] [12, 19, 75, 77] [(12, (.func (.func 19) #[] #[])), (19, (iv x49)), (75, (pt g39)), (77, (bv true))] [] (fun fb => by kernel_rfl) rfl trivial ?_
   refine WL.done rfl (WX.next (WC.seq ?_))
   refine WC.condT (fun fb => by kernel_rfl) ?_
   refine WC.skip (WX.next (WC.block (WC.seq (WC.region ?_))))
   refine WL.mentry hS68 1 0 (kE := (aggI ints_A8_Int)) (vE := (vI .i64)) (og := (none : Option Nat)) (l := ([] : List (A8_Int × Int))) hq44 hkv47 rfl rfl (d := 78) (fun fb => by kernel_rfl) ?_
   refine ⟨trivial, ?_⟩
   refine seg 3 [] [12, 19, 21, 75] [(12, (.func (.func 19) #[] #[])), (19, (iv x49)), (21, (iv vv46)), (75, (pt g39))] [] (fun fb => by kernel_rfl) rfl trivial ?_
   refine WL.done rfl (WX.next (WC.region ?_))
   refine seg 3 [] [12, 75, 80, 81, 82] [(12, (.func (.func 19) #[] #[])), (75, (pt g39)), (80, (.func (.func 19) #[] #[])), (81, (iv x49)), (82, (iv vv46))] [] (fun fb => by kernel_rfl) rfl trivial ?_
   obtain ⟨t70, ht71, hc_x50⟩ := bind_some hc_x50
   refine WL.call (some 83) 19 #[(iv x49), (iv vv46)] (fun fb => by kernel_rfl) (fill_Count_1_calls x49 vv46 t70 _ ht71) (fun v w72 hR73 => ?_)
   obtain ⟨rfl, hk_⟩ := hR73
   have hS74 := hS68.keepN hk_
   refine ⟨trivial, ?_⟩
   refine seg 5 [] [12, 19, 75] [(12, (.func (.func 19) #[] #[])), (19, (iv t70)), (75, (pt g39))] [] (fun fb => by kernel_rfl) rfl trivial ?_
   refine WL.done rfl ?_
   injection hc_x50 with hc_x50
   exact WX.blockN (WX.again (n54 - 1) (by omega) ((sn42 ++ [q43]), t70) [12, 19, 75] rfl ⟨(hS74.subR [0, 1, 2, 3, 4]).sub [0, 1] (by decide), h62, h63, (by rw [List.length_append, List.length_singleton]; omega), h66.trans (congrArg some hc_x50.symm)⟩)
  rintro y78 w75 ⟨hS76, hq77⟩
  subst hq77
  refine WX.next (WC.seq (WC.seq (WC.region ?_)))
  refine seg 2 [] [19, 85] [(19, (iv x50)), (85, (bv (decide (x50 > 1152921504606846976))))] [] (fun fb => by kernel_rfl) rfl trivial ?_
  refine WL.done rfl (WX.next ?_)
  rcases br_some hf with ⟨h79, hf⟩ | ⟨h79, hf⟩
  ·refine WC.condT2 (fun fb => by kernel_rfl) h79 ?_
   refine WC.seq (WC.region ?_)
   refine seg 2 [] [8, 9] [(8, (iv 0)), (9, (iv 4))] [] (fun fb => by kernel_rfl) rfl trivial ?_
   refine WL.done rfl (WX.next ?_)
   refine WC.ret ?_
   injection hf with hf
   subst hf
   exact WX.thenR (WX.ret_ [] (.tuple #[(iv 0), (iv 4)]) [] (fun fb => by kernel_rfl) trivial ⟨_, rfl, rfl, hS76.keep⟩)
  refine WC.condF2 (fun fb => by kernel_rfl) h79 ?_
  refine WC.skip (WX.next (WC.seq (WC.region ?_)))
  refine seg 3 [] [8, 9] [(8, (iv x50)), (9, (iv 0))] [] (fun fb => by kernel_rfl) rfl trivial ?_
  refine WL.done rfl (WX.next ?_)
  refine WC.ret ?_
  injection hf with hf
  subst hf
  exact WX.ret_ [] (.tuple #[(iv x50), (iv 0)]) [] (fun fb => by kernel_rfl) trivial ⟨_, rfl, rfl, hS76.keep⟩
 have ho22 : t12.1 = some y21 := ho22
 have hk_ := optS_some ho22 hk_
 have hS16 := hS.go w14 [blk g17 (.cells #[(.slice A18 y21.rows.length c19), (iv y21.width), (iv y21.height), (.slice Ab p3.North.length cb), (.slice Ac p3.East.length cc), (.slice Ad p3.South.length cd), (.slice Ae p3.West.length ce)] 50 (0, 0)), rowO 54 encN_Row A18 c19 (tag H20 y21.rows), poolO [nestO subN_Row H20 y21.rows], blk g9 (.cells #[(.slice Ab p3.North.length cb), (.slice Ac p3.East.length cc), (.slice Ad p3.South.length cd), (.slice Ae p3.West.length ce)] 25 (0, 0))] (hS11.call hk_ [] [0] (fun g hg => hg.elim) (by simp) (by decide))
 refine WL.reE [2, 23, 24, 25, 26, 27] [(2, (iv p2)), (23, (.slice Aa p0.length ca)), (24, (iv p1)), (25, (iv p2)), (26, (.agg #[(.slice Ab p3.North.length cb), (.slice Ac p3.East.length cc), (.slice Ad p3.South.length cd), (.slice Ae p3.West.length ce)])), (27, (.tuple #[(optP t12.1 g17), (iv t12.2)]))] [(2, (iv p2)), (23, (.slice Aa p0.length ca)), (24, (iv p1)), (25, (iv p2)), (26, (.agg #[(.slice Ab p3.North.length cb), (.slice Ac p3.East.length cc), (.slice Ad p3.South.length cd), (.slice Ae p3.West.length ce)])), (27, (.tuple #[(pt g17), (iv t12.2)]))] rfl (by rw [ho22]; rfl) ?_
 refine seg 10 [] [2, 10, 11] [(2, (iv p2)), (10, (pt g17)), (11, (iv t12.2))] [] (fun fb => by kernel_rfl) rfl trivial ?_
 refine WL.done rfl (WX.next (WC.seq (WC.seq (WC.region ?_))))
 refine seg 2 [] [2, 10, 11, 31] [(2, (iv p2)), (10, (pt g17)), (11, (iv t12.2)), (31, (bv (t12.2 != 0)))] [] (fun fb => by kernel_rfl) rfl trivial ?_
 refine WL.done rfl (WX.next ?_)
 rcases br_some hf with ⟨h80, hf⟩ | ⟨h80, hf⟩
 ·refine WC.condT2 (fun fb => by kernel_rfl) h80 ?_
  refine WC.seq (WC.region ?_)
  refine seg 3 [] [8, 9] [(8, (iv 0)), (9, (iv t12.2))] [] (fun fb => by kernel_rfl) rfl trivial ?_
  refine WL.done rfl (WX.next ?_)
  refine WC.ret ?_
  injection hf with hf
  subst hf
  exact WX.thenR (WX.ret_ [] (.tuple #[(iv 0), (iv t12.2)]) [] (fun fb => by kernel_rfl) trivial ⟨_, rfl, rfl, hS16.keep⟩)
 refine WC.condF2 (fun fb => by kernel_rfl) h80 ?_
 refine WC.skip (WX.next (WC.seq (WC.region ?_)))
 refine seg 1 [] [2, 10, 12] [(2, (iv p2)), (10, (pt g17)), (12, (.func (.func 19) #[] #[]))] [] (fun fb => by kernel_rfl) rfl trivial ?_
 refine WL.done rfl (WX.next (WC.seq (WC.region ?_)))
 have hS81 := hS16.go w14 [mapN (aggI ints_A8_Int) (vI .i64) (none : Option Nat) ([] : List (A8_Int × Int)), blk g17 (.cells #[(sv A18 y21.rows c19), (iv y21.width), (iv y21.height), (sv Ab p3.North cb), (sv Ac p3.East cc), (sv Ad p3.South cd), (sv Ae p3.West ce)] 50 (0, 0)), rowO 54 encN_Row A18 c19 (tag H20 y21.rows), poolO [nestO subN_Row H20 y21.rows], blk g9 (.cells #[(sv Ab p3.North cb), (sv Ac p3.East cc), (sv Ad p3.South cd), (sv Ae p3.West ce)] 25 (0, 0))] (hS16.mapnNil (aggI ints_A8_Int) (vI .i64))
 refine seg 1 [] [2, 10, 12, 13] [(2, (iv p2)), (10, (pt g17)), (12, (.func (.func 19) #[] #[])), (13, (.map (none : Option Nat)))] [] (fun fb => by kernel_rfl) rfl trivial ?_
 refine WL.done rfl (WX.next (WC.seq (WC.seq (WC.region ?_))))
 refine seg 2 [] [10, 12, 13, 33, 34] [(10, (pt g17)), (12, (.func (.func 19) #[] #[])), (13, (.map (none : Option Nat))), (33, (iv p2)), (34, (iv 0))] [] (fun fb => by kernel_rfl) rfl trivial ?_
 refine WL.done rfl (WX.next ?_)
 obtain ⟨x86, hx87, hf⟩ := bind_some hf
 refine WC.cutN (T := (List (A8_Int × Int)) × (Option Nat)) (fun t => [(12, (.func (.func 19) #[] #[])), (13, (.map t.2))]) (fun t w1 => St NoS w w1 [rowR enc_Tile Aa ca p0, rowR encInt Ab cb p3.North, rowR encInt Ac cc p3.East, rowR encInt Ad cd p3.South, rowR encInt Ae ce p3.West] [mapN (aggI ints_A8_Int) (vI .i64) t.2 t.1] ∧ x86 = t.1) (fun Kx86 => ?_) ?_
 ·
  refine WC.block ?_
  refine WC.loop (T := ((List (A8_Int × Int)) × Int) × (Option Nat)) (fun t => [(10, (pt g17)), (12, (.func (.func 19) #[] #[])), (13, (.map t.2)), (33, (iv p2)), (34, (iv t.1.2))]) (fun n t w1 => St NoS w w1 [rowR enc_Tile Aa ca p0, rowR encInt Ab cb p3.North, rowR encInt Ac cc p3.East, rowR encInt Ad cd p3.South, rowR encInt Ae ce p3.West] [blk g17 (.cells #[(sv A18 y21.rows c19), (iv y21.width), (iv y21.height), (sv Ab p3.North cb), (sv Ac p3.East cc), (sv Ad p3.South cd), (sv Ae p3.West ce)] 50 (0, 0)), rowO 54 encN_Row A18 c19 (tag H20 y21.rows), poolO [nestO subN_Row H20 y21.rows], mapN (aggI ints_A8_Int) (vI .i64) t.2 t.1.1] ∧ fill_Count.l1 n t.1.1 t.1.2 p2 p3 y21 = some x86) k ((([] : List (A8_Int × Int)), 0), (none : Option Nat)) [10, 12, 13, 33, 34] rfl ⟨(hS81.subR [0, 1, 2, 3, 4]).sub [1, 2, 3, 0] (by decide), hx87⟩ ?_
  rintro k88 ⟨⟨l83, x84⟩, g82⟩ w89 ⟨hS90, hl91⟩
  cases k88 with
  | zero => rw [fill_Count.l1] at hl91; cases hl91
  | succ k88 =>
   rw [fill_Count.l1] at hl91
   refine WC.seq (WC.region ?_)
   refine seg 1 [] [10, 12, 13, 33, 34, 35] [(10, (pt g17)), (12, (.func (.func 19) #[] #[])), (13, (.map g82)), (33, (iv p2)), (34, (iv x84)), (35, (bv (decide (x84 < p2))))] [] (fun fb => by kernel_rfl) rfl trivial ?_
   refine WL.done rfl (WX.next (WC.seq ?_))
   rcases br_some hl91 with ⟨h92, hl91⟩ | ⟨h92, hl91⟩
   ·refine WC.condT2 (fun fb => by kernel_rfl) h92 ?_
    refine WC.skip (WX.next (WC.seq (WC.block (WC.seq (WC.region ?_)))))
    refine seg 2 [] [10, 12, 13, 14, 33, 34] [(10, (pt g17)), (12, (.func (.func 19) #[] #[])), (13, (.map g82)), (14, (iv x84)), (33, (iv p2)), (34, (iv x84))] [] (fun fb => by kernel_rfl) rfl trivial ?_
    refine WL.done rfl (WX.next (WC.seq (WC.region ?_)))
    refine WL.new hS90 37 [] (fun g => (.map (some g))) (mapObj (aggI ints_A8_Int) (vI .i64) ([] : List (A8_Int × Int))) [] (fun fb g => by kernel_rfl) trivial (fun g93 w94 hS95 => ?_)
    refine ⟨trivial, ?_⟩
    refine seg 2 [] [10, 12, 13, 14, 15, 33, 34] [(10, (pt g17)), (12, (.func (.func 19) #[] #[])), (13, (.map g82)), (14, (iv x84)), (15, (.map (some g93))), (33, (iv p2)), (34, (iv x84))] [] (fun fb => by kernel_rfl) rfl trivial ?_
    refine WL.done rfl (WX.next (WC.seq (WC.seq (WC.region ?_))))
    refine seg 6 [.v (sv A18 y21.rows c19)] [10, 12, 13, 14, 15, 33, 34, 41, 42, 43] [(10, (pt g17)), (12, (.func (.func 19) #[] #[])), (13, (.map g82)), (14, (iv x84)), (15, (.map (some g93))), (33, (iv p2)), (34, (iv x84)), (41, (sv A18 y21.rows c19)), (42, (iv (y21.rows.length : Int))), (43, (iv 0))] [.cell ⟨g17, 0, none⟩ (sv A18 y21.rows c19)] (fun fb => by kernel_rfl) rfl ⟨hS95.cell 1 rfl 0 rfl, trivial⟩ ?_
    refine WL.done rfl (WX.next ?_)
    obtain ⟨x98, hx99, hl91⟩ := bind_some hl91
    refine WC.cutN (T := (List (A8_Int × Int))) (fun t => [(10, (pt g17)), (12, (.func (.func 19) #[] #[])), (15, (.map (some g93))), (33, (iv p2)), (34, (iv x84))]) (fun t w1 => St NoS w w1 [rowR enc_Tile Aa ca p0, rowR encInt Ab cb p3.North, rowR encInt Ac cc p3.East, rowR encInt Ad cd p3.South, rowR encInt Ae ce p3.West] [blk g17 (.cells #[(sv A18 y21.rows c19), (iv y21.width), (iv y21.height), (sv Ab p3.North cb), (sv Ac p3.East cc), (sv Ad p3.South cd), (sv Ae p3.West ce)] 50 (0, 0)), rowO 54 encN_Row A18 c19 (tag H20 y21.rows), poolO [nestO subN_Row H20 y21.rows], blk g93 (mapObj (aggI ints_A8_Int) (vI .i64) t)] ∧ x98 = t) (fun Kx98 => ?_) ?_
    ·
     refine WC.block ?_
     refine WC.loop (T := (List (A8_Int × Int)) × Int) (fun t => [(10, (pt g17)), (12, (.func (.func 19) #[] #[])), (13, (.map g82)), (14, (iv x84)), (15, (.map (some g93))), (33, (iv p2)), (34, (iv x84)), (41, (sv A18 y21.rows c19)), (42, (iv (y21.rows.length : Int))), (43, (iv t.2))]) (fun n t w1 => St NoS w w1 [rowR enc_Tile Aa ca p0, rowR encInt Ab cb p3.North, rowR encInt Ac cc p3.East, rowR encInt Ad cd p3.South, rowR encInt Ae ce p3.West] [blk g17 (.cells #[(sv A18 y21.rows c19), (iv y21.width), (iv y21.height), (sv Ab p3.North cb), (sv Ac p3.East cc), (sv Ad p3.South cd), (sv Ae p3.West ce)] 50 (0, 0)), rowO 54 encN_Row A18 c19 (tag H20 y21.rows), poolO [nestO subN_Row H20 y21.rows], mapN (aggI ints_A8_Int) (vI .i64) g82 l83, blk g93 (mapObj (aggI ints_A8_Int) (vI .i64) t.1)] ∧ fill_Count.l2 n t.1 t.2 p3 y21 l83 x84 = some x98) k88 (([] : List (A8_Int × Int)), 0) [10, 12, 13, 14, 15, 33, 34, 41, 42, 43] rfl ⟨(hS95.subR [0, 1, 2, 3, 4]).sub [1, 2, 3, 4, 0] (by decide), hx99⟩ ?_
     rintro k100 ⟨l96, x97⟩ w101 ⟨hS102, hl103⟩
     cases k100 with
     | zero => rw [fill_Count.l2] at hl103; cases hl103
     | succ k100 =>
      rw [fill_Count.l2] at hl103
      refine WC.seq (WC.region ?_)
      refine seg 1 [] [10, 12, 13, 14, 15, 33, 34, 41, 42, 43, 44] [(10, (pt g17)), (12, (.func (.func 19) #[] #[])), (13, (.map g82)), (14, (iv x84)), (15, (.map (some g93))), (33, (iv p2)), (34, (iv x84)), (41, (sv A18 y21.rows c19)), (42, (iv (y21.rows.length : Int))), (43, (iv x97)), (44, (bv (decide (x97 < (y21.rows.length : Int)))))] [] (fun fb => by kernel_rfl) rfl trivial ?_
      refine WL.done rfl (WX.next (WC.seq ?_))
      rcases br_some hl103 with ⟨h104, hl103⟩ | ⟨h104, hl103⟩
      ·refine WC.condT2 (fun fb => by kernel_rfl) h104 ?_
       refine WC.skip (WX.next (WC.seq (WC.block (WC.seq (WC.region ?_)))))
       obtain ⟨h105, hl103⟩ := as_some hl103
       refine seg 2 [.v (sv ((H20 x97.toNat 0).1) ((rdD y21.rows x97 z_Row).Cells) ((H20 x97.toNat 0).2)), .v (iv (((rdD y21.rows x97 z_Row).South).e0)), .v (iv (((rdD y21.rows x97 z_Row).South).e1)), .v (iv (((rdD y21.rows x97 z_Row).South).e2)), .v (iv (((rdD y21.rows x97 z_Row).South).e3)), .v (iv (((rdD y21.rows x97 z_Row).South).e4)), .v (iv (((rdD y21.rows x97 z_Row).South).e5)), .v (iv (((rdD y21.rows x97 z_Row).South).e6)), .v (iv (((rdD y21.rows x97 z_Row).South).e7)), .v (iv (((rdD y21.rows x97 z_Row).North).e0)), .v (iv (((rdD y21.rows x97 z_Row).North).e1)), .v (iv (((rdD y21.rows x97 z_Row).North).e2)), .v (iv (((rdD y21.rows x97 z_Row).North).e3)), .v (iv (((rdD y21.rows x97 z_Row).North).e4)), .v (iv (((rdD y21.rows x97 z_Row).North).e5)), .v (iv (((rdD y21.rows x97 z_Row).North).e6)), .v (iv (((rdD y21.rows x97 z_Row).North).e7)), .v (iv ((rdD y21.rows x97 z_Row).West)), .v (iv ((rdD y21.rows x97 z_Row).East))] [10, 12, 13, 14, 15, 33, 34, 41, 42, 43, 46] [(10, (pt g17)), (12, (.func (.func 19) #[] #[])), (13, (.map g82)), (14, (iv x84)), (15, (.map (some g93))), (33, (iv p2)), (34, (iv x84)), (41, (sv A18 y21.rows c19)), (42, (iv (y21.rows.length : Int))), (43, (iv x97)), (46, (.agg #[(sv ((H20 x97.toNat 0).1) ((rdD y21.rows x97 z_Row).Cells) ((H20 x97.toNat 0).2)), (iv (((rdD y21.rows x97 z_Row).South).e0)), (iv (((rdD y21.rows x97 z_Row).South).e1)), (iv (((rdD y21.rows x97 z_Row).South).e2)), (iv (((rdD y21.rows x97 z_Row).South).e3)), (iv (((rdD y21.rows x97 z_Row).South).e4)), (iv (((rdD y21.rows x97 z_Row).South).e5)), (iv (((rdD y21.rows x97 z_Row).South).e6)), (iv (((rdD y21.rows x97 z_Row).South).e7)), (iv (((rdD y21.rows x97 z_Row).North).e0)), (iv (((rdD y21.rows x97 z_Row).North).e1)), (iv (((rdD y21.rows x97 z_Row).North).e2)), (iv (((rdD y21.rows x97 z_Row).North).e3)), (iv (((rdD y21.rows x97 z_Row).North).e4)), (iv (((rdD y21.rows x97 z_Row).North).e5)), (iv (((rdD y21.rows x97 z_Row).North).e6)), (iv (((rdD y21.rows x97 z_Row).North).e7)), (iv ((rdD y21.rows x97 z_Row).West)), (iv ((rdD y21.rows x97 z_Row).East))]))] [.idx A18 x97 y21.rows.length, .cell ((adr A18).add ((x97).toNat * 19)) (sv ((H20 x97.toNat 0).1) ((rdD y21.rows x97 z_Row).Cells) ((H20 x97.toNat 0).2)), .cell (((adr A18).add ((x97).toNat * 19)).add 1) (iv (((rdD y21.rows x97 z_Row).South).e0)), .cell (((adr A18).add ((x97).toNat * 19)).add 2) (iv (((rdD y21.rows x97 z_Row).South).e1)), .cell (((adr A18).add ((x97).toNat * 19)).add 3) (iv (((rdD y21.rows x97 z_Row).South).e2)), .cell (((adr A18).add ((x97).toNat * 19)).add 4) (iv (((rdD y21.rows x97 z_Row).South).e3)), .cell (((adr A18).add ((x97).toNat * 19)).add 5) (iv (((rdD y21.rows x97 z_Row).South).e4)), .cell (((adr A18).add ((x97).toNat * 19)).add 6) (iv (((rdD y21.rows x97 z_Row).South).e5)), .cell (((adr A18).add ((x97).toNat * 19)).add 7) (iv (((rdD y21.rows x97 z_Row).South).e6)), .cell (((adr A18).add ((x97).toNat * 19)).add 8) (iv (((rdD y21.rows x97 z_Row).South).e7)), .cell (((adr A18).add ((x97).toNat * 19)).add 9) (iv (((rdD y21.rows x97 z_Row).North).e0)), .cell (((adr A18).add ((x97).toNat * 19)).add 10) (iv (((rdD y21.rows x97 z_Row).North).e1)), .cell (((adr A18).add ((x97).toNat * 19)).add 11) (iv (((rdD y21.rows x97 z_Row).North).e2)), .cell (((adr A18).add ((x97).toNat * 19)).add 12) (iv (((rdD y21.rows x97 z_Row).North).e3)), .cell (((adr A18).add ((x97).toNat * 19)).add 13) (iv (((rdD y21.rows x97 z_Row).North).e4)), .cell (((adr A18).add ((x97).toNat * 19)).add 14) (iv (((rdD y21.rows x97 z_Row).North).e5)), .cell (((adr A18).add ((x97).toNat * 19)).add 15) (iv (((rdD y21.rows x97 z_Row).North).e6)), .cell (((adr A18).add ((x97).toNat * 19)).add 16) (iv (((rdD y21.rows x97 z_Row).North).e7)), .cell (((adr A18).add ((x97).toNat * 19)).add 17) (iv ((rdD y21.rows x97 z_Row).West)), .cell (((adr A18).add ((x97).toNat * 19)).add 18) (iv ((rdD y21.rows x97 z_Row).East))] (fun fb => by kernel_rfl) rfl ⟨nrow_adr (rowO.rd (hS102.own 1).1) h105.1 h105.2, nrow_cell (rowO.rd (hS102.own 1).1) z_Row h105.1 h105.2 0 rfl, nrow_cell (rowO.rd (hS102.own 1).1) z_Row h105.1 h105.2 1 rfl, nrow_cell (rowO.rd (hS102.own 1).1) z_Row h105.1 h105.2 2 rfl, nrow_cell (rowO.rd (hS102.own 1).1) z_Row h105.1 h105.2 3 rfl, nrow_cell (rowO.rd (hS102.own 1).1) z_Row h105.1 h105.2 4 rfl, nrow_cell (rowO.rd (hS102.own 1).1) z_Row h105.1 h105.2 5 rfl, nrow_cell (rowO.rd (hS102.own 1).1) z_Row h105.1 h105.2 6 rfl, nrow_cell (rowO.rd (hS102.own 1).1) z_Row h105.1 h105.2 7 rfl, nrow_cell (rowO.rd (hS102.own 1).1) z_Row h105.1 h105.2 8 rfl, nrow_cell (rowO.rd (hS102.own 1).1) z_Row h105.1 h105.2 9 rfl, nrow_cell (rowO.rd (hS102.own 1).1) z_Row h105.1 h105.2 10 rfl, nrow_cell (rowO.rd (hS102.own 1).1) z_Row h105.1 h105.2 11 rfl, nrow_cell (rowO.rd (hS102.own 1).1) z_Row h105.1 h105.2 12 rfl, nrow_cell (rowO.rd (hS102.own 1).1) z_Row h105.1 h105.2 13 rfl, nrow_cell (rowO.rd (hS102.own 1).1) z_Row h105.1 h105.2 14 rfl, nrow_cell (rowO.rd (hS102.own 1).1) z_Row h105.1 h105.2 15 rfl, nrow_cell (rowO.rd (hS102.own 1).1) z_Row h105.1 h105.2 16 rfl, nrow_cell (rowO.rd (hS102.own 1).1) z_Row h105.1 h105.2 17 rfl, nrow_cell (rowO.rd (hS102.own 1).1) z_Row h105.1 h105.2 18 rfl, trivial⟩ ?_
       refine WL.new hS102 17 [] (fun g => (pt g)) (.cells #[(.slice none 0 0), (iv 0), (iv 0), (iv 0), (iv 0), (iv 0), (iv 0), (iv 0), (iv 0), (iv 0), (iv 0), (iv 0), (iv 0), (iv 0), (iv 0), (iv 0), (iv 0), (iv 0), (iv 0)] 54 (0, 0)) [] (fun fb g => by kernel_rfl) trivial (fun g106 w107 hS108 => ?_)
       refine ⟨trivial, ?_⟩
       refine WL.store hS108 0 rfl [(0, (sv ((H20 x97.toNat 0).1) ((rdD y21.rows x97 z_Row).Cells) ((H20 x97.toNat 0).2))), (1, (iv (((rdD y21.rows x97 z_Row).South).e0))), (2, (iv (((rdD y21.rows x97 z_Row).South).e1))), (3, (iv (((rdD y21.rows x97 z_Row).South).e2))), (4, (iv (((rdD y21.rows x97 z_Row).South).e3))), (5, (iv (((rdD y21.rows x97 z_Row).South).e4))), (6, (iv (((rdD y21.rows x97 z_Row).South).e5))), (7, (iv (((rdD y21.rows x97 z_Row).South).e6))), (8, (iv (((rdD y21.rows x97 z_Row).South).e7))), (9, (iv (((rdD y21.rows x97 z_Row).North).e0))), (10, (iv (((rdD y21.rows x97 z_Row).North).e1))), (11, (iv (((rdD y21.rows x97 z_Row).North).e2))), (12, (iv (((rdD y21.rows x97 z_Row).North).e3))), (13, (iv (((rdD y21.rows x97 z_Row).North).e4))), (14, (iv (((rdD y21.rows x97 z_Row).North).e5))), (15, (iv (((rdD y21.rows x97 z_Row).North).e6))), (16, (iv (((rdD y21.rows x97 z_Row).North).e7))), (17, (iv ((rdD y21.rows x97 z_Row).West))), (18, (iv ((rdD y21.rows x97 z_Row).East)))] #[(sv ((H20 x97.toNat 0).1) ((rdD y21.rows x97 z_Row).Cells) ((H20 x97.toNat 0).2)), (iv (((rdD y21.rows x97 z_Row).South).e0)), (iv (((rdD y21.rows x97 z_Row).South).e1)), (iv (((rdD y21.rows x97 z_Row).South).e2)), (iv (((rdD y21.rows x97 z_Row).South).e3)), (iv (((rdD y21.rows x97 z_Row).South).e4)), (iv (((rdD y21.rows x97 z_Row).South).e5)), (iv (((rdD y21.rows x97 z_Row).South).e6)), (iv (((rdD y21.rows x97 z_Row).South).e7)), (iv (((rdD y21.rows x97 z_Row).North).e0)), (iv (((rdD y21.rows x97 z_Row).North).e1)), (iv (((rdD y21.rows x97 z_Row).North).e2)), (iv (((rdD y21.rows x97 z_Row).North).e3)), (iv (((rdD y21.rows x97 z_Row).North).e4)), (iv (((rdD y21.rows x97 z_Row).North).e5)), (iv (((rdD y21.rows x97 z_Row).North).e6)), (iv (((rdD y21.rows x97 z_Row).North).e7)), (iv ((rdD y21.rows x97 z_Row).West)), (iv ((rdD y21.rows x97 z_Row).East))] (fun fb => by kernel_rfl) (by kernel_rfl) (by kernel_rfl) [1, 2, 3, 4, 5] (by decide) (by decide) (fun w109 hS110 => ?_)
       refine ⟨trivial, ?_⟩
       refine WL.done rfl (WX.next (WC.seq (WC.region ?_)))
       refine seg 1 [] [10, 12, 13, 14, 15, 17, 18, 33, 34, 41, 42, 43] [(10, (pt g17)), (12, (.func (.func 19) #[] #[])), (13, (.map g82)), (14, (iv x84)), (15, (.map (some g93))), (17, (pt g106)), (18, (iv 1)), (33, (iv p2)), (34, (iv x84)), (41, (sv A18 y21.rows c19)), (42, (iv (y21.rows.length : Int))), (43, (iv x97))] [] (fun fb => by kernel_rfl) rfl trivial ?_
       refine WL.done rfl (WX.next (WC.seq (WC.seq (WC.region ?_))))
       refine seg 2 [] [10, 12, 13, 14, 15, 17, 18, 33, 34, 41, 42, 43, 48] [(10, (pt g17)), (12, (.func (.func 19) #[] #[])), (13, (.map g82)), (14, (iv x84)), (15, (.map (some g93))), (17, (pt g106)), (18, (iv 1)), (33, (iv p2)), (34, (iv x84)), (41, (sv A18 y21.rows c19)), (42, (iv (y21.rows.length : Int))), (43, (iv x97)), (48, (bv (decide (x84 > 0))))] [] (fun fb => by kernel_rfl) rfl trivial ?_
       refine WL.done rfl (WX.next ?_)
       obtain ⟨x111, hx112, hl103⟩ := bind_some hl103
       refine WC.cutN (T := Int) (fun t => [(10, (pt g17)), (12, (.func (.func 19) #[] #[])), (13, (.map g82)), (14, (iv x84)), (15, (.map (some g93))), (17, (pt g106)), (18, (iv t)), (33, (iv p2)), (34, (iv x84)), (41, (sv A18 y21.rows c19)), (42, (iv (y21.rows.length : Int))), (43, (iv x97))]) (fun t w1 => St NoS w w1 [rowR enc_Tile Aa ca p0, rowR encInt Ab cb p3.North, rowR encInt Ac cc p3.East, rowR encInt Ad cd p3.South, rowR encInt Ae ce p3.West] [blk g17 (.cells #[(sv A18 y21.rows c19), (iv y21.width), (iv y21.height), (sv Ab p3.North cb), (sv Ac p3.East cc), (sv Ad p3.South cd), (sv Ae p3.West ce)] 50 (0, 0)), rowO 54 encN_Row A18 c19 (tag H20 y21.rows), poolO [nestO subN_Row H20 y21.rows], mapN (aggI ints_A8_Int) (vI .i64) g82 l83, blk g93 (mapObj (aggI ints_A8_Int) (vI .i64) l96), blk g106 (.cells #[(sv ((H20 x97.toNat 0).1) ((rdD y21.rows x97 z_Row).Cells) ((H20 x97.toNat 0).2)), (iv (((rdD y21.rows x97 z_Row).South).e0)), (iv (((rdD y21.rows x97 z_Row).South).e1)), (iv (((rdD y21.rows x97 z_Row).South).e2)), (iv (((rdD y21.rows x97 z_Row).South).e3)), (iv (((rdD y21.rows x97 z_Row).South).e4)), (iv (((rdD y21.rows x97 z_Row).South).e5)), (iv (((rdD y21.rows x97 z_Row).South).e6)), (iv (((rdD y21.rows x97 z_Row).South).e7)), (iv (((rdD y21.rows x97 z_Row).North).e0)), (iv (((rdD y21.rows x97 z_Row).North).e1)), (iv (((rdD y21.rows x97 z_Row).North).e2)), (iv (((rdD y21.rows x97 z_Row).North).e3)), (iv (((rdD y21.rows x97 z_Row).North).e4)), (iv (((rdD y21.rows x97 z_Row).North).e5)), (iv (((rdD y21.rows x97 z_Row).North).e6)), (iv (((rdD y21.rows x97 z_Row).North).e7)), (iv ((rdD y21.rows x97 z_Row).West)), (iv ((rdD y21.rows x97 z_Row).East))] 54 (0, 0))] ∧ x111 = t) (fun Kx111 => ?_) ?_
       ·
        rcases br_some hx112 with ⟨h113, hx112⟩ | ⟨h113, hx112⟩
        ·refine WC.condT2 (fun fb => by kernel_rfl) h113 ?_
         refine WC.region ?_
         refine seg 3 [.v (iv (((rdD y21.rows x97 z_Row).South).e0)), .v (iv (((rdD y21.rows x97 z_Row).South).e1)), .v (iv (((rdD y21.rows x97 z_Row).South).e2)), .v (iv (((rdD y21.rows x97 z_Row).South).e3)), .v (iv (((rdD y21.rows x97 z_Row).South).e4)), .v (iv (((rdD y21.rows x97 z_Row).South).e5)), .v (iv (((rdD y21.rows x97 z_Row).South).e6)), .v (iv (((rdD y21.rows x97 z_Row).South).e7))] [10, 12, 13, 14, 15, 17, 33, 34, 41, 42, 43, 49, 51] [(10, (pt g17)), (12, (.func (.func 19) #[] #[])), (13, (.map g82)), (14, (iv x84)), (15, (.map (some g93))), (17, (pt g106)), (33, (iv p2)), (34, (iv x84)), (41, (sv A18 y21.rows c19)), (42, (iv (y21.rows.length : Int))), (43, (iv x97)), (49, (.map g82)), (51, (.agg #[(iv (((rdD y21.rows x97 z_Row).South).e0)), (iv (((rdD y21.rows x97 z_Row).South).e1)), (iv (((rdD y21.rows x97 z_Row).South).e2)), (iv (((rdD y21.rows x97 z_Row).South).e3)), (iv (((rdD y21.rows x97 z_Row).South).e4)), (iv (((rdD y21.rows x97 z_Row).South).e5)), (iv (((rdD y21.rows x97 z_Row).South).e6)), (iv (((rdD y21.rows x97 z_Row).South).e7))]))] [.cell ⟨g106, 1, none⟩ (iv (((rdD y21.rows x97 z_Row).South).e0)), .cell ⟨g106, 2, none⟩ (iv (((rdD y21.rows x97 z_Row).South).e1)), .cell ⟨g106, 3, none⟩ (iv (((rdD y21.rows x97 z_Row).South).e2)), .cell ⟨g106, 4, none⟩ (iv (((rdD y21.rows x97 z_Row).South).e3)), .cell ⟨g106, 5, none⟩ (iv (((rdD y21.rows x97 z_Row).South).e4)), .cell ⟨g106, 6, none⟩ (iv (((rdD y21.rows x97 z_Row).South).e5)), .cell ⟨g106, 7, none⟩ (iv (((rdD y21.rows x97 z_Row).South).e6)), .cell ⟨g106, 8, none⟩ (iv (((rdD y21.rows x97 z_Row).South).e7))] (fun fb => by kernel_rfl) rfl ⟨hS110.cell 0 rfl 1 rfl, hS110.cell 0 rfl 2 rfl, hS110.cell 0 rfl 3 rfl, hS110.cell 0 rfl 4 rfl, hS110.cell 0 rfl 5 rfl, hS110.cell 0 rfl 6 rfl, hS110.cell 0 rfl 7 rfl, hS110.cell 0 rfl 8 rfl, trivial⟩ ?_
         refine WL.lookupN (hS110.own 4).1 ((rdD y21.rows x97 z_Row).South) (d := 52) (c := false) (t := 47) (kT := 52) (eT := 3) (z := 0) (kE := (aggI ints_A8_Int)) (vE := (vI .i64)) (l := l83) (iv (mget ((rdD y21.rows x97 z_Row).South) 0 l83)) (fun fb => by kernel_rfl) fill_Count_key52 (by kernel_rfl) (fun _ => by kernel_rfl) rfl ?_
         refine ⟨trivial, ?_⟩
         refine seg 5 [] [10, 12, 13, 14, 15, 17, 18, 33, 34, 41, 42, 43] [(10, (pt g17)), (12, (.func (.func 19) #[] #[])), (13, (.map g82)), (14, (iv x84)), (15, (.map (some g93))), (17, (pt g106)), (18, (iv (mget ((rdD y21.rows x97 z_Row).South) 0 l83))), (33, (iv p2)), (34, (iv x84)), (41, (sv A18 y21.rows c19)), (42, (iv (y21.rows.length : Int))), (43, (iv x97))] [] (fun fb => by kernel_rfl) rfl trivial ?_
         refine WL.done rfl ?_
         injection hx112 with hx112
         exact WX.to Kx111 (mget ((rdD y21.rows x97 z_Row).South) 0 l83) [10, 12, 13, 14, 15, 17, 18, 33, 34, 41, 42, 43] rfl ⟨(hS110.subR [0, 1, 2, 3, 4]).sub [1, 2, 3, 4, 5, 0] (by decide), hx112.symm⟩
        refine WC.condF2 (fun fb => by kernel_rfl) h113 ?_
        refine WC.skip ?_
        injection hx112 with hx112
        exact WX.to Kx111 1 [10, 12, 13, 14, 15, 17, 18, 33, 34, 41, 42, 43] rfl ⟨(hS110.subR [0, 1, 2, 3, 4]).sub [1, 2, 3, 4, 5, 0] (by decide), hx112.symm⟩
       rintro y117 w114 ⟨hS115, hq116⟩
       subst hq116
       refine WX.next (WC.seq (WC.region ?_))
       refine seg 3 [] [10, 12, 13, 14, 15, 17, 18, 33, 34, 41, 42, 43, 55] [(10, (pt g17)), (12, (.func (.func 19) #[] #[])), (13, (.map g82)), (14, (iv x84)), (15, (.map (some g93))), (17, (pt g106)), (18, (iv x111)), (33, (iv p2)), (34, (iv x84)), (41, (sv A18 y21.rows c19)), (42, (iv (y21.rows.length : Int))), (43, (iv x97)), (55, (bv (decide (x111 > 0))))] [] (fun fb => by kernel_rfl) rfl trivial ?_
       obtain ⟨x118, hx119, hl103⟩ := bind_some hl103
       refine WL.cutW (T := Bool) 8 (fun t => [(10, (pt g17)), (12, (.func (.func 19) #[] #[])), (13, (.map g82)), (14, (iv x84)), (15, (.map (some g93))), (17, (pt g106)), (18, (iv x111)), (33, (iv p2)), (34, (iv x84)), (41, (sv A18 y21.rows c19)), (42, (iv (y21.rows.length : Int))), (43, (iv x97)), (60, (bv t))]) (fun t w1 => (St NoS w w1 [rowR enc_Tile Aa ca p0, rowR encInt Ab cb p3.North, rowR encInt Ac cc p3.East, rowR encInt Ad cd p3.South, rowR encInt Ae ce p3.West] [blk g17 (.cells #[(sv A18 y21.rows c19), (iv y21.width), (iv y21.height), (sv Ab p3.North cb), (sv Ac p3.East cc), (sv Ad p3.South cd), (sv Ae p3.West ce)] 50 (0, 0)), rowO 54 encN_Row A18 c19 (tag H20 y21.rows), poolO [nestO subN_Row H20 y21.rows], mapN (aggI ints_A8_Int) (vI .i64) g82 l83, blk g93 (mapObj (aggI ints_A8_Int) (vI .i64) l96), blk g106 (.cells #[(sv ((H20 x97.toNat 0).1) ((rdD y21.rows x97 z_Row).Cells) ((H20 x97.toNat 0).2)), (iv (((rdD y21.rows x97 z_Row).South).e0)), (iv (((rdD y21.rows x97 z_Row).South).e1)), (iv (((rdD y21.rows x97 z_Row).South).e2)), (iv (((rdD y21.rows x97 z_Row).South).e3)), (iv (((rdD y21.rows x97 z_Row).South).e4)), (iv (((rdD y21.rows x97 z_Row).South).e5)), (iv (((rdD y21.rows x97 z_Row).South).e6)), (iv (((rdD y21.rows x97 z_Row).South).e7)), (iv (((rdD y21.rows x97 z_Row).North).e0)), (iv (((rdD y21.rows x97 z_Row).North).e1)), (iv (((rdD y21.rows x97 z_Row).North).e2)), (iv (((rdD y21.rows x97 z_Row).North).e3)), (iv (((rdD y21.rows x97 z_Row).North).e4)), (iv (((rdD y21.rows x97 z_Row).North).e5)), (iv (((rdD y21.rows x97 z_Row).North).e6)), (iv (((rdD y21.rows x97 z_Row).North).e7)), (iv ((rdD y21.rows x97 z_Row).West)), (iv ((rdD y21.rows x97 z_Row).East))] 54 (0, 0))] ∧ x118 = t) ∧ CellsOK [] w1) (fun K => ?_) ?_
       ·
        rcases br_some hx119 with ⟨h120, hx119⟩ | ⟨h120, hx119⟩
        ·
         refine WL.setB 55 h120 rfl ?_
         refine seg 6 [.v (sv ((H20 x97.toNat 0).1) ((rdD y21.rows x97 z_Row).Cells) ((H20 x97.toNat 0).2)), .v (iv (((rdD y21.rows x97 z_Row).South).e0)), .v (iv (((rdD y21.rows x97 z_Row).South).e1)), .v (iv (((rdD y21.rows x97 z_Row).South).e2)), .v (iv (((rdD y21.rows x97 z_Row).South).e3)), .v (iv (((rdD y21.rows x97 z_Row).South).e4)), .v (iv (((rdD y21.rows x97 z_Row).South).e5)), .v (iv (((rdD y21.rows x97 z_Row).South).e6)), .v (iv (((rdD y21.rows x97 z_Row).South).e7)), .v (iv (((rdD y21.rows x97 z_Row).North).e0)), .v (iv (((rdD y21.rows x97 z_Row).North).e1)), .v (iv (((rdD y21.rows x97 z_Row).North).e2)), .v (iv (((rdD y21.rows x97 z_Row).North).e3)), .v (iv (((rdD y21.rows x97 z_Row).North).e4)), .v (iv (((rdD y21.rows x97 z_Row).North).e5)), .v (iv (((rdD y21.rows x97 z_Row).North).e6)), .v (iv (((rdD y21.rows x97 z_Row).North).e7)), .v (iv ((rdD y21.rows x97 z_Row).West)), .v (iv ((rdD y21.rows x97 z_Row).East))] [10, 12, 13, 14, 15, 17, 18, 33, 34, 41, 42, 43, 55, 56, 57, 58] [(10, (pt g17)), (12, (.func (.func 19) #[] #[])), (13, (.map g82)), (14, (iv x84)), (15, (.map (some g93))), (17, (pt g106)), (18, (iv x111)), (33, (iv p2)), (34, (iv x84)), (41, (sv A18 y21.rows c19)), (42, (iv (y21.rows.length : Int))), (43, (iv x97)), (55, (bv true)), (56, (pt g17)), (57, (.agg #[(sv ((H20 x97.toNat 0).1) ((rdD y21.rows x97 z_Row).Cells) ((H20 x97.toNat 0).2)), (iv (((rdD y21.rows x97 z_Row).South).e0)), (iv (((rdD y21.rows x97 z_Row).South).e1)), (iv (((rdD y21.rows x97 z_Row).South).e2)), (iv (((rdD y21.rows x97 z_Row).South).e3)), (iv (((rdD y21.rows x97 z_Row).South).e4)), (iv (((rdD y21.rows x97 z_Row).South).e5)), (iv (((rdD y21.rows x97 z_Row).South).e6)), (iv (((rdD y21.rows x97 z_Row).South).e7)), (iv (((rdD y21.rows x97 z_Row).North).e0)), (iv (((rdD y21.rows x97 z_Row).North).e1)), (iv (((rdD y21.rows x97 z_Row).North).e2)), (iv (((rdD y21.rows x97 z_Row).North).e3)), (iv (((rdD y21.rows x97 z_Row).North).e4)), (iv (((rdD y21.rows x97 z_Row).North).e5)), (iv (((rdD y21.rows x97 z_Row).North).e6)), (iv (((rdD y21.rows x97 z_Row).North).e7)), (iv ((rdD y21.rows x97 z_Row).West)), (iv ((rdD y21.rows x97 z_Row).East))])), (58, (iv x84))] [.cell ⟨g106, 0, none⟩ (sv ((H20 x97.toNat 0).1) ((rdD y21.rows x97 z_Row).Cells) ((H20 x97.toNat 0).2)), .cell ⟨g106, 1, none⟩ (iv (((rdD y21.rows x97 z_Row).South).e0)), .cell ⟨g106, 2, none⟩ (iv (((rdD y21.rows x97 z_Row).South).e1)), .cell ⟨g106, 3, none⟩ (iv (((rdD y21.rows x97 z_Row).South).e2)), .cell ⟨g106, 4, none⟩ (iv (((rdD y21.rows x97 z_Row).South).e3)), .cell ⟨g106, 5, none⟩ (iv (((rdD y21.rows x97 z_Row).South).e4)), .cell ⟨g106, 6, none⟩ (iv (((rdD y21.rows x97 z_Row).South).e5)), .cell ⟨g106, 7, none⟩ (iv (((rdD y21.rows x97 z_Row).South).e6)), .cell ⟨g106, 8, none⟩ (iv (((rdD y21.rows x97 z_Row).South).e7)), .cell ⟨g106, 9, none⟩ (iv (((rdD y21.rows x97 z_Row).North).e0)), .cell ⟨g106, 10, none⟩ (iv (((rdD y21.rows x97 z_Row).North).e1)), .cell ⟨g106, 11, none⟩ (iv (((rdD y21.rows x97 z_Row).North).e2)), .cell ⟨g106, 12, none⟩ (iv (((rdD y21.rows x97 z_Row).North).e3)), .cell ⟨g106, 13, none⟩ (iv (((rdD y21.rows x97 z_Row).North).e4)), .cell ⟨g106, 14, none⟩ (iv (((rdD y21.rows x97 z_Row).North).e5)), .cell ⟨g106, 15, none⟩ (iv (((rdD y21.rows x97 z_Row).North).e6)), .cell ⟨g106, 16, none⟩ (iv (((rdD y21.rows x97 z_Row).North).e7)), .cell ⟨g106, 17, none⟩ (iv ((rdD y21.rows x97 z_Row).West)), .cell ⟨g106, 18, none⟩ (iv ((rdD y21.rows x97 z_Row).East))] (fun fb => by kernel_rfl) rfl ⟨hS115.cell 5 rfl 0 rfl, hS115.cell 5 rfl 1 rfl, hS115.cell 5 rfl 2 rfl, hS115.cell 5 rfl 3 rfl, hS115.cell 5 rfl 4 rfl, hS115.cell 5 rfl 5 rfl, hS115.cell 5 rfl 6 rfl, hS115.cell 5 rfl 7 rfl, hS115.cell 5 rfl 8 rfl, hS115.cell 5 rfl 9 rfl, hS115.cell 5 rfl 10 rfl, hS115.cell 5 rfl 11 rfl, hS115.cell 5 rfl 12 rfl, hS115.cell 5 rfl 13 rfl, hS115.cell 5 rfl 14 rfl, hS115.cell 5 rfl 15 rfl, hS115.cell 5 rfl 16 rfl, hS115.cell 5 rfl 17 rfl, hS115.cell 5 rfl 18 rfl, trivial⟩ ?_
         obtain ⟨t121, ht122, hx119⟩ := bind_some hx119
         refine WL.call (some 59) 20 #[(pt g17), (.agg #[(sv ((H20 x97.toNat 0).1) ((rdD y21.rows x97 z_Row).Cells) ((H20 x97.toNat 0).2)), (iv (((rdD y21.rows x97 z_Row).South).e0)), (iv (((rdD y21.rows x97 z_Row).South).e1)), (iv (((rdD y21.rows x97 z_Row).South).e2)), (iv (((rdD y21.rows x97 z_Row).South).e3)), (iv (((rdD y21.rows x97 z_Row).South).e4)), (iv (((rdD y21.rows x97 z_Row).South).e5)), (iv (((rdD y21.rows x97 z_Row).South).e6)), (iv (((rdD y21.rows x97 z_Row).South).e7)), (iv (((rdD y21.rows x97 z_Row).North).e0)), (iv (((rdD y21.rows x97 z_Row).North).e1)), (iv (((rdD y21.rows x97 z_Row).North).e2)), (iv (((rdD y21.rows x97 z_Row).North).e3)), (iv (((rdD y21.rows x97 z_Row).North).e4)), (iv (((rdD y21.rows x97 z_Row).North).e5)), (iv (((rdD y21.rows x97 z_Row).North).e6)), (iv (((rdD y21.rows x97 z_Row).North).e7)), (iv ((rdD y21.rows x97 z_Row).West)), (iv ((rdD y21.rows x97 z_Row).East))]), (iv x84)] (fun fb => by kernel_rfl) (fill_job_allows_calls _ (Job.mk y21.rows y21.width y21.height p3) (rdD y21.rows x97 z_Row) x84 g17 A18 c19 H20 Ab cb Ac cc Ad cd Ae ce ((H20 x97.toNat 0).1) ((H20 x97.toNat 0).2) t121 _ (hS115.ow 0) (hS115.ow 1).ofO (poolO.ro (hS115.ow 2) 0) (hS115.rd 1) (hS115.rd 2) (hS115.rd 3) (hS115.rd 4) (nestO.ro (poolO.ro (hS115.ow 2) 0) z_Row h105.1 h105.2) ht122) (fun v w123 hR124 => ?_)
         obtain ⟨rfl, hk_⟩ := hR124
         have hS125 := hS115.keepN hk_
         refine ⟨trivial, ?_⟩
         refine seg 8 [] [10, 12, 13, 14, 15, 17, 18, 33, 34, 41, 42, 43, 60] [(10, (pt g17)), (12, (.func (.func 19) #[] #[])), (13, (.map g82)), (14, (iv x84)), (15, (.map (some g93))), (17, (pt g106)), (18, (iv x111)), (33, (iv p2)), (34, (iv x84)), (41, (sv A18 y21.rows c19)), (42, (iv (y21.rows.length : Int))), (43, (iv x97)), (60, (bv t121))] [] (fun fb => by kernel_rfl) rfl trivial ?_
         injection hx119 with hx119
         exact WL.to K t121 [10, 12, 13, 14, 15, 17, 18, 33, 34, 41, 42, 43, 60] rfl ⟨⟨(hS125.subR [0, 1, 2, 3, 4]).sub [0, 1, 2, 3, 4, 5] (by decide), hx119.symm⟩, trivial⟩
        refine WL.setB 55 h120 rfl ?_
        refine seg 8 [] [10, 12, 13, 14, 15, 17, 18, 33, 34, 41, 42, 43, 60] [(10, (pt g17)), (12, (.func (.func 19) #[] #[])), (13, (.map g82)), (14, (iv x84)), (15, (.map (some g93))), (17, (pt g106)), (18, (iv x111)), (33, (iv p2)), (34, (iv x84)), (41, (sv A18 y21.rows c19)), (42, (iv (y21.rows.length : Int))), (43, (iv x97)), (60, (bv false))] [] (fun fb => by kernel_rfl) rfl trivial ?_
        injection hx119 with hx119
        exact WL.to K false [10, 12, 13, 14, 15, 17, 18, 33, 34, 41, 42, 43, 60] rfl ⟨⟨(hS115.subR [0, 1, 2, 3, 4]).sub [0, 1, 2, 3, 4, 5] (by decide), hx119.symm⟩, trivial⟩
       rintro y126 w128 ⟨⟨hS129, hq127⟩, hF130⟩
       subst hq127
       refine WL.done rfl (WX.next ?_)
       obtain ⟨x131, hx132, hl103⟩ := bind_some hl103
       refine WC.cutN (T := (List (A8_Int × Int))) (fun t => [(10, (pt g17)), (12, (.func (.func 19) #[] #[])), (13, (.map g82)), (14, (iv x84)), (15, (.map (some g93))), (33, (iv p2)), (34, (iv x84)), (41, (sv A18 y21.rows c19)), (42, (iv (y21.rows.length : Int))), (43, (iv x97))]) (fun t w1 => St NoS w w1 [rowR enc_Tile Aa ca p0, rowR encInt Ab cb p3.North, rowR encInt Ac cc p3.East, rowR encInt Ad cd p3.South, rowR encInt Ae ce p3.West] [blk g17 (.cells #[(sv A18 y21.rows c19), (iv y21.width), (iv y21.height), (sv Ab p3.North cb), (sv Ac p3.East cc), (sv Ad p3.South cd), (sv Ae p3.West ce)] 50 (0, 0)), rowO 54 encN_Row A18 c19 (tag H20 y21.rows), poolO [nestO subN_Row H20 y21.rows], mapN (aggI ints_A8_Int) (vI .i64) g82 l83, blk g93 (mapObj (aggI ints_A8_Int) (vI .i64) t)] ∧ x131 = t) (fun Kx131 => ?_) ?_
       ·
        rcases br_some hx132 with ⟨h133, hx132⟩ | ⟨h133, hx132⟩
        ·refine WC.condT2 (fun fb => by kernel_rfl) h133 ?_
         refine WC.regionD ([(2, ⟨g106, 9, none⟩, (iv (((rdD y21.rows x97 z_Row).North).e0))), (2, ⟨g106, 10, none⟩, (iv (((rdD y21.rows x97 z_Row).North).e1))), (2, ⟨g106, 11, none⟩, (iv (((rdD y21.rows x97 z_Row).North).e2))), (2, ⟨g106, 12, none⟩, (iv (((rdD y21.rows x97 z_Row).North).e3))), (2, ⟨g106, 13, none⟩, (iv (((rdD y21.rows x97 z_Row).North).e4))), (2, ⟨g106, 14, none⟩, (iv (((rdD y21.rows x97 z_Row).North).e5))), (2, ⟨g106, 15, none⟩, (iv (((rdD y21.rows x97 z_Row).North).e6))), (2, ⟨g106, 16, none⟩, (iv (((rdD y21.rows x97 z_Row).North).e7))), (6, ⟨g106, 9, none⟩, (iv (((rdD y21.rows x97 z_Row).North).e0))), (6, ⟨g106, 10, none⟩, (iv (((rdD y21.rows x97 z_Row).North).e1))), (6, ⟨g106, 11, none⟩, (iv (((rdD y21.rows x97 z_Row).North).e2))), (6, ⟨g106, 12, none⟩, (iv (((rdD y21.rows x97 z_Row).North).e3))), (6, ⟨g106, 13, none⟩, (iv (((rdD y21.rows x97 z_Row).North).e4))), (6, ⟨g106, 14, none⟩, (iv (((rdD y21.rows x97 z_Row).North).e5))), (6, ⟨g106, 15, none⟩, (iv (((rdD y21.rows x97 z_Row).North).e6))), (6, ⟨g106, 16, none⟩, (iv (((rdD y21.rows x97 z_Row).North).e7)))], [0, 1, 2, 3, 4, 5, 6, 8], [[], [], [1], [], [], [], [5], [4, 5, 6], [], [3, 4, 5, 6, 7, 8], [0, 1, 2, 3, 4, 5, 6, 7, 8, 9]]) [[0, 1, 2, 3, 4, 5, 6, 8, 7, 9, 10]] (by kernel_rfl) (by kernel_rfl) (NoPanic.block (NoPanic.seq (NoPanic.seq (NoPanic.block (NoPanic.seq (NoPanic.block (NoPanic.seq (NoPanic.seq (NoPanic.block (NoPanic.seq (NoPanic.body))))))))))) ?_
         have hS135 := hS129.drew
         revert hS135
         generalize World.drew w128 = w134
         intro hS135
         refine ⟨⟨hS135.cell 5 rfl 9 rfl, hS135.cell 5 rfl 10 rfl, hS135.cell 5 rfl 11 rfl, hS135.cell 5 rfl 12 rfl, hS135.cell 5 rfl 13 rfl, hS135.cell 5 rfl 14 rfl, hS135.cell 5 rfl 15 rfl, hS135.cell 5 rfl 16 rfl, hS135.cell 5 rfl 9 rfl, hS135.cell 5 rfl 10 rfl, hS135.cell 5 rfl 11 rfl, hS135.cell 5 rfl 12 rfl, hS135.cell 5 rfl 13 rfl, hS135.cell 5 rfl 14 rfl, hS135.cell 5 rfl 15 rfl, hS135.cell 5 rfl 16 rfl, trivial⟩, forallC ?_ (forallN)⟩
         refine segF 8 [.v (iv (((rdD y21.rows x97 z_Row).North).e0)), .v (iv (((rdD y21.rows x97 z_Row).North).e1)), .v (iv (((rdD y21.rows x97 z_Row).North).e2)), .v (iv (((rdD y21.rows x97 z_Row).North).e3)), .v (iv (((rdD y21.rows x97 z_Row).North).e4)), .v (iv (((rdD y21.rows x97 z_Row).North).e5)), .v (iv (((rdD y21.rows x97 z_Row).North).e6)), .v (iv (((rdD y21.rows x97 z_Row).North).e7)), .v (iv (((rdD y21.rows x97 z_Row).North).e0)), .v (iv (((rdD y21.rows x97 z_Row).North).e1)), .v (iv (((rdD y21.rows x97 z_Row).North).e2)), .v (iv (((rdD y21.rows x97 z_Row).North).e3)), .v (iv (((rdD y21.rows x97 z_Row).North).e4)), .v (iv (((rdD y21.rows x97 z_Row).North).e5)), .v (iv (((rdD y21.rows x97 z_Row).North).e6)), .v (iv (((rdD y21.rows x97 z_Row).North).e7))] [10, 12, 13, 14, 15, 33, 34, 41, 42, 43, 61, 63, 64, 65, 67, 69] [(10, (pt g17)), (12, (.func (.func 19) #[] #[])), (13, (.map g82)), (14, (iv x84)), (15, (.map (some g93))), (33, (iv p2)), (34, (iv x84)), (41, (sv A18 y21.rows c19)), (42, (iv (y21.rows.length : Int))), (43, (iv x97)), (61, (.map (some g93))), (63, (.agg #[(iv (((rdD y21.rows x97 z_Row).North).e0)), (iv (((rdD y21.rows x97 z_Row).North).e1)), (iv (((rdD y21.rows x97 z_Row).North).e2)), (iv (((rdD y21.rows x97 z_Row).North).e3)), (iv (((rdD y21.rows x97 z_Row).North).e4)), (iv (((rdD y21.rows x97 z_Row).North).e5)), (iv (((rdD y21.rows x97 z_Row).North).e6)), (iv (((rdD y21.rows x97 z_Row).North).e7))])), (64, (.func (.func 19) #[] #[])), (65, (.map (some g93))), (67, (.agg #[(iv (((rdD y21.rows x97 z_Row).North).e0)), (iv (((rdD y21.rows x97 z_Row).North).e1)), (iv (((rdD y21.rows x97 z_Row).North).e2)), (iv (((rdD y21.rows x97 z_Row).North).e3)), (iv (((rdD y21.rows x97 z_Row).North).e4)), (iv (((rdD y21.rows x97 z_Row).North).e5)), (iv (((rdD y21.rows x97 z_Row).North).e6)), (iv (((rdD y21.rows x97 z_Row).North).e7))])), (69, (iv x111))] [] [0, 1, 2, 3, 4, 5, 6, 7, 8, 9, 10, 11, 12, 13, 14, 15] [(2, ⟨g106, 9, none⟩, (iv (((rdD y21.rows x97 z_Row).North).e0))), (2, ⟨g106, 10, none⟩, (iv (((rdD y21.rows x97 z_Row).North).e1))), (2, ⟨g106, 11, none⟩, (iv (((rdD y21.rows x97 z_Row).North).e2))), (2, ⟨g106, 12, none⟩, (iv (((rdD y21.rows x97 z_Row).North).e3))), (2, ⟨g106, 13, none⟩, (iv (((rdD y21.rows x97 z_Row).North).e4))), (2, ⟨g106, 14, none⟩, (iv (((rdD y21.rows x97 z_Row).North).e5))), (2, ⟨g106, 15, none⟩, (iv (((rdD y21.rows x97 z_Row).North).e6))), (2, ⟨g106, 16, none⟩, (iv (((rdD y21.rows x97 z_Row).North).e7))), (6, ⟨g106, 9, none⟩, (iv (((rdD y21.rows x97 z_Row).North).e0))), (6, ⟨g106, 10, none⟩, (iv (((rdD y21.rows x97 z_Row).North).e1))), (6, ⟨g106, 11, none⟩, (iv (((rdD y21.rows x97 z_Row).North).e2))), (6, ⟨g106, 12, none⟩, (iv (((rdD y21.rows x97 z_Row).North).e3))), (6, ⟨g106, 13, none⟩, (iv (((rdD y21.rows x97 z_Row).North).e4))), (6, ⟨g106, 14, none⟩, (iv (((rdD y21.rows x97 z_Row).North).e5))), (6, ⟨g106, 15, none⟩, (iv (((rdD y21.rows x97 z_Row).North).e6))), (6, ⟨g106, 16, none⟩, (iv (((rdD y21.rows x97 z_Row).North).e7)))] (fun fb => by kernel_rfl) rfl trivial rfl ?_
         refine WL.lookup (hS135.own 4).1 ((rdD y21.rows x97 z_Row).North) (d := 68) (c := false) (t := 47) (kT := 52) (eT := 3) (z := 0) (kE := (aggI ints_A8_Int)) (vE := (vI .i64)) (l := l96) (iv (mget ((rdD y21.rows x97 z_Row).North) 0 l96)) (fun fb => by kernel_rfl) fill_Count_key52 (by kernel_rfl) (fun _ => by kernel_rfl) rfl ?_
         refine ⟨⟨hS135.cell 5 rfl 9 rfl, hS135.cell 5 rfl 10 rfl, hS135.cell 5 rfl 11 rfl, hS135.cell 5 rfl 12 rfl, hS135.cell 5 rfl 13 rfl, hS135.cell 5 rfl 14 rfl, hS135.cell 5 rfl 15 rfl, hS135.cell 5 rfl 16 rfl, trivial⟩, ?_⟩
         obtain ⟨t136, ht137, hx132⟩ := bind_some hx132
         refine WL.call (some 70) 19 #[(iv (mget ((rdD y21.rows x97 z_Row).North) 0 l96)), (iv x111)] (fun fb => by kernel_rfl) (fill_Count_1_calls (mget ((rdD y21.rows x97 z_Row).North) 0 l96) x111 t136 _ ht137) (fun v w138 hR139 => ?_)
         obtain ⟨rfl, hk_⟩ := hR139
         have hS140 := hS135.keepN hk_
         refine ⟨⟨hS140.cell 5 rfl 9 rfl, hS140.cell 5 rfl 10 rfl, hS140.cell 5 rfl 11 rfl, hS140.cell 5 rfl 12 rfl, hS140.cell 5 rfl 13 rfl, hS140.cell 5 rfl 14 rfl, hS140.cell 5 rfl 15 rfl, hS140.cell 5 rfl 16 rfl, trivial⟩, ?_⟩
         refine WL.mapput hS140 4 (t := 47) (kT := 52) (eT := 3) (kE := (aggI ints_A8_Int)) (vE := (vI .i64)) (l := l96) rfl ((rdD y21.rows x97 z_Row).North) t136 (fun fb => by kernel_rfl) fill_Count_key52 (by kernel_rfl) [0, 1, 2, 3, 5] (by decide) (by decide) (fun w141 hS142 => ?_)
         refine ⟨trivial, ?_⟩
         refine WL.done rfl ?_
         injection hx132 with hx132
         exact WX.to Kx131 (mput ((rdD y21.rows x97 z_Row).North) t136 l96) [10, 12, 13, 14, 15, 33, 34, 41, 42, 43] rfl ⟨(hS142.subR [0, 1, 2, 3, 4]).sub [1, 2, 3, 4, 0] (by decide), hx132.symm⟩
        refine WC.condF2 (fun fb => by kernel_rfl) h133 ?_
        refine WC.skip ?_
        injection hx132 with hx132
        exact WX.to Kx131 l96 [10, 12, 13, 14, 15, 33, 34, 41, 42, 43] rfl ⟨(hS129.subR [0, 1, 2, 3, 4]).sub [0, 1, 2, 3, 4] (by decide), hx132.symm⟩
       rintro y146 w143 ⟨hS144, hq145⟩
       subst hq145
       refine WX.blockN (WX.next ?_)
       refine WC.region ?_
       refine seg 2 [] [10, 12, 13, 14, 15, 33, 34, 41, 42, 43] [(10, (pt g17)), (12, (.func (.func 19) #[] #[])), (13, (.map g82)), (14, (iv x84)), (15, (.map (some g93))), (33, (iv p2)), (34, (iv x84)), (41, (sv A18 y21.rows c19)), (42, (iv (y21.rows.length : Int))), (43, (iv (w64 (x97 + 1))))] [] (fun fb => by kernel_rfl) rfl trivial ?_
       refine WL.done rfl ?_
       exact WX.again k100 (Nat.lt_succ_self _) (x131, w64 (x97 + 1)) [10, 12, 13, 14, 15, 33, 34, 41, 42, 43] rfl ⟨(hS144.subR [0, 1, 2, 3, 4]).sub [0, 1, 2, 3, 4] (by decide), hl103⟩
      refine WC.condF2 (fun fb => by kernel_rfl) h104 ?_
      refine WC.exit ?_
      injection hl103 with hl103
      exact WX.thenX (WX.thenX (WX.blockHere (WX.to Kx98 l96 [10, 12, 15, 33, 34] rfl ⟨(hS102.subR [0, 1, 2, 3, 4]).sub [0, 1, 2, 4] (by decide), hl103.symm⟩)))
    rintro y150 w147 ⟨hS148, hq149⟩
    subst hq149
    refine WX.next (WC.region ?_)
    refine seg 2 [] [10, 12, 13, 33, 34] [(10, (pt g17)), (12, (.func (.func 19) #[] #[])), (13, (.map (some g93))), (33, (iv p2)), (34, (iv x84))] [] (fun fb => by kernel_rfl) rfl trivial ?_
    refine WL.done rfl ?_
    refine WX.blockN (WX.next ?_)
    refine WC.region ?_
    refine seg 2 [] [10, 12, 13, 33, 34] [(10, (pt g17)), (12, (.func (.func 19) #[] #[])), (13, (.map (some g93))), (33, (iv p2)), (34, (iv (w64 (x84 + 1))))] [] (fun fb => by kernel_rfl) rfl trivial ?_
    refine WL.done rfl ?_
    have hS151 := hS81.go w147 [mapN (aggI ints_A8_Int) (vI .i64) (some g93) x98, blk g17 (.cells #[(sv A18 y21.rows c19), (iv y21.width), (iv y21.height), (sv Ab p3.North cb), (sv Ac p3.East cc), (sv Ad p3.South cd), (sv Ae p3.West ce)] 50 (0, 0)), rowO 54 encN_Row A18 c19 (tag H20 y21.rows), poolO [nestO subN_Row H20 y21.rows]] (hS148.mapnSome 3 rfl [0, 1, 2] (by decide) (by decide))
    exact WX.again k88 (Nat.lt_succ_self _) ((x98, w64 (x84 + 1)), (some g93)) [10, 12, 13, 33, 34] rfl ⟨(hS151.subR [0, 1, 2, 3, 4]).sub [1, 2, 3, 0] (by decide), hl91⟩
   refine WC.condF2 (fun fb => by kernel_rfl) h92 ?_
   refine WC.exit ?_
   injection hl91 with hl91
   exact WX.thenX (WX.thenX (WX.blockHere (WX.to Kx86 (l83, g82) [12, 13] rfl ⟨(hS90.subR [0, 1, 2, 3, 4]).sub [3] (by decide), hl91.symm⟩)))
 rintro ⟨y155, g85⟩ w152 ⟨hS153, hq154⟩
 subst hq154
 refine WX.next (WC.seq (WC.region ?_))
 refine seg 1 [] [12, 13, 19] [(12, (.func (.func 19) #[] #[])), (13, (.map g85)), (19, (iv 0))] [] (fun fb => by kernel_rfl) rfl trivial ?_
 refine WL.done rfl (WX.next (WC.seq (WC.seq (WC.region ?_))))
 refine seg 1 [] [12, 19, 74] [(12, (.func (.func 19) #[] #[])), (19, (iv 0)), (74, (.map g85))] [] (fun fb => by kernel_rfl) rfl trivial ?_
 refine WL.mrange hS153 0 (kT := 52) (eT := 3) (t := 47) (d := 75) rfl (fun fb => by kernel_rfl) (by kernel_rfl) (fun g156 w157 hS158 => ?_)
 refine ⟨trivial, ?_⟩
 refine WL.done rfl (WX.next ?_)
 obtain ⟨x167, hx168, hf⟩ := bind_some hf
 have hO169 := sat_free (step := fun (x166 : Int) (vv163 : Int) => (fill_Count_1 x166 vv163).bind fun t185 => some t185) (by decide) (by decide) (fun a v => rfl) hx168
 refine WC.cutN (T := Int) (fun t => [(19, (iv t))]) (fun t w1 => St NoS w w1 [rowR enc_Tile Aa ca p0, rowR encInt Ab cb p3.North, rowR encInt Ac cc p3.East, rowR encInt Ad cd p3.South, rowR encInt Ae ce p3.West] [] ∧ x167 = t) (fun Kx167 => ?_) ?_
 ·
  refine WC.block ?_
  refine WC.loop (T := List Nat × Int) (fun t => [(12, (.func (.func 19) #[] #[])), (19, (iv t.2)), (75, (pt g156))]) (fun n t w1 => St NoS w w1 [rowR enc_Tile Aa ca p0, rowR encInt Ab cb p3.North, rowR encInt Ac cc p3.East, rowR encInt Ad cd p3.South, rowR encInt Ae ce p3.West] [blk g156 (iterOb g85 x86.length t.1), mapN (aggI ints_A8_Int) (vI .i64) g85 x86] ∧ t.1.Nodup ∧ (∀ x_ ∈ t.1, x_ < x86.length) ∧ t.1.length + n = x86.length + 1 ∧ (valsAt x86 t.1).foldlM (fun (x166 : Int) (vv163 : Int) => (fill_Count_1 x166 vv163).bind fun t185 => some t185) 0 = some t.2) (x86.length + 1) ([], 0) [12, 19, 75] rfl ⟨(hS158.subR [0, 1, 2, 3, 4]).sub [0, 1] (by decide), List.nodup_nil, (fun x_ h_ => by cases h_), Nat.zero_add _, rfl⟩ ?_
  rintro n170 ⟨sn159, x166⟩ w175 ⟨hS176, h171, h172, h173, h174⟩
  have h173 : sn159.length + n170 = x86.length + 1 := h173
  refine WC.seq (WC.region ?_)
  refine WL.mnext hS176 1 0 (kE := (aggI ints_A8_Int)) (vE := (vI .i64)) (og := g85) (l := x86) rfl rfl (by decide) (d := 76) (fun fb => by kernel_rfl) [1] (by decide) (by decide) (fun hall184 => ?_) (fun q160 hq161 kk162 vv163 hkv164 hqs165 w182 hS183 => ?_)
  ·
   refine ⟨trivial, ?_⟩
   have hc_x167 := h174.symm.trans (hO169.all h171 h172 hall184)
   refine seg 2 [] [12, 19, 75, 77] [(12, (.func (.func 19) #[] #[])), (19, (iv x166)), (75, (pt g156)), (77, (bv false))] [] (fun fb => by kernel_rfl) rfl trivial ?_
   refine WL.done rfl (WX.next (WC.seq ?_))
   refine WC.condF (fun fb => by kernel_rfl) ?_
   refine WC.exit ?_
   injection hc_x167 with hc_x167
   exact WX.thenX (WX.thenX (WX.blockHere (WX.to Kx167 x166 [19] rfl ⟨(hS176.subR [0, 1, 2, 3, 4]).sub [] (by decide), hc_x167.symm⟩)))
  refine ⟨trivial, ?_⟩
  obtain ⟨h178, h179, hlt177, c180, hc_x167, h181⟩ := hO169.step h171 h172 hq161 hqs165 hkv164 h174
  refine seg 2 [] [12, 19, 75, 77] [(12, (.func (.func 19) #[] #[])), (19, (iv x166)), (75, (pt g156)), (77, (bv true))] [] (fun fb => by kernel_rfl) rfl trivial ?_
  refine WL.done rfl (WX.next (WC.seq ?_))
  refine WC.condT (fun fb => by kernel_rfl) ?_
  refine WC.skip (WX.next (WC.block (WC.seq (WC.region ?_))))
  refine WL.mentry hS183 1 0 (kE := (aggI ints_A8_Int)) (vE := (vI .i64)) (og := g85) (l := x86) hq161 hkv164 rfl rfl (d := 78) (fun fb => by kernel_rfl) ?_
  refine ⟨trivial, ?_⟩
  refine seg 3 [] [12, 19, 21, 75] [(12, (.func (.func 19) #[] #[])), (19, (iv x166)), (21, (iv vv163)), (75, (pt g156))] [] (fun fb => by kernel_rfl) rfl trivial ?_
  refine WL.done rfl (WX.next (WC.region ?_))
  refine seg 3 [] [12, 75, 80, 81, 82] [(12, (.func (.func 19) #[] #[])), (75, (pt g156)), (80, (.func (.func 19) #[] #[])), (81, (iv x166)), (82, (iv vv163))] [] (fun fb => by kernel_rfl) rfl trivial ?_
  obtain ⟨t185, ht186, hc_x167⟩ := bind_some hc_x167
  refine WL.call (some 83) 19 #[(iv x166), (iv vv163)] (fun fb => by kernel_rfl) (fill_Count_1_calls x166 vv163 t185 _ ht186) (fun v w187 hR188 => ?_)
  obtain ⟨rfl, hk_⟩ := hR188
  have hS189 := hS183.keepN hk_
  refine ⟨trivial, ?_⟩
  refine seg 5 [] [12, 19, 75] [(12, (.func (.func 19) #[] #[])), (19, (iv t185)), (75, (pt g156))] [] (fun fb => by kernel_rfl) rfl trivial ?_
  refine WL.done rfl ?_
  injection hc_x167 with hc_x167
  exact WX.blockN (WX.again (n170 - 1) (by omega) ((sn159 ++ [q160]), t185) [12, 19, 75] rfl ⟨(hS189.subR [0, 1, 2, 3, 4]).sub [0, 1] (by decide), h178, h179, (by rw [List.length_append, List.length_singleton]; omega), h181.trans (congrArg some hc_x167.symm)⟩)
 rintro y193 w190 ⟨hS191, hq192⟩
 subst hq192
 refine WX.next (WC.seq (WC.seq (WC.region ?_)))
 refine seg 2 [] [19, 85] [(19, (iv x167)), (85, (bv (decide (x167 > 1152921504606846976))))] [] (fun fb => by kernel_rfl) rfl trivial ?_
 refine WL.done rfl (WX.next ?_)
 rcases br_some hf with ⟨h194, hf⟩ | ⟨h194, hf⟩
 ·refine WC.condT2 (fun fb => by kernel_rfl) h194 ?_
  refine WC.seq (WC.region ?_)
  refine seg 2 [] [8, 9] [(8, (iv 0)), (9, (iv 4))] [] (fun fb => by kernel_rfl) rfl trivial ?_
  refine WL.done rfl (WX.next ?_)
  refine WC.ret ?_
  injection hf with hf
  subst hf
  exact WX.thenR (WX.ret_ [] (.tuple #[(iv 0), (iv 4)]) [] (fun fb => by kernel_rfl) trivial ⟨_, rfl, rfl, hS191.keep⟩)
 refine WC.condF2 (fun fb => by kernel_rfl) h194 ?_
 refine WC.skip (WX.next (WC.seq (WC.region ?_)))
 refine seg 3 [] [8, 9] [(8, (iv x167)), (9, (iv 0))] [] (fun fb => by kernel_rfl) rfl trivial ?_
 refine WL.done rfl (WX.next ?_)
 refine WC.ret ?_
 injection hf with hf
 subst hf
 exact WX.ret_ [] (.tuple #[(iv x167), (iv 0)]) [] (fun fb => by kernel_rfl) trivial ⟨_, rfl, rfl, hS191.keep⟩
end Gp
