/- Walks: each function of the program computes its plain function. -/
import Derived.Test.YtjfmjfheeijfiaaGreatDoorGx2
set_option linter.unusedVariables false
set_option linter.unusedSimpArgs false
set_option maxHeartbeats 4000000
namespace Gp
open Go Gw Go.Proofs
theorem tile_changes_calls   (r : A3_Change) (w : World)  (hf : tile_changes = some r) :
  CallsR Tryz.prog 34 #[] w (fun v w' => v = (.agg #[(.func (.func 46) #[] #[]), (.func (.func 47) #[] #[]), (.func (.func 48) #[] #[]), (.func (.func 49) #[] #[]), (.func (.func 47) #[] #[]), (.func (.func 50) #[] #[]), (.func (.func 51) #[] #[]), (.func (.func 52) #[] #[]), (.func (.func 53) #[] #[])]) ∧ Keeps NoS w w') := by
 have hS : St NoS w w [] [] := St.init (ro_nil _ _)
 refine enter 5 Tryz.func34 rfl Tryz.ntmps34 rfl ?_
 unfold tile_changes at hf
 refine WC.seq (WC.region ?_)
 refine WL.new hS 0 [] (fun g => (pt g)) (.cells #[.nilFunc, .nilFunc, .nilFunc, .nilFunc, .nilFunc, .nilFunc, .nilFunc, .nilFunc, .nilFunc] 82 (0, 0)) [] (fun fb g => by kernel_rfl) trivial (fun g1 w2 hS4 => ?_)
 refine ⟨trivial, ?_⟩
 refine WL.done rfl (WX.next (WC.seq (WC.region ?_)))
 refine seg 4 [] [0, 4] [(0, (pt g1)), (4, (.agg #[(.func (.func 46) #[] #[]), (.func (.func 47) #[] #[]), (.func (.func 48) #[] #[]), (.func (.func 49) #[] #[]), (.func (.func 47) #[] #[]), (.func (.func 50) #[] #[]), (.func (.func 51) #[] #[]), (.func (.func 52) #[] #[]), (.func (.func 53) #[] #[])]))] [] (fun fb => by kernel_rfl) rfl trivial ?_
 refine WL.store hS4 0 rfl [(0, (.func (.func 46) #[] #[])), (1, (.func (.func 47) #[] #[])), (2, (.func (.func 48) #[] #[])), (3, (.func (.func 49) #[] #[])), (4, (.func (.func 47) #[] #[])), (5, (.func (.func 50) #[] #[])), (6, (.func (.func 51) #[] #[])), (7, (.func (.func 52) #[] #[])), (8, (.func (.func 53) #[] #[]))] #[(.func (.func 46) #[] #[]), (.func (.func 47) #[] #[]), (.func (.func 48) #[] #[]), (.func (.func 49) #[] #[]), (.func (.func 47) #[] #[]), (.func (.func 50) #[] #[]), (.func (.func 51) #[] #[]), (.func (.func 52) #[] #[]), (.func (.func 53) #[] #[])] (fun fb => by kernel_rfl) (by kernel_rfl) (by kernel_rfl) [] (by decide) (by decide) (fun w5 hS6 => ?_)
 refine ⟨trivial, ?_⟩
 refine WL.done rfl (WX.next ?_)
 refine WC.ret ?_
 injection hf with hf
 subst hf
 exact WX.ret_ [.v (.func (.func 46) #[] #[]), .v (.func (.func 47) #[] #[]), .v (.func (.func 48) #[] #[]), .v (.func (.func 49) #[] #[]), .v (.func (.func 47) #[] #[]), .v (.func (.func 50) #[] #[]), .v (.func (.func 51) #[] #[]), .v (.func (.func 52) #[] #[]), .v (.func (.func 53) #[] #[])] (.agg #[(.func (.func 46) #[] #[]), (.func (.func 47) #[] #[]), (.func (.func 48) #[] #[]), (.func (.func 49) #[] #[]), (.func (.func 47) #[] #[]), (.func (.func 50) #[] #[]), (.func (.func 51) #[] #[]), (.func (.func 52) #[] #[]), (.func (.func 53) #[] #[])]) [.cell ⟨g1, 0, none⟩ (.func (.func 46) #[] #[]), .cell ⟨g1, 1, none⟩ (.func (.func 47) #[] #[]), .cell ⟨g1, 2, none⟩ (.func (.func 48) #[] #[]), .cell ⟨g1, 3, none⟩ (.func (.func 49) #[] #[]), .cell ⟨g1, 4, none⟩ (.func (.func 47) #[] #[]), .cell ⟨g1, 5, none⟩ (.func (.func 50) #[] #[]), .cell ⟨g1, 6, none⟩ (.func (.func 51) #[] #[]), .cell ⟨g1, 7, none⟩ (.func (.func 52) #[] #[]), .cell ⟨g1, 8, none⟩ (.func (.func 53) #[] #[])] (fun fb => by kernel_rfl) ⟨hS6.cell 0 rfl 0 rfl, hS6.cell 0 rfl 1 rfl, hS6.cell 0 rfl 2 rfl, hS6.cell 0 rfl 3 rfl, hS6.cell 0 rfl 4 rfl, hS6.cell 0 rfl 5 rfl, hS6.cell 0 rfl 6 rfl, hS6.cell 0 rfl 7 rfl, hS6.cell 0 rfl 8 rfl, trivial⟩ ⟨_, rfl, rfl, hS6.keep⟩
theorem tile_changes_1_calls (p0 : Tile)  (r : Tile) (w : World)  (hf : tile_changes_1 p0 = some r) :
  CallsR Tryz.prog 46 #[(.agg #[(iv p0.N), (iv p0.E), (iv p0.S), (iv p0.W)])] w (fun v w' => v = (.agg #[(iv r.N), (iv r.E), (iv r.S), (iv r.W)]) ∧ Keeps NoS w w') := by
 have hS : St NoS w w [] [] := St.init (ro_nil _ _)
 refine enter 12 Tryz.func46 rfl Tryz.ntmps46 rfl ?_
 unfold tile_changes_1 at hf
 refine WC.seq (WC.region ?_)
 refine WL.new hS 1 [] (fun g => (pt g)) (.cells #[(iv p0.N), (iv p0.E), (iv p0.S), (iv p0.W)] 67 (0, 0)) [] (fun fb g => by kernel_rfl) trivial (fun g2 w3 hS4 => ?_)
 refine ⟨trivial, ?_⟩
 refine WL.new hS4 2 [] (fun g => (pt g)) (.cells #[(iv 0), (iv 0), (iv 0), (iv 0)] 67 (0, 0)) [] (fun fb g => by kernel_rfl) trivial (fun g5 w6 hS7 => ?_)
 refine ⟨trivial, ?_⟩
 refine WL.done rfl (WX.next (WC.seq (WC.region ?_)))
 refine seg 9 [.v (iv p0.N), .v (iv p0.W), .v (iv p0.S), .v (iv p0.E)] [2, 11] [(2, (pt g5)), (11, (.agg #[(iv p0.N), (iv p0.W), (iv p0.S), (iv p0.E)]))] [.cell ⟨g2, 0, none⟩ (iv p0.N), .cell ⟨g2, 3, none⟩ (iv p0.W), .cell ⟨g2, 2, none⟩ (iv p0.S), .cell ⟨g2, 1, none⟩ (iv p0.E)] (fun fb => by kernel_rfl) rfl ⟨hS7.cell 1 rfl 0 rfl, hS7.cell 1 rfl 3 rfl, hS7.cell 1 rfl 2 rfl, hS7.cell 1 rfl 1 rfl, trivial⟩ ?_
 refine WL.store hS7 0 rfl [(0, (iv p0.N)), (1, (iv p0.W)), (2, (iv p0.S)), (3, (iv p0.E))] #[(iv p0.N), (iv p0.W), (iv p0.S), (iv p0.E)] (fun fb => by kernel_rfl) (by kernel_rfl) rfl [1] (by decide) (by decide) (fun w8 hS9 => ?_)
 refine ⟨trivial, ?_⟩
 refine WL.done rfl (WX.next ?_)
 refine WC.ret ?_
 injection hf with hf
 subst hf
 exact WX.ret_ [.v (iv p0.N), .v (iv p0.W), .v (iv p0.S), .v (iv p0.E)] (.agg #[(iv p0.N), (iv p0.W), (iv p0.S), (iv p0.E)]) [.cell ⟨g5, 0, none⟩ (iv p0.N), .cell ⟨g5, 1, none⟩ (iv p0.W), .cell ⟨g5, 2, none⟩ (iv p0.S), .cell ⟨g5, 3, none⟩ (iv p0.E)] (fun fb => by kernel_rfl) ⟨hS9.cell 0 rfl 0 rfl, hS9.cell 0 rfl 1 rfl, hS9.cell 0 rfl 2 rfl, hS9.cell 0 rfl 3 rfl, trivial⟩ ⟨_, rfl, rfl, hS9.keep⟩
theorem tile_changed_at0_calls (k : Nat) (p0 : List Tile) (Aa : Option Addr) (ca : Nat) (r : (List Tile) × Int) (w : World) (hR0 : RO NoS w (rowR enc_Tile Aa ca p0)) (hf : tile_changed_at0 k p0 = some r) :
  CallsR Tryz.prog 21 #[(sv Aa p0 ca), (iv 0)] w (fun v w' => ∃ (A1_ : Option Addr), ∃ (c1_ : Nat), v = (.tuple #[(sv A1_ r.1 c1_), (iv r.2)]) ∧ St NoS w w' [] [rowO 67 enc_Tile A1_ c1_ r.1]) := by
 have hS : St NoS w w [rowR enc_Tile Aa ca p0] [] := St.init (ro_cons hR0 (ro_nil _ _))
 refine enter 29 Tryz.func21 rfl Tryz.ntmps21 rfl ?_
 unfold tile_changed_at0 at hf
 refine WC.seq (WC.region ?_)
 refine seg 2 [] [0, 1] [(0, (sv Aa p0 ca)), (1, (iv 0))] [] (fun fb => by kernel_rfl) rfl trivial ?_
 refine WL.done rfl (WX.next (WC.seq (WC.seq (WC.region ?_))))
 refine seg 1 [] [0, 1, 9] [(0, (sv Aa p0 ca)), (1, (iv 0)), (9, (sv Aa p0 ca))] [] (fun fb => by kernel_rfl) rfl trivial ?_
 obtain ⟨t3, ht4, hf⟩ := bind_some hf
 refine WL.call (some 10) 28 #[(sv Aa p0 ca)] (fun fb => by kernel_rfl) (tile_Valid_calls _ p0 Aa ca t3 _ (hS.rd 0) ht4) (fun v w5 hR6 => ?_)
 obtain ⟨rfl, hk_⟩ := hR6
 have hS7 := hS.keepN hk_
 refine ⟨trivial, ?_⟩
 refine seg 3 [] [0, 1, 11] [(0, (sv Aa p0 ca)), (1, (iv 0)), (11, (bv (!t3)))] [] (fun fb => by kernel_rfl) rfl trivial ?_
 refine WL.done rfl (WX.next ?_)
 rcases br_some hf with ⟨h8, hf⟩ | ⟨h8, hf⟩
 ·refine WC.condT2 (fun fb => by kernel_rfl) h8 ?_
  refine WC.seq (WC.region ?_)
  refine seg 2 [] [4, 5] [(4, (.slice none 0 0)), (5, (iv 1))] [] (fun fb => by kernel_rfl) rfl trivial ?_
  refine WL.done rfl (WX.next ?_)
  refine WC.ret ?_
  have hS9 := hS7.nilrow 67 enc_Tile
  injection hf with hf
  subst hf
  exact WX.thenR (WX.ret_ [] (.tuple #[(sv none ([] : List Tile) 0), (iv 1)]) [] (fun fb => by kernel_rfl) trivial ⟨_, rfl, none, 0, rfl, (hS9.sub [0] (by decide)).noR⟩)
 refine WC.condF2 (fun fb => by kernel_rfl) h8 ?_
 refine WC.skip (WX.next (WC.seq (WC.region ?_)))
 refine seg 1 [] [0, 1, 6] [(0, (sv Aa p0 ca)), (1, (iv 0)), (6, (.slice none 0 0))] [] (fun fb => by kernel_rfl) rfl trivial ?_
 refine WL.done rfl (WX.next (WC.seq (WC.seq (WC.region ?_))))
 refine seg 3 [] [1, 6, 12, 13, 14] [(1, (iv 0)), (6, (.slice none 0 0)), (12, (sv Aa p0 ca)), (13, (iv (p0.length : Int))), (14, (iv 0))] [] (fun fb => by kernel_rfl) rfl trivial ?_
 refine WL.done rfl (WX.next ?_)
 have hS10 := hS7.nilrow 67 enc_Tile
 obtain ⟨x17, hx18, hf⟩ := bind_some hf
 refine WC.cutN (T := (List Tile) × (Option Addr) × Nat) (fun t => [(6, (sv t.2.1 t.1 t.2.2))]) (fun t w1 => St NoS w w1 [rowR enc_Tile Aa ca p0] [rowO 67 enc_Tile t.2.1 t.2.2 t.1] ∧ x17 = t.1) (fun Kx17 => ?_) ?_
 ·
  refine WC.block ?_
  refine WC.loop (T := ((List Tile) × Int) × (Option Addr) × Nat) (fun t => [(1, (iv 0)), (6, (sv t.2.1 t.1.1 t.2.2)), (12, (sv Aa p0 ca)), (13, (iv (p0.length : Int))), (14, (iv t.1.2))]) (fun n t w1 => St NoS w w1 [rowR enc_Tile Aa ca p0] [rowO 67 enc_Tile t.2.1 t.2.2 t.1.1] ∧ tile_changed_at0.l0 n t.1.1 t.1.2 p0 = some x17) k ((([] : List Tile), 0), none, 0) [1, 6, 12, 13, 14] rfl ⟨(hS10.subR [0]).sub [0] (by decide), hx18⟩ ?_
  rintro k19 ⟨⟨l13, x14⟩, A11, c12⟩ w20 ⟨hS22, hl23⟩
  cases k19 with
  | zero => rw [tile_changed_at0.l0] at hl23; cases hl23
  | succ k19 =>
   rw [tile_changed_at0.l0] at hl23
   refine WC.seq (WC.region ?_)
   refine seg 1 [] [1, 6, 12, 13, 14, 15] [(1, (iv 0)), (6, (sv A11 l13 c12)), (12, (sv Aa p0 ca)), (13, (iv (p0.length : Int))), (14, (iv x14)), (15, (bv (decide (x14 < (p0.length : Int)))))] [] (fun fb => by kernel_rfl) rfl trivial ?_
   refine WL.done rfl (WX.next (WC.seq ?_))
   rcases br_some hl23 with ⟨h24, hl23⟩ | ⟨h24, hl23⟩
   ·refine WC.condT2 (fun fb => by kernel_rfl) h24 ?_
    refine WC.skip (WX.next (WC.seq (WC.block (WC.seq (WC.region ?_)))))
    obtain ⟨h25, hl23⟩ := as_some hl23
    refine seg 2 [.v (iv ((rdD p0 x14 z_Tile).N)), .v (iv ((rdD p0 x14 z_Tile).E)), .v (iv ((rdD p0 x14 z_Tile).S)), .v (iv ((rdD p0 x14 z_Tile).W))] [1, 6, 12, 13, 14, 17] [(1, (iv 0)), (6, (sv A11 l13 c12)), (12, (sv Aa p0 ca)), (13, (iv (p0.length : Int))), (14, (iv x14)), (17, (.agg #[(iv ((rdD p0 x14 z_Tile).N)), (iv ((rdD p0 x14 z_Tile).E)), (iv ((rdD p0 x14 z_Tile).S)), (iv ((rdD p0 x14 z_Tile).W))]))] [.idx Aa x14 p0.length, .cell ((adr Aa).add ((x14).toNat * 4)) (iv ((rdD p0 x14 z_Tile).N)), .cell (((adr Aa).add ((x14).toNat * 4)).add 1) (iv ((rdD p0 x14 z_Tile).E)), .cell (((adr Aa).add ((x14).toNat * 4)).add 2) (iv ((rdD p0 x14 z_Tile).S)), .cell (((adr Aa).add ((x14).toNat * 4)).add 3) (iv ((rdD p0 x14 z_Tile).W))] (fun fb => by kernel_rfl) rfl ⟨rowR.adr (hS22.rd 0).1 h25.1 h25.2, rowR.cell (hS22.rd 0).1 z_Tile h25.1 h25.2 0 rfl, rowR.cell (hS22.rd 0).1 z_Tile h25.1 h25.2 1 rfl, rowR.cell (hS22.rd 0).1 z_Tile h25.1 h25.2 2 rfl, rowR.cell (hS22.rd 0).1 z_Tile h25.1 h25.2 3 rfl, trivial⟩ ?_
    refine WL.new hS22 8 [] (fun g => (pt g)) (.cells #[(iv 0), (iv 0), (iv 0), (iv 0)] 67 (0, 0)) [] (fun fb g => by kernel_rfl) trivial (fun g26 w27 hS28 => ?_)
    refine ⟨trivial, ?_⟩
    refine WL.store hS28 0 rfl [(0, (iv ((rdD p0 x14 z_Tile).N))), (1, (iv ((rdD p0 x14 z_Tile).E))), (2, (iv ((rdD p0 x14 z_Tile).S))), (3, (iv ((rdD p0 x14 z_Tile).W)))] #[(iv ((rdD p0 x14 z_Tile).N)), (iv ((rdD p0 x14 z_Tile).E)), (iv ((rdD p0 x14 z_Tile).S)), (iv ((rdD p0 x14 z_Tile).W))] (fun fb => by kernel_rfl) (by kernel_rfl) rfl [1] (by decide) (by decide) (fun w29 hS30 => ?_)
    refine ⟨trivial, ?_⟩
    refine WL.done rfl (WX.next ?_)
    refine WC.regionD ([(5, ⟨g26, 0, none⟩, (iv ((rdD p0 x14 z_Tile).N))), (5, ⟨g26, 1, none⟩, (iv ((rdD p0 x14 z_Tile).E))), (5, ⟨g26, 2, none⟩, (iv ((rdD p0 x14 z_Tile).S))), (5, ⟨g26, 3, none⟩, (iv ((rdD p0 x14 z_Tile).W)))], [0, 2, 3, 4, 5, 9], [[], [], [], [1, 2], [1, 2, 3], [], [1, 2, 3, 4, 5], [1, 2, 3, 4, 5, 6], [0, 1, 2, 3, 4, 5, 6, 7], [0, 1, 2, 3, 4, 5, 6, 7, 8]]) [[0, 2, 5, 1, 3, 4, 6, 7, 8, 9]] (by kernel_rfl) (by kernel_rfl) (NoPanic.block (NoPanic.seq (NoPanic.seq (NoPanic.block (NoPanic.seq (NoPanic.body)))))) ?_
    have hS32 := hS30.drew
    revert hS32
    generalize World.drew w29 = w31
    intro hS32
    refine ⟨⟨hS32.cell 0 rfl 0 rfl, hS32.cell 0 rfl 1 rfl, hS32.cell 0 rfl 2 rfl, hS32.cell 0 rfl 3 rfl, trivial⟩, forallC ?_ (forallN)⟩
    refine segF 3 [.v (iv ((rdD p0 x14 z_Tile).N)), .v (iv ((rdD p0 x14 z_Tile).E)), .v (iv ((rdD p0 x14 z_Tile).S)), .v (iv ((rdD p0 x14 z_Tile).W))] [1, 12, 13, 14, 18, 20, 23] [(1, (iv 0)), (12, (sv Aa p0 ca)), (13, (iv (p0.length : Int))), (14, (iv x14)), (18, (sv A11 l13 c12)), (20, (iv 0)), (23, (.agg #[(iv ((rdD p0 x14 z_Tile).N)), (iv ((rdD p0 x14 z_Tile).E)), (iv ((rdD p0 x14 z_Tile).S)), (iv ((rdD p0 x14 z_Tile).W))]))] [] [0, 1, 2, 3] [(5, ⟨g26, 0, none⟩, (iv ((rdD p0 x14 z_Tile).N))), (5, ⟨g26, 1, none⟩, (iv ((rdD p0 x14 z_Tile).E))), (5, ⟨g26, 2, none⟩, (iv ((rdD p0 x14 z_Tile).S))), (5, ⟨g26, 3, none⟩, (iv ((rdD p0 x14 z_Tile).W)))] (fun fb => by kernel_rfl) rfl trivial rfl ?_
    obtain ⟨t33, ht34, hl23⟩ := bind_some hl23
    refine WL.call (some 19) 34 #[] (fun fb => by kernel_rfl) (tile_changes_calls t33 _ ht34) (fun v w35 hR36 => ?_)
    obtain ⟨rfl, hk_⟩ := hR36
    have hS37 := hS32.keepN hk_
    refine ⟨⟨hS37.cell 0 rfl 0 rfl, hS37.cell 0 rfl 1 rfl, hS37.cell 0 rfl 2 rfl, hS37.cell 0 rfl 3 rfl, trivial⟩, ?_⟩
    refine seg 6 [] [1, 12, 13, 14, 18, 22, 23] [(1, (iv 0)), (12, (sv Aa p0 ca)), (13, (iv (p0.length : Int))), (14, (iv x14)), (18, (sv A11 l13 c12)), (22, (.func (.func 46) #[] #[])), (23, (.agg #[(iv ((rdD p0 x14 z_Tile).N)), (iv ((rdD p0 x14 z_Tile).E)), (iv ((rdD p0 x14 z_Tile).S)), (iv ((rdD p0 x14 z_Tile).W))]))] [] (fun fb => by kernel_rfl) rfl trivial ?_
    obtain ⟨t38, ht39, hl23⟩ := bind_some hl23
    refine WL.call (some 24) 46 #[(.agg #[(iv ((rdD p0 x14 z_Tile).N)), (iv ((rdD p0 x14 z_Tile).E)), (iv ((rdD p0 x14 z_Tile).S)), (iv ((rdD p0 x14 z_Tile).W))])] (fun fb => by kernel_rfl) (tile_changes_1_calls (rdD p0 x14 z_Tile) t38 _ ht39) (fun v w40 hR41 => ?_)
    obtain ⟨rfl, hk_⟩ := hR41
    have hS42 := hS37.keepN hk_
    refine ⟨trivial, ?_⟩
    refine WL.new hS42 25 [] (fun g => (.slice (some ⟨g, 0, none⟩) 1 1)) (.cells #[(iv t38.N), (iv t38.E), (iv t38.S), (iv t38.W)] 67 (0, 0)) [] (fun fb g => by kernel_rfl) trivial (fun g43 w44 hS45 => ?_)
    refine ⟨trivial, ?_⟩
    have hS46 := hS.go w44 [rowO 67 enc_Tile (some ⟨g43, 0, none⟩) 1 [t38], blk g26 (.cells #[(iv ((rdD p0 x14 z_Tile).N)), (iv ((rdD p0 x14 z_Tile).E)), (iv ((rdD p0 x14 z_Tile).S)), (iv ((rdD p0 x14 z_Tile).W))] 67 (0, 0)), rowO 67 enc_Tile A11 c12 l13] (hS45.map1 0 _ (fun h => rowO.ofBlk h rfl (Nat.le_of_ble_eq_true (by kernel_rfl))) (fun _ h => by obtain ⟨_, h1, h2⟩ := h; injection h1 with h1; subst h1; exact h2) [1, 2] (by decide) (by decide))
    obtain ⟨h47, hl23⟩ := as_some hl23
    refine WL.append hS46 2 (d := 26) (tS := 22) (z := (.agg #[(iv 0), (iv 0), (iv 0), (iv 0)])) (bytes := 32) (c2 := 1) rfl (fun fb => by kernel_rfl) (rowO.rd (hS46.own 0).1) (by kernel_rfl) (by kernel_rfl) rfl (by decide) h47 (by decide) [0, 1] (by decide) (by decide) (fun A48 c49 w50 hS51 => ?_)
    refine ⟨trivial, ?_⟩
    refine seg 10 [] [1, 6, 12, 13, 14] [(1, (iv 0)), (6, (sv A48 (l13 ++ [t38]) c49)), (12, (sv Aa p0 ca)), (13, (iv (p0.length : Int))), (14, (iv x14))] [] (fun fb => by kernel_rfl) rfl trivial ?_
    refine WL.done rfl ?_
    refine WX.blockN (WX.next ?_)
    refine WC.region ?_
    refine seg 2 [] [1, 6, 12, 13, 14] [(1, (iv 0)), (6, (sv A48 (l13 ++ [t38]) c49)), (12, (sv Aa p0 ca)), (13, (iv (p0.length : Int))), (14, (iv (w64 (x14 + 1))))] [] (fun fb => by kernel_rfl) rfl trivial ?_
    refine WL.done rfl ?_
    exact WX.again k19 (Nat.lt_succ_self _) ((l13 ++ [t38], w64 (x14 + 1)), A48, c49) [1, 6, 12, 13, 14] rfl ⟨(hS51.subR [0]).sub [0] (by decide), hl23⟩
   refine WC.condF2 (fun fb => by kernel_rfl) h24 ?_
   refine WC.exit ?_
   injection hl23 with hl23
   exact WX.thenX (WX.thenX (WX.blockHere (WX.to Kx17 (l13, A11, c12) [6] rfl ⟨(hS22.subR [0]).sub [0] (by decide), hl23.symm⟩)))
 rintro ⟨y55, A15, c16⟩ w52 ⟨hS53, hq54⟩
 subst hq54
 refine WX.next (WC.seq (WC.region ?_))
 refine seg 3 [] [4, 5] [(4, (sv A15 x17 c16)), (5, (iv 0))] [] (fun fb => by kernel_rfl) rfl trivial ?_
 refine WL.done rfl (WX.next ?_)
 refine WC.ret ?_
 injection hf with hf
 subst hf
 exact WX.ret_ [] (.tuple #[(sv A15 x17 c16), (iv 0)]) [] (fun fb => by kernel_rfl) trivial ⟨_, rfl, A15, c16, rfl, (hS53.sub [0] (by decide)).noR⟩
theorem tile_Mirror_calls (k : Nat) (p0 : List Tile) (Aa : Option Addr) (ca : Nat) (r : (List Tile) × Int) (w : World) (hR0 : RO NoS w (rowR enc_Tile Aa ca p0)) (hf : tile_Mirror k p0 = some r) :
  CallsR Tryz.prog 7 #[(sv Aa p0 ca)] w (fun v w' => ∃ (A1_ : Option Addr), ∃ (c1_ : Nat), v = (.tuple #[(sv A1_ r.1 c1_), (iv r.2)]) ∧ St NoS w w' [] [rowO 67 enc_Tile A1_ c1_ r.1]) := by
 have hS : St NoS w w [rowR enc_Tile Aa ca p0] [] := St.init (ro_cons hR0 (ro_nil _ _))
 refine enter 8 Tryz.func7 rfl Tryz.ntmps7 rfl ?_
 unfold tile_Mirror at hf
 refine WC.seq (WC.region ?_)
 refine seg 2 [] [0] [(0, (sv Aa p0 ca))] [] (fun fb => by kernel_rfl) rfl trivial ?_
 refine WL.done rfl (WX.next (WC.seq (WC.region ?_)))
 refine seg 1 [] [4] [(4, (sv Aa p0 ca))] [] (fun fb => by kernel_rfl) rfl trivial ?_
 obtain ⟨t3, ht4, hf⟩ := bind_some hf
 refine WL.call (some 5) 21 #[(sv Aa p0 ca), (iv 0)] (fun fb => by kernel_rfl) (tile_changed_at0_calls _ p0 Aa ca t3 _ (hS.rd 0) ht4) (fun v w5 hR6 => ?_)
 obtain ⟨A9, c10, rfl, hk_⟩ := hR6
 have hS8 := hS.go w5 [rowO 67 enc_Tile A9 c10 t3.1] (hS.call hk_ [] [] (fun g hg => hg.elim) (by simp) (by decide))
 refine ⟨trivial, ?_⟩
 refine seg 6 [] [2, 3] [(2, (sv A9 t3.1 c10)), (3, (iv t3.2))] [] (fun fb => by kernel_rfl) rfl trivial ?_
 refine WL.done rfl (WX.next ?_)
 refine WC.ret ?_
 injection hf with hf
 subst hf
 exact WX.ret_ [] (.tuple #[(sv A9 t3.1 c10), (iv t3.2)]) [] (fun fb => by kernel_rfl) trivial ⟨_, rfl, A9, c10, rfl, (hS8.sub [0] (by decide)).noR⟩
theorem tile_changes_3_calls (p0 : Tile)  (r : Tile) (w : World)  (hf : tile_changes_3 p0 = some r) :
  CallsR Tryz.prog 49 #[(.agg #[(iv p0.N), (iv p0.E), (iv p0.S), (iv p0.W)])] w (fun v w' => v = (.agg #[(iv r.N), (iv r.E), (iv r.S), (iv r.W)]) ∧ Keeps NoS w w') := by
 have hS : St NoS w w [] [] := St.init (ro_nil _ _)
 refine enter 12 Tryz.func49 rfl Tryz.ntmps49 rfl ?_
 unfold tile_changes_3 at hf
 refine WC.seq (WC.region ?_)
 refine WL.new hS 1 [] (fun g => (pt g)) (.cells #[(iv p0.N), (iv p0.E), (iv p0.S), (iv p0.W)] 67 (0, 0)) [] (fun fb g => by kernel_rfl) trivial (fun g1 w2 hS4 => ?_)
 refine ⟨trivial, ?_⟩
 refine WL.new hS4 2 [] (fun g => (pt g)) (.cells #[(iv 0), (iv 0), (iv 0), (iv 0)] 67 (0, 0)) [] (fun fb g => by kernel_rfl) trivial (fun g5 w6 hS7 => ?_)
 refine ⟨trivial, ?_⟩
 refine WL.done rfl (WX.next (WC.seq (WC.region ?_)))
 refine seg 9 [.v (iv p0.S), .v (iv p0.E), .v (iv p0.N), .v (iv p0.W)] [2, 11] [(2, (pt g5)), (11, (.agg #[(iv p0.S), (iv p0.E), (iv p0.N), (iv p0.W)]))] [.cell ⟨g1, 2, none⟩ (iv p0.S), .cell ⟨g1, 1, none⟩ (iv p0.E), .cell ⟨g1, 0, none⟩ (iv p0.N), .cell ⟨g1, 3, none⟩ (iv p0.W)] (fun fb => by kernel_rfl) rfl ⟨hS7.cell 1 rfl 2 rfl, hS7.cell 1 rfl 1 rfl, hS7.cell 1 rfl 0 rfl, hS7.cell 1 rfl 3 rfl, trivial⟩ ?_
 refine WL.store hS7 0 rfl [(0, (iv p0.S)), (1, (iv p0.E)), (2, (iv p0.N)), (3, (iv p0.W))] #[(iv p0.S), (iv p0.E), (iv p0.N), (iv p0.W)] (fun fb => by kernel_rfl) (by kernel_rfl) rfl [1] (by decide) (by decide) (fun w8 hS9 => ?_)
 refine ⟨trivial, ?_⟩
 refine WL.done rfl (WX.next ?_)
 refine WC.ret ?_
 injection hf with hf
 subst hf
 exact WX.ret_ [.v (iv p0.S), .v (iv p0.E), .v (iv p0.N), .v (iv p0.W)] (.agg #[(iv p0.S), (iv p0.E), (iv p0.N), (iv p0.W)]) [.cell ⟨g5, 0, none⟩ (iv p0.S), .cell ⟨g5, 1, none⟩ (iv p0.E), .cell ⟨g5, 2, none⟩ (iv p0.N), .cell ⟨g5, 3, none⟩ (iv p0.W)] (fun fb => by kernel_rfl) ⟨hS9.cell 0 rfl 0 rfl, hS9.cell 0 rfl 1 rfl, hS9.cell 0 rfl 2 rfl, hS9.cell 0 rfl 3 rfl, trivial⟩ ⟨_, rfl, rfl, hS9.keep⟩
theorem tile_changed_at1_calls (k : Nat) (p0 : List Tile) (Aa : Option Addr) (ca : Nat) (r : (List Tile) × Int) (w : World) (hR0 : RO NoS w (rowR enc_Tile Aa ca p0)) (hf : tile_changed_at1 k p0 = some r) :
  CallsR Tryz.prog 21 #[(sv Aa p0 ca), (iv 1)] w (fun v w' => ∃ (A1_ : Option Addr), ∃ (c1_ : Nat), v = (.tuple #[(sv A1_ r.1 c1_), (iv r.2)]) ∧ St NoS w w' [] [rowO 67 enc_Tile A1_ c1_ r.1]) := by
 have hS : St NoS w w [rowR enc_Tile Aa ca p0] [] := St.init (ro_cons hR0 (ro_nil _ _))
 refine enter 29 Tryz.func21 rfl Tryz.ntmps21 rfl ?_
 unfold tile_changed_at1 at hf
 refine WC.seq (WC.region ?_)
 refine seg 2 [] [0, 1] [(0, (sv Aa p0 ca)), (1, (iv 1))] [] (fun fb => by kernel_rfl) rfl trivial ?_
 refine WL.done rfl (WX.next (WC.seq (WC.seq (WC.region ?_))))
 refine seg 1 [] [0, 1, 9] [(0, (sv Aa p0 ca)), (1, (iv 1)), (9, (sv Aa p0 ca))] [] (fun fb => by kernel_rfl) rfl trivial ?_
 obtain ⟨t4, ht5, hf⟩ := bind_some hf
 refine WL.call (some 10) 28 #[(sv Aa p0 ca)] (fun fb => by kernel_rfl) (tile_Valid_calls _ p0 Aa ca t4 _ (hS.rd 0) ht5) (fun v w6 hR7 => ?_)
 obtain ⟨rfl, hk_⟩ := hR7
 have hS8 := hS.keepN hk_
 refine ⟨trivial, ?_⟩
 refine seg 3 [] [0, 1, 11] [(0, (sv Aa p0 ca)), (1, (iv 1)), (11, (bv (!t4)))] [] (fun fb => by kernel_rfl) rfl trivial ?_
 refine WL.done rfl (WX.next ?_)
 rcases br_some hf with ⟨h9, hf⟩ | ⟨h9, hf⟩
 ·refine WC.condT2 (fun fb => by kernel_rfl) h9 ?_
  refine WC.seq (WC.region ?_)
  refine seg 2 [] [4, 5] [(4, (.slice none 0 0)), (5, (iv 1))] [] (fun fb => by kernel_rfl) rfl trivial ?_
  refine WL.done rfl (WX.next ?_)
  refine WC.ret ?_
  have hS10 := hS8.nilrow 67 enc_Tile
  injection hf with hf
  subst hf
  exact WX.thenR (WX.ret_ [] (.tuple #[(sv none ([] : List Tile) 0), (iv 1)]) [] (fun fb => by kernel_rfl) trivial ⟨_, rfl, none, 0, rfl, (hS10.sub [0] (by decide)).noR⟩)
 refine WC.condF2 (fun fb => by kernel_rfl) h9 ?_
 refine WC.skip (WX.next (WC.seq (WC.region ?_)))
 refine seg 1 [] [0, 1, 6] [(0, (sv Aa p0 ca)), (1, (iv 1)), (6, (.slice none 0 0))] [] (fun fb => by kernel_rfl) rfl trivial ?_
 refine WL.done rfl (WX.next (WC.seq (WC.seq (WC.region ?_))))
 refine seg 3 [] [1, 6, 12, 13, 14] [(1, (iv 1)), (6, (.slice none 0 0)), (12, (sv Aa p0 ca)), (13, (iv (p0.length : Int))), (14, (iv 0))] [] (fun fb => by kernel_rfl) rfl trivial ?_
 refine WL.done rfl (WX.next ?_)
 have hS11 := hS8.nilrow 67 enc_Tile
 obtain ⟨x18, hx19, hf⟩ := bind_some hf
 refine WC.cutN (T := (List Tile) × (Option Addr) × Nat) (fun t => [(6, (sv t.2.1 t.1 t.2.2))]) (fun t w1 => St NoS w w1 [rowR enc_Tile Aa ca p0] [rowO 67 enc_Tile t.2.1 t.2.2 t.1] ∧ x18 = t.1) (fun Kx18 => ?_) ?_
 ·
  refine WC.block ?_
  refine WC.loop (T := ((List Tile) × Int) × (Option Addr) × Nat) (fun t => [(1, (iv 1)), (6, (sv t.2.1 t.1.1 t.2.2)), (12, (sv Aa p0 ca)), (13, (iv (p0.length : Int))), (14, (iv t.1.2))]) (fun n t w1 => St NoS w w1 [rowR enc_Tile Aa ca p0] [rowO 67 enc_Tile t.2.1 t.2.2 t.1.1] ∧ tile_changed_at1.l0 n t.1.1 t.1.2 p0 = some x18) k ((([] : List Tile), 0), none, 0) [1, 6, 12, 13, 14] rfl ⟨(hS11.subR [0]).sub [0] (by decide), hx19⟩ ?_
  rintro k20 ⟨⟨l14, x15⟩, A12, c13⟩ w22 ⟨hS23, hl24⟩
  cases k20 with
  | zero => rw [tile_changed_at1.l0] at hl24; cases hl24
  | succ k20 =>
   rw [tile_changed_at1.l0] at hl24
   refine WC.seq (WC.region ?_)
   refine seg 1 [] [1, 6, 12, 13, 14, 15] [(1, (iv 1)), (6, (sv A12 l14 c13)), (12, (sv Aa p0 ca)), (13, (iv (p0.length : Int))), (14, (iv x15)), (15, (bv (decide (x15 < (p0.length : Int)))))] [] (fun fb => by kernel_rfl) rfl trivial ?_
   refine WL.done rfl (WX.next (WC.seq ?_))
   rcases br_some hl24 with ⟨h25, hl24⟩ | ⟨h25, hl24⟩
   ·refine WC.condT2 (fun fb => by kernel_rfl) h25 ?_
    refine WC.skip (WX.next (WC.seq (WC.block (WC.seq (WC.region ?_)))))
    obtain ⟨h26, hl24⟩ := as_some hl24
    refine seg 2 [.v (iv ((rdD p0 x15 z_Tile).N)), .v (iv ((rdD p0 x15 z_Tile).E)), .v (iv ((rdD p0 x15 z_Tile).S)), .v (iv ((rdD p0 x15 z_Tile).W))] [1, 6, 12, 13, 14, 17] [(1, (iv 1)), (6, (sv A12 l14 c13)), (12, (sv Aa p0 ca)), (13, (iv (p0.length : Int))), (14, (iv x15)), (17, (.agg #[(iv ((rdD p0 x15 z_Tile).N)), (iv ((rdD p0 x15 z_Tile).E)), (iv ((rdD p0 x15 z_Tile).S)), (iv ((rdD p0 x15 z_Tile).W))]))] [.idx Aa x15 p0.length, .cell ((adr Aa).add ((x15).toNat * 4)) (iv ((rdD p0 x15 z_Tile).N)), .cell (((adr Aa).add ((x15).toNat * 4)).add 1) (iv ((rdD p0 x15 z_Tile).E)), .cell (((adr Aa).add ((x15).toNat * 4)).add 2) (iv ((rdD p0 x15 z_Tile).S)), .cell (((adr Aa).add ((x15).toNat * 4)).add 3) (iv ((rdD p0 x15 z_Tile).W))] (fun fb => by kernel_rfl) rfl ⟨rowR.adr (hS23.rd 0).1 h26.1 h26.2, rowR.cell (hS23.rd 0).1 z_Tile h26.1 h26.2 0 rfl, rowR.cell (hS23.rd 0).1 z_Tile h26.1 h26.2 1 rfl, rowR.cell (hS23.rd 0).1 z_Tile h26.1 h26.2 2 rfl, rowR.cell (hS23.rd 0).1 z_Tile h26.1 h26.2 3 rfl, trivial⟩ ?_
    refine WL.new hS23 8 [] (fun g => (pt g)) (.cells #[(iv 0), (iv 0), (iv 0), (iv 0)] 67 (0, 0)) [] (fun fb g => by kernel_rfl) trivial (fun g27 w28 hS29 => ?_)
    refine ⟨trivial, ?_⟩
    refine WL.store hS29 0 rfl [(0, (iv ((rdD p0 x15 z_Tile).N))), (1, (iv ((rdD p0 x15 z_Tile).E))), (2, (iv ((rdD p0 x15 z_Tile).S))), (3, (iv ((rdD p0 x15 z_Tile).W)))] #[(iv ((rdD p0 x15 z_Tile).N)), (iv ((rdD p0 x15 z_Tile).E)), (iv ((rdD p0 x15 z_Tile).S)), (iv ((rdD p0 x15 z_Tile).W))] (fun fb => by kernel_rfl) (by kernel_rfl) rfl [1] (by decide) (by decide) (fun w30 hS31 => ?_)
    refine ⟨trivial, ?_⟩
    refine WL.done rfl (WX.next ?_)
    refine WC.regionD ([(5, ⟨g27, 0, none⟩, (iv ((rdD p0 x15 z_Tile).N))), (5, ⟨g27, 1, none⟩, (iv ((rdD p0 x15 z_Tile).E))), (5, ⟨g27, 2, none⟩, (iv ((rdD p0 x15 z_Tile).S))), (5, ⟨g27, 3, none⟩, (iv ((rdD p0 x15 z_Tile).W)))], [0, 2, 3, 4, 5, 9], [[], [], [], [1, 2], [1, 2, 3], [], [1, 2, 3, 4, 5], [1, 2, 3, 4, 5, 6], [0, 1, 2, 3, 4, 5, 6, 7], [0, 1, 2, 3, 4, 5, 6, 7, 8]]) [[0, 2, 5, 1, 3, 4, 6, 7, 8, 9]] (by kernel_rfl) (by kernel_rfl) (NoPanic.block (NoPanic.seq (NoPanic.seq (NoPanic.block (NoPanic.seq (NoPanic.body)))))) ?_
    have hS33 := hS31.drew
    revert hS33
    generalize World.drew w30 = w32
    intro hS33
    refine ⟨⟨hS33.cell 0 rfl 0 rfl, hS33.cell 0 rfl 1 rfl, hS33.cell 0 rfl 2 rfl, hS33.cell 0 rfl 3 rfl, trivial⟩, forallC ?_ (forallN)⟩
    refine segF 3 [.v (iv ((rdD p0 x15 z_Tile).N)), .v (iv ((rdD p0 x15 z_Tile).E)), .v (iv ((rdD p0 x15 z_Tile).S)), .v (iv ((rdD p0 x15 z_Tile).W))] [1, 12, 13, 14, 18, 20, 23] [(1, (iv 1)), (12, (sv Aa p0 ca)), (13, (iv (p0.length : Int))), (14, (iv x15)), (18, (sv A12 l14 c13)), (20, (iv 1)), (23, (.agg #[(iv ((rdD p0 x15 z_Tile).N)), (iv ((rdD p0 x15 z_Tile).E)), (iv ((rdD p0 x15 z_Tile).S)), (iv ((rdD p0 x15 z_Tile).W))]))] [] [0, 1, 2, 3] [(5, ⟨g27, 0, none⟩, (iv ((rdD p0 x15 z_Tile).N))), (5, ⟨g27, 1, none⟩, (iv ((rdD p0 x15 z_Tile).E))), (5, ⟨g27, 2, none⟩, (iv ((rdD p0 x15 z_Tile).S))), (5, ⟨g27, 3, none⟩, (iv ((rdD p0 x15 z_Tile).W)))] (fun fb => by kernel_rfl) rfl trivial rfl ?_
    obtain ⟨t34, ht35, hl24⟩ := bind_some hl24
    refine WL.call (some 19) 34 #[] (fun fb => by kernel_rfl) (tile_changes_calls t34 _ ht35) (fun v w36 hR37 => ?_)
    obtain ⟨rfl, hk_⟩ := hR37
    have hS38 := hS33.keepN hk_
    refine ⟨⟨hS38.cell 0 rfl 0 rfl, hS38.cell 0 rfl 1 rfl, hS38.cell 0 rfl 2 rfl, hS38.cell 0 rfl 3 rfl, trivial⟩, ?_⟩
    refine seg 6 [] [1, 12, 13, 14, 18, 22, 23] [(1, (iv 1)), (12, (sv Aa p0 ca)), (13, (iv (p0.length : Int))), (14, (iv x15)), (18, (sv A12 l14 c13)), (22, (.func (.func 49) #[] #[])), (23, (.agg #[(iv ((rdD p0 x15 z_Tile).N)), (iv ((rdD p0 x15 z_Tile).E)), (iv ((rdD p0 x15 z_Tile).S)), (iv ((rdD p0 x15 z_Tile).W))]))] [] (fun fb => by kernel_rfl) rfl trivial ?_
    obtain ⟨t39, ht40, hl24⟩ := bind_some hl24
    refine WL.call (some 24) 49 #[(.agg #[(iv ((rdD p0 x15 z_Tile).N)), (iv ((rdD p0 x15 z_Tile).E)), (iv ((rdD p0 x15 z_Tile).S)), (iv ((rdD p0 x15 z_Tile).W))])] (fun fb => by kernel_rfl) (tile_changes_3_calls (rdD p0 x15 z_Tile) t39 _ ht40) (fun v w41 hR42 => ?_)
    obtain ⟨rfl, hk_⟩ := hR42
    have hS43 := hS38.keepN hk_
    refine ⟨trivial, ?_⟩
    refine WL.new hS43 25 [] (fun g => (.slice (some ⟨g, 0, none⟩) 1 1)) (.cells #[(iv t39.N), (iv t39.E), (iv t39.S), (iv t39.W)] 67 (0, 0)) [] (fun fb g => by kernel_rfl) trivial (fun g44 w45 hS46 => ?_)
    refine ⟨trivial, ?_⟩
    have hS47 := hS.go w45 [rowO 67 enc_Tile (some ⟨g44, 0, none⟩) 1 [t39], blk g27 (.cells #[(iv ((rdD p0 x15 z_Tile).N)), (iv ((rdD p0 x15 z_Tile).E)), (iv ((rdD p0 x15 z_Tile).S)), (iv ((rdD p0 x15 z_Tile).W))] 67 (0, 0)), rowO 67 enc_Tile A12 c13 l14] (hS46.map1 0 _ (fun h => rowO.ofBlk h rfl (Nat.le_of_ble_eq_true (by kernel_rfl))) (fun _ h => by obtain ⟨_, h1, h2⟩ := h; injection h1 with h1; subst h1; exact h2) [1, 2] (by decide) (by decide))
    obtain ⟨h48, hl24⟩ := as_some hl24
    refine WL.append hS47 2 (d := 26) (tS := 22) (z := (.agg #[(iv 0), (iv 0), (iv 0), (iv 0)])) (bytes := 32) (c2 := 1) rfl (fun fb => by kernel_rfl) (rowO.rd (hS47.own 0).1) (by kernel_rfl) (by kernel_rfl) rfl (by decide) h48 (by decide) [0, 1] (by decide) (by decide) (fun A49 c50 w51 hS52 => ?_)
    refine ⟨trivial, ?_⟩
    refine seg 10 [] [1, 6, 12, 13, 14] [(1, (iv 1)), (6, (sv A49 (l14 ++ [t39]) c50)), (12, (sv Aa p0 ca)), (13, (iv (p0.length : Int))), (14, (iv x15))] [] (fun fb => by kernel_rfl) rfl trivial ?_
    refine WL.done rfl ?_
    refine WX.blockN (WX.next ?_)
    refine WC.region ?_
    refine seg 2 [] [1, 6, 12, 13, 14] [(1, (iv 1)), (6, (sv A49 (l14 ++ [t39]) c50)), (12, (sv Aa p0 ca)), (13, (iv (p0.length : Int))), (14, (iv (w64 (x15 + 1))))] [] (fun fb => by kernel_rfl) rfl trivial ?_
    refine WL.done rfl ?_
    exact WX.again k20 (Nat.lt_succ_self _) ((l14 ++ [t39], w64 (x15 + 1)), A49, c50) [1, 6, 12, 13, 14] rfl ⟨(hS52.subR [0]).sub [0] (by decide), hl24⟩
   refine WC.condF2 (fun fb => by kernel_rfl) h25 ?_
   refine WC.exit ?_
   injection hl24 with hl24
   exact WX.thenX (WX.thenX (WX.blockHere (WX.to Kx18 (l14, A12, c13) [6] rfl ⟨(hS23.subR [0]).sub [0] (by decide), hl24.symm⟩)))
 rintro ⟨y56, A16, c17⟩ w53 ⟨hS54, hq55⟩
 subst hq55
 refine WX.next (WC.seq (WC.region ?_))
 refine seg 3 [] [4, 5] [(4, (sv A16 x18 c17)), (5, (iv 0))] [] (fun fb => by kernel_rfl) rfl trivial ?_
 refine WL.done rfl (WX.next ?_)
 refine WC.ret ?_
 injection hf with hf
 subst hf
 exact WX.ret_ [] (.tuple #[(sv A16 x18 c17), (iv 0)]) [] (fun fb => by kernel_rfl) trivial ⟨_, rfl, A16, c17, rfl, (hS54.sub [0] (by decide)).noR⟩
theorem tile_Upturn_calls (k : Nat) (p0 : List Tile) (Aa : Option Addr) (ca : Nat) (r : (List Tile) × Int) (w : World) (hR0 : RO NoS w (rowR enc_Tile Aa ca p0)) (hf : tile_Upturn k p0 = some r) :
  CallsR Tryz.prog 8 #[(sv Aa p0 ca)] w (fun v w' => ∃ (A1_ : Option Addr), ∃ (c1_ : Nat), v = (.tuple #[(sv A1_ r.1 c1_), (iv r.2)]) ∧ St NoS w w' [] [rowO 67 enc_Tile A1_ c1_ r.1]) := by
 have hS : St NoS w w [rowR enc_Tile Aa ca p0] [] := St.init (ro_cons hR0 (ro_nil _ _))
 refine enter 8 Tryz.func8 rfl Tryz.ntmps8 rfl ?_
 unfold tile_Upturn at hf
 refine WC.seq (WC.region ?_)
 refine seg 2 [] [0] [(0, (sv Aa p0 ca))] [] (fun fb => by kernel_rfl) rfl trivial ?_
 refine WL.done rfl (WX.next (WC.seq (WC.region ?_)))
 refine seg 1 [] [4] [(4, (sv Aa p0 ca))] [] (fun fb => by kernel_rfl) rfl trivial ?_
 obtain ⟨t3, ht4, hf⟩ := bind_some hf
 refine WL.call (some 5) 21 #[(sv Aa p0 ca), (iv 1)] (fun fb => by kernel_rfl) (tile_changed_at1_calls _ p0 Aa ca t3 _ (hS.rd 0) ht4) (fun v w5 hR6 => ?_)
 obtain ⟨A9, c10, rfl, hk_⟩ := hR6
 have hS7 := hS.go w5 [rowO 67 enc_Tile A9 c10 t3.1] (hS.call hk_ [] [] (fun g hg => hg.elim) (by simp) (by decide))
 refine ⟨trivial, ?_⟩
 refine seg 6 [] [2, 3] [(2, (sv A9 t3.1 c10)), (3, (iv t3.2))] [] (fun fb => by kernel_rfl) rfl trivial ?_
 refine WL.done rfl (WX.next ?_)
 refine WC.ret ?_
 injection hf with hf
 subst hf
 exact WX.ret_ [] (.tuple #[(sv A9 t3.1 c10), (iv t3.2)]) [] (fun fb => by kernel_rfl) trivial ⟨_, rfl, A9, c10, rfl, (hS7.sub [0] (by decide)).noR⟩
theorem tile_changes_5_calls (p0 : Tile)  (r : Tile) (w : World)  (hf : tile_changes_5 p0 = some r) :
  CallsR Tryz.prog 51 #[(.agg #[(iv p0.N), (iv p0.E), (iv p0.S), (iv p0.W)])] w (fun v w' => v = (.agg #[(iv r.N), (iv r.E), (iv r.S), (iv r.W)]) ∧ Keeps NoS w w') := by
 have hS : St NoS w w [] [] := St.init (ro_nil _ _)
 refine enter 12 Tryz.func51 rfl Tryz.ntmps51 rfl ?_
 unfold tile_changes_5 at hf
 refine WC.seq (WC.region ?_)
 refine WL.new hS 1 [] (fun g => (pt g)) (.cells #[(iv p0.N), (iv p0.E), (iv p0.S), (iv p0.W)] 67 (0, 0)) [] (fun fb g => by kernel_rfl) trivial (fun g1 w2 hS3 => ?_)
 refine ⟨trivial, ?_⟩
 refine WL.new hS3 2 [] (fun g => (pt g)) (.cells #[(iv 0), (iv 0), (iv 0), (iv 0)] 67 (0, 0)) [] (fun fb g => by kernel_rfl) trivial (fun g4 w6 hS7 => ?_)
 refine ⟨trivial, ?_⟩
 refine WL.done rfl (WX.next (WC.seq (WC.region ?_)))
 refine seg 9 [.v (iv p0.W), .v (iv p0.N), .v (iv p0.E), .v (iv p0.S)] [2, 11] [(2, (pt g4)), (11, (.agg #[(iv p0.W), (iv p0.N), (iv p0.E), (iv p0.S)]))] [.cell ⟨g1, 3, none⟩ (iv p0.W), .cell ⟨g1, 0, none⟩ (iv p0.N), .cell ⟨g1, 1, none⟩ (iv p0.E), .cell ⟨g1, 2, none⟩ (iv p0.S)] (fun fb => by kernel_rfl) rfl ⟨hS7.cell 1 rfl 3 rfl, hS7.cell 1 rfl 0 rfl, hS7.cell 1 rfl 1 rfl, hS7.cell 1 rfl 2 rfl, trivial⟩ ?_
 refine WL.store hS7 0 rfl [(0, (iv p0.W)), (1, (iv p0.N)), (2, (iv p0.E)), (3, (iv p0.S))] #[(iv p0.W), (iv p0.N), (iv p0.E), (iv p0.S)] (fun fb => by kernel_rfl) (by kernel_rfl) rfl [1] (by decide) (by decide) (fun w8 hS9 => ?_)
 refine ⟨trivial, ?_⟩
 refine WL.done rfl (WX.next ?_)
 refine WC.ret ?_
 injection hf with hf
 subst hf
 exact WX.ret_ [.v (iv p0.W), .v (iv p0.N), .v (iv p0.E), .v (iv p0.S)] (.agg #[(iv p0.W), (iv p0.N), (iv p0.E), (iv p0.S)]) [.cell ⟨g4, 0, none⟩ (iv p0.W), .cell ⟨g4, 1, none⟩ (iv p0.N), .cell ⟨g4, 2, none⟩ (iv p0.E), .cell ⟨g4, 3, none⟩ (iv p0.S)] (fun fb => by kernel_rfl) ⟨hS9.cell 0 rfl 0 rfl, hS9.cell 0 rfl 1 rfl, hS9.cell 0 rfl 2 rfl, hS9.cell 0 rfl 3 rfl, trivial⟩ ⟨_, rfl, rfl, hS9.keep⟩
theorem tile_changed_at2_calls (k : Nat) (p0 : List Tile) (Aa : Option Addr) (ca : Nat) (r : (List Tile) × Int) (w : World) (hR0 : RO NoS w (rowR enc_Tile Aa ca p0)) (hf : tile_changed_at2 k p0 = some r) :
  CallsR Tryz.prog 21 #[(sv Aa p0 ca), (iv 2)] w (fun v w' => ∃ (A1_ : Option Addr), ∃ (c1_ : Nat), v = (.tuple #[(sv A1_ r.1 c1_), (iv r.2)]) ∧ St NoS w w' [] [rowO 67 enc_Tile A1_ c1_ r.1]) := by
 have hS : St NoS w w [rowR enc_Tile Aa ca p0] [] := St.init (ro_cons hR0 (ro_nil _ _))
 refine enter 29 Tryz.func21 rfl Tryz.ntmps21 rfl ?_
 unfold tile_changed_at2 at hf
 refine WC.seq (WC.region ?_)
 refine seg 2 [] [0, 1] [(0, (sv Aa p0 ca)), (1, (iv 2))] [] (fun fb => by kernel_rfl) rfl trivial ?_
 refine WL.done rfl (WX.next (WC.seq (WC.seq (WC.region ?_))))
 refine seg 1 [] [0, 1, 9] [(0, (sv Aa p0 ca)), (1, (iv 2)), (9, (sv Aa p0 ca))] [] (fun fb => by kernel_rfl) rfl trivial ?_
 obtain ⟨t3, ht4, hf⟩ := bind_some hf
 refine WL.call (some 10) 28 #[(sv Aa p0 ca)] (fun fb => by kernel_rfl) (tile_Valid_calls _ p0 Aa ca t3 _ (hS.rd 0) ht4) (fun v w6 hR7 => ?_)
 obtain ⟨rfl, hk_⟩ := hR7
 have hS8 := hS.keepN hk_
 refine ⟨trivial, ?_⟩
 refine seg 3 [] [0, 1, 11] [(0, (sv Aa p0 ca)), (1, (iv 2)), (11, (bv (!t3)))] [] (fun fb => by kernel_rfl) rfl trivial ?_
 refine WL.done rfl (WX.next ?_)
 rcases br_some hf with ⟨h9, hf⟩ | ⟨h9, hf⟩
 ·refine WC.condT2 (fun fb => by kernel_rfl) h9 ?_
  refine WC.seq (WC.region ?_)
  refine seg 2 [] [4, 5] [(4, (.slice none 0 0)), (5, (iv 1))] [] (fun fb => by kernel_rfl) rfl trivial ?_
  refine WL.done rfl (WX.next ?_)
  refine WC.ret ?_
  have hS10 := hS8.nilrow 67 enc_Tile
  injection hf with hf
  subst hf
  exact WX.thenR (WX.ret_ [] (.tuple #[(sv none ([] : List Tile) 0), (iv 1)]) [] (fun fb => by kernel_rfl) trivial ⟨_, rfl, none, 0, rfl, (hS10.sub [0] (by decide)).noR⟩)
 refine WC.condF2 (fun fb => by kernel_rfl) h9 ?_
 refine WC.skip (WX.next (WC.seq (WC.region ?_)))
 refine seg 1 [] [0, 1, 6] [(0, (sv Aa p0 ca)), (1, (iv 2)), (6, (.slice none 0 0))] [] (fun fb => by kernel_rfl) rfl trivial ?_
 refine WL.done rfl (WX.next (WC.seq (WC.seq (WC.region ?_))))
 refine seg 3 [] [1, 6, 12, 13, 14] [(1, (iv 2)), (6, (.slice none 0 0)), (12, (sv Aa p0 ca)), (13, (iv (p0.length : Int))), (14, (iv 0))] [] (fun fb => by kernel_rfl) rfl trivial ?_
 refine WL.done rfl (WX.next ?_)
 have hS11 := hS8.nilrow 67 enc_Tile
 obtain ⟨x18, hx19, hf⟩ := bind_some hf
 refine WC.cutN (T := (List Tile) × (Option Addr) × Nat) (fun t => [(6, (sv t.2.1 t.1 t.2.2))]) (fun t w1 => St NoS w w1 [rowR enc_Tile Aa ca p0] [rowO 67 enc_Tile t.2.1 t.2.2 t.1] ∧ x18 = t.1) (fun Kx18 => ?_) ?_
 ·
  refine WC.block ?_
  refine WC.loop (T := ((List Tile) × Int) × (Option Addr) × Nat) (fun t => [(1, (iv 2)), (6, (sv t.2.1 t.1.1 t.2.2)), (12, (sv Aa p0 ca)), (13, (iv (p0.length : Int))), (14, (iv t.1.2))]) (fun n t w1 => St NoS w w1 [rowR enc_Tile Aa ca p0] [rowO 67 enc_Tile t.2.1 t.2.2 t.1.1] ∧ tile_changed_at2.l0 n t.1.1 t.1.2 p0 = some x18) k ((([] : List Tile), 0), none, 0) [1, 6, 12, 13, 14] rfl ⟨(hS11.subR [0]).sub [0] (by decide), hx19⟩ ?_
  rintro k20 ⟨⟨l14, x15⟩, A12, c13⟩ w22 ⟨hS23, hl24⟩
  cases k20 with
  | zero => rw [tile_changed_at2.l0] at hl24; cases hl24
  | succ k20 =>
   rw [tile_changed_at2.l0] at hl24
   refine WC.seq (WC.region ?_)
   refine seg 1 [] [1, 6, 12, 13, 14, 15] [(1, (iv 2)), (6, (sv A12 l14 c13)), (12, (sv Aa p0 ca)), (13, (iv (p0.length : Int))), (14, (iv x15)), (15, (bv (decide (x15 < (p0.length : Int)))))] [] (fun fb => by kernel_rfl) rfl trivial ?_
   refine WL.done rfl (WX.next (WC.seq ?_))
   rcases br_some hl24 with ⟨h25, hl24⟩ | ⟨h25, hl24⟩
   ·refine WC.condT2 (fun fb => by kernel_rfl) h25 ?_
    refine WC.skip (WX.next (WC.seq (WC.block (WC.seq (WC.region ?_)))))
    obtain ⟨h26, hl24⟩ := as_some hl24
    refine seg 2 [.v (iv ((rdD p0 x15 z_Tile).N)), .v (iv ((rdD p0 x15 z_Tile).E)), .v (iv ((rdD p0 x15 z_Tile).S)), .v (iv ((rdD p0 x15 z_Tile).W))] [1, 6, 12, 13, 14, 17] [(1, (iv 2)), (6, (sv A12 l14 c13)), (12, (sv Aa p0 ca)), (13, (iv (p0.length : Int))), (14, (iv x15)), (17, (.agg #[(iv ((rdD p0 x15 z_Tile).N)), (iv ((rdD p0 x15 z_Tile).E)), (iv ((rdD p0 x15 z_Tile).S)), (iv ((rdD p0 x15 z_Tile).W))]))] [.idx Aa x15 p0.length, .cell ((adr Aa).add ((x15).toNat * 4)) (iv ((rdD p0 x15 z_Tile).N)), .cell (((adr Aa).add ((x15).toNat * 4)).add 1) (iv ((rdD p0 x15 z_Tile).E)), .cell (((adr Aa).add ((x15).toNat * 4)).add 2) (iv ((rdD p0 x15 z_Tile).S)), .cell (((adr Aa).add ((x15).toNat * 4)).add 3) (iv ((rdD p0 x15 z_Tile).W))] (fun fb => by kernel_rfl) rfl ⟨rowR.adr (hS23.rd 0).1 h26.1 h26.2, rowR.cell (hS23.rd 0).1 z_Tile h26.1 h26.2 0 rfl, rowR.cell (hS23.rd 0).1 z_Tile h26.1 h26.2 1 rfl, rowR.cell (hS23.rd 0).1 z_Tile h26.1 h26.2 2 rfl, rowR.cell (hS23.rd 0).1 z_Tile h26.1 h26.2 3 rfl, trivial⟩ ?_
    refine WL.new hS23 8 [] (fun g => (pt g)) (.cells #[(iv 0), (iv 0), (iv 0), (iv 0)] 67 (0, 0)) [] (fun fb g => by kernel_rfl) trivial (fun g27 w28 hS29 => ?_)
    refine ⟨trivial, ?_⟩
    refine WL.store hS29 0 rfl [(0, (iv ((rdD p0 x15 z_Tile).N))), (1, (iv ((rdD p0 x15 z_Tile).E))), (2, (iv ((rdD p0 x15 z_Tile).S))), (3, (iv ((rdD p0 x15 z_Tile).W)))] #[(iv ((rdD p0 x15 z_Tile).N)), (iv ((rdD p0 x15 z_Tile).E)), (iv ((rdD p0 x15 z_Tile).S)), (iv ((rdD p0 x15 z_Tile).W))] (fun fb => by kernel_rfl) (by kernel_rfl) rfl [1] (by decide) (by decide) (fun w30 hS31 => ?_)
    refine ⟨trivial, ?_⟩
    refine WL.done rfl (WX.next ?_)
    refine WC.regionD ([(5, ⟨g27, 0, none⟩, (iv ((rdD p0 x15 z_Tile).N))), (5, ⟨g27, 1, none⟩, (iv ((rdD p0 x15 z_Tile).E))), (5, ⟨g27, 2, none⟩, (iv ((rdD p0 x15 z_Tile).S))), (5, ⟨g27, 3, none⟩, (iv ((rdD p0 x15 z_Tile).W)))], [0, 2, 3, 4, 5, 9], [[], [], [], [1, 2], [1, 2, 3], [], [1, 2, 3, 4, 5], [1, 2, 3, 4, 5, 6], [0, 1, 2, 3, 4, 5, 6, 7], [0, 1, 2, 3, 4, 5, 6, 7, 8]]) [[0, 2, 5, 1, 3, 4, 6, 7, 8, 9]] (by kernel_rfl) (by kernel_rfl) (NoPanic.block (NoPanic.seq (NoPanic.seq (NoPanic.block (NoPanic.seq (NoPanic.body)))))) ?_
    have hS33 := hS31.drew
    revert hS33
    generalize World.drew w30 = w32
    intro hS33
    refine ⟨⟨hS33.cell 0 rfl 0 rfl, hS33.cell 0 rfl 1 rfl, hS33.cell 0 rfl 2 rfl, hS33.cell 0 rfl 3 rfl, trivial⟩, forallC ?_ (forallN)⟩
    refine segF 3 [.v (iv ((rdD p0 x15 z_Tile).N)), .v (iv ((rdD p0 x15 z_Tile).E)), .v (iv ((rdD p0 x15 z_Tile).S)), .v (iv ((rdD p0 x15 z_Tile).W))] [1, 12, 13, 14, 18, 20, 23] [(1, (iv 2)), (12, (sv Aa p0 ca)), (13, (iv (p0.length : Int))), (14, (iv x15)), (18, (sv A12 l14 c13)), (20, (iv 2)), (23, (.agg #[(iv ((rdD p0 x15 z_Tile).N)), (iv ((rdD p0 x15 z_Tile).E)), (iv ((rdD p0 x15 z_Tile).S)), (iv ((rdD p0 x15 z_Tile).W))]))] [] [0, 1, 2, 3] [(5, ⟨g27, 0, none⟩, (iv ((rdD p0 x15 z_Tile).N))), (5, ⟨g27, 1, none⟩, (iv ((rdD p0 x15 z_Tile).E))), (5, ⟨g27, 2, none⟩, (iv ((rdD p0 x15 z_Tile).S))), (5, ⟨g27, 3, none⟩, (iv ((rdD p0 x15 z_Tile).W)))] (fun fb => by kernel_rfl) rfl trivial rfl ?_
    obtain ⟨t34, ht35, hl24⟩ := bind_some hl24
    refine WL.call (some 19) 34 #[] (fun fb => by kernel_rfl) (tile_changes_calls t34 _ ht35) (fun v w36 hR37 => ?_)
    obtain ⟨rfl, hk_⟩ := hR37
    have hS38 := hS33.keepN hk_
    refine ⟨⟨hS38.cell 0 rfl 0 rfl, hS38.cell 0 rfl 1 rfl, hS38.cell 0 rfl 2 rfl, hS38.cell 0 rfl 3 rfl, trivial⟩, ?_⟩
    refine seg 6 [] [1, 12, 13, 14, 18, 22, 23] [(1, (iv 2)), (12, (sv Aa p0 ca)), (13, (iv (p0.length : Int))), (14, (iv x15)), (18, (sv A12 l14 c13)), (22, (.func (.func 51) #[] #[])), (23, (.agg #[(iv ((rdD p0 x15 z_Tile).N)), (iv ((rdD p0 x15 z_Tile).E)), (iv ((rdD p0 x15 z_Tile).S)), (iv ((rdD p0 x15 z_Tile).W))]))] [] (fun fb => by kernel_rfl) rfl trivial ?_
    obtain ⟨t39, ht40, hl24⟩ := bind_some hl24
    refine WL.call (some 24) 51 #[(.agg #[(iv ((rdD p0 x15 z_Tile).N)), (iv ((rdD p0 x15 z_Tile).E)), (iv ((rdD p0 x15 z_Tile).S)), (iv ((rdD p0 x15 z_Tile).W))])] (fun fb => by kernel_rfl) (tile_changes_5_calls (rdD p0 x15 z_Tile) t39 _ ht40) (fun v w41 hR42 => ?_)
    obtain ⟨rfl, hk_⟩ := hR42
    have hS43 := hS38.keepN hk_
    refine ⟨trivial, ?_⟩
    refine WL.new hS43 25 [] (fun g => (.slice (some ⟨g, 0, none⟩) 1 1)) (.cells #[(iv t39.N), (iv t39.E), (iv t39.S), (iv t39.W)] 67 (0, 0)) [] (fun fb g => by kernel_rfl) trivial (fun g44 w45 hS46 => ?_)
    refine ⟨trivial, ?_⟩
    have hS47 := hS.go w45 [rowO 67 enc_Tile (some ⟨g44, 0, none⟩) 1 [t39], blk g27 (.cells #[(iv ((rdD p0 x15 z_Tile).N)), (iv ((rdD p0 x15 z_Tile).E)), (iv ((rdD p0 x15 z_Tile).S)), (iv ((rdD p0 x15 z_Tile).W))] 67 (0, 0)), rowO 67 enc_Tile A12 c13 l14] (hS46.map1 0 _ (fun h => rowO.ofBlk h rfl (Nat.le_of_ble_eq_true (by kernel_rfl))) (fun _ h => by obtain ⟨_, h1, h2⟩ := h; injection h1 with h1; subst h1; exact h2) [1, 2] (by decide) (by decide))
    obtain ⟨h48, hl24⟩ := as_some hl24
    refine WL.append hS47 2 (d := 26) (tS := 22) (z := (.agg #[(iv 0), (iv 0), (iv 0), (iv 0)])) (bytes := 32) (c2 := 1) rfl (fun fb => by kernel_rfl) (rowO.rd (hS47.own 0).1) (by kernel_rfl) (by kernel_rfl) rfl (by decide) h48 (by decide) [0, 1] (by decide) (by decide) (fun A49 c50 w51 hS52 => ?_)
    refine ⟨trivial, ?_⟩
    refine seg 10 [] [1, 6, 12, 13, 14] [(1, (iv 2)), (6, (sv A49 (l14 ++ [t39]) c50)), (12, (sv Aa p0 ca)), (13, (iv (p0.length : Int))), (14, (iv x15))] [] (fun fb => by kernel_rfl) rfl trivial ?_
    refine WL.done rfl ?_
    refine WX.blockN (WX.next ?_)
    refine WC.region ?_
    refine seg 2 [] [1, 6, 12, 13, 14] [(1, (iv 2)), (6, (sv A49 (l14 ++ [t39]) c50)), (12, (sv Aa p0 ca)), (13, (iv (p0.length : Int))), (14, (iv (w64 (x15 + 1))))] [] (fun fb => by kernel_rfl) rfl trivial ?_
    refine WL.done rfl ?_
    exact WX.again k20 (Nat.lt_succ_self _) ((l14 ++ [t39], w64 (x15 + 1)), A49, c50) [1, 6, 12, 13, 14] rfl ⟨(hS52.subR [0]).sub [0] (by decide), hl24⟩
   refine WC.condF2 (fun fb => by kernel_rfl) h25 ?_
   refine WC.exit ?_
   injection hl24 with hl24
   exact WX.thenX (WX.thenX (WX.blockHere (WX.to Kx18 (l14, A12, c13) [6] rfl ⟨(hS23.subR [0]).sub [0] (by decide), hl24.symm⟩)))
 rintro ⟨y56, A16, c17⟩ w53 ⟨hS54, hq55⟩
 subst hq55
 refine WX.next (WC.seq (WC.region ?_))
 refine seg 3 [] [4, 5] [(4, (sv A16 x18 c17)), (5, (iv 0))] [] (fun fb => by kernel_rfl) rfl trivial ?_
 refine WL.done rfl (WX.next ?_)
 refine WC.ret ?_
 injection hf with hf
 subst hf
 exact WX.ret_ [] (.tuple #[(sv A16 x18 c17), (iv 0)]) [] (fun fb => by kernel_rfl) trivial ⟨_, rfl, A16, c17, rfl, (hS54.sub [0] (by decide)).noR⟩
theorem tile_Turn_calls (k : Nat) (p0 : List Tile) (Aa : Option Addr) (ca : Nat) (r : (List Tile) × Int) (w : World) (hR0 : RO NoS w (rowR enc_Tile Aa ca p0)) (hf : tile_Turn k p0 = some r) :
  CallsR Tryz.prog 9 #[(sv Aa p0 ca)] w (fun v w' => ∃ (A1_ : Option Addr), ∃ (c1_ : Nat), v = (.tuple #[(sv A1_ r.1 c1_), (iv r.2)]) ∧ St NoS w w' [] [rowO 67 enc_Tile A1_ c1_ r.1]) := by
 have hS : St NoS w w [rowR enc_Tile Aa ca p0] [] := St.init (ro_cons hR0 (ro_nil _ _))
 refine enter 8 Tryz.func9 rfl Tryz.ntmps9 rfl ?_
 unfold tile_Turn at hf
 refine WC.seq (WC.region ?_)
 refine seg 2 [] [0] [(0, (sv Aa p0 ca))] [] (fun fb => by kernel_rfl) rfl trivial ?_
 refine WL.done rfl (WX.next (WC.seq (WC.region ?_)))
 refine seg 1 [] [4] [(4, (sv Aa p0 ca))] [] (fun fb => by kernel_rfl) rfl trivial ?_
 obtain ⟨t3, ht4, hf⟩ := bind_some hf
 refine WL.call (some 5) 21 #[(sv Aa p0 ca), (iv 2)] (fun fb => by kernel_rfl) (tile_changed_at2_calls _ p0 Aa ca t3 _ (hS.rd 0) ht4) (fun v w5 hR6 => ?_)
 obtain ⟨A8, c10, rfl, hk_⟩ := hR6
 have hS7 := hS.go w5 [rowO 67 enc_Tile A8 c10 t3.1] (hS.call hk_ [] [] (fun g hg => hg.elim) (by simp) (by decide))
 refine ⟨trivial, ?_⟩
 refine seg 6 [] [2, 3] [(2, (sv A8 t3.1 c10)), (3, (iv t3.2))] [] (fun fb => by kernel_rfl) rfl trivial ?_
 refine WL.done rfl (WX.next ?_)
 refine WC.ret ?_
 injection hf with hf
 subst hf
 exact WX.ret_ [] (.tuple #[(sv A8 t3.1 c10), (iv t3.2)]) [] (fun fb => by kernel_rfl) trivial ⟨_, rfl, A8, c10, rfl, (hS7.sub [0] (by decide)).noR⟩
theorem law02_back_calls (k : Nat) (p0 : List Int) (Aa : Option Addr) (ca : Nat) (r : (List Int)) (w : World) (hR0 : RO NoS w (rowR encInt Aa ca p0)) (hf : law02_back k p0 = some r) :
  CallsR Tryz.prog 10 #[(sv Aa p0 ca)] w (fun v w' => ∃ (A1_ : Option Addr), ∃ (c1_ : Nat), v = (sv A1_ r c1_) ∧ St NoS w w' [] [rowO 3 encInt A1_ c1_ r]) := by
 have hS : St NoS w w [rowR encInt Aa ca p0] [] := St.init (ro_cons hR0 (ro_nil _ _))
 refine enter 20 Tryz.func10 rfl Tryz.ntmps10 rfl ?_
 unfold law02_back at hf
 refine WC.seq (WC.region ?_)
 refine seg 1 [] [0] [(0, (sv Aa p0 ca))] [] (fun fb => by kernel_rfl) rfl trivial ?_
 refine WL.done rfl (WX.next (WC.seq (WC.region ?_)))
 refine seg 1 [] [0, 3] [(0, (sv Aa p0 ca)), (3, (.slice none 0 0))] [] (fun fb => by kernel_rfl) rfl trivial ?_
 refine WL.done rfl (WX.next (WC.seq (WC.seq (WC.region ?_))))
 refine seg 4 [] [0, 3, 4] [(0, (sv Aa p0 ca)), (3, (.slice none 0 0)), (4, (iv (w64 ((p0.length : Int) - 1))))] [] (fun fb => by kernel_rfl) rfl trivial ?_
 refine WL.done rfl (WX.next ?_)
 have hS3 := hS.nilrow 3 encInt
 obtain ⟨x11, hx12, hf⟩ := bind_some hf
 refine WC.cutN (T := (List Int) × (Option Addr) × Nat) (fun t => [(3, (sv t.2.1 t.1 t.2.2))]) (fun t w1 => St NoS w w1 [rowR encInt Aa ca p0] [rowO 3 encInt t.2.1 t.2.2 t.1] ∧ x11 = t.1) (fun Kx11 => ?_) ?_
 ·
  refine WC.block ?_
  refine WC.loop (T := ((List Int) × Int) × (Option Addr) × Nat) (fun t => [(0, (sv Aa p0 ca)), (3, (sv t.2.1 t.1.1 t.2.2)), (4, (iv t.1.2))]) (fun n t w1 => St NoS w w1 [rowR encInt Aa ca p0] [rowO 3 encInt t.2.1 t.2.2 t.1.1] ∧ law02_back.l0 n t.1.1 t.1.2 p0 = some x11) k ((([] : List Int), w64 ((p0.length : Int) - 1)), none, 0) [0, 3, 4] rfl ⟨(hS3.subR [0]).sub [0] (by decide), hx12⟩ ?_
  rintro k13 ⟨⟨l6, x7⟩, A4, c5⟩ w14 ⟨hS15, hl16⟩
  cases k13 with
  | zero => rw [law02_back.l0] at hl16; cases hl16
  | succ k13 =>
   rw [law02_back.l0] at hl16
   refine WC.seq (WC.seq (WC.region ?_))
   refine seg 2 [] [0, 3, 4, 9] [(0, (sv Aa p0 ca)), (3, (sv A4 l6 c5)), (4, (iv x7)), (9, (bv (decide (x7 ≥ 0))))] [] (fun fb => by kernel_rfl) rfl trivial ?_
   refine WL.done rfl (WX.next ?_)
   rcases br_some hl16 with ⟨h17, hl16⟩ | ⟨h17, hl16⟩
   ·refine WC.condT2 (fun fb => by kernel_rfl) h17 ?_
    refine WC.skip (WX.next (WC.seq (WC.block (WC.region ?_))))
    refine seg 3 [] [0, 4, 12, 13, 14] [(0, (sv Aa p0 ca)), (4, (iv x7)), (12, (sv A4 l6 c5)), (13, (sv Aa p0 ca)), (14, (iv x7))] [] (fun fb => by kernel_rfl) rfl trivial ?_
    obtain ⟨h18, hl16⟩ := as_some hl16
    refine seg 5 [.v (iv (rdD p0 x7 0))] [0, 4, 12, 16] [(0, (sv Aa p0 ca)), (4, (iv x7)), (12, (sv A4 l6 c5)), (16, (iv (rdD p0 x7 0)))] [.idx Aa x7 p0.length, .cell ((adr Aa).add ((x7).toNat * 1)) (iv (rdD p0 x7 0))] (fun fb => by kernel_rfl) rfl ⟨rowR.adr (hS15.rd 0).1 h18.1 h18.2, rowR.cell (hS15.rd 0).1 0 h18.1 h18.2 0 rfl, trivial⟩ ?_
    refine WL.new hS15 17 [] (fun g => (.slice (some ⟨g, 0, none⟩) 1 1)) (.cells #[(iv (rdD p0 x7 0))] 3 (0, 0)) [] (fun fb g => by kernel_rfl) trivial (fun g19 w20 hS21 => ?_)
    refine ⟨trivial, ?_⟩
    have hS22 := hS.go w20 [rowO 3 encInt (some ⟨g19, 0, none⟩) 1 [(rdD p0 x7 0)], rowO 3 encInt A4 c5 l6] (hS21.map1 0 _ (fun h => rowO.ofBlk h rfl (Nat.le_of_ble_eq_true (by kernel_rfl))) (fun _ h => by obtain ⟨_, h1, h2⟩ := h; injection h1 with h1; subst h1; exact h2) [1] (by decide) (by decide))
    obtain ⟨h23, hl16⟩ := as_some hl16
    refine WL.append hS22 1 (d := 18) (tS := 23) (z := (iv 0)) (bytes := 8) (c2 := 1) rfl (fun fb => by kernel_rfl) (rowO.rd (hS22.own 0).1) (by kernel_rfl) (by kernel_rfl) rfl (by decide) h23 (by decide) [0] (by decide) (by decide) (fun A24 c25 w26 hS27 => ?_)
    refine ⟨trivial, ?_⟩
    refine seg 8 [] [0, 3, 4] [(0, (sv Aa p0 ca)), (3, (sv A24 (l6 ++ [(rdD p0 x7 0)]) c25)), (4, (iv x7))] [] (fun fb => by kernel_rfl) rfl trivial ?_
    refine WL.done rfl ?_
    refine WX.blockN (WX.next ?_)
    refine WC.region ?_
    refine seg 3 [] [0, 3, 4] [(0, (sv Aa p0 ca)), (3, (sv A24 (l6 ++ [(rdD p0 x7 0)]) c25)), (4, (iv (w64 (x7 - 1))))] [] (fun fb => by kernel_rfl) rfl trivial ?_
    refine WL.done rfl ?_
    exact WX.again k13 (Nat.lt_succ_self _) ((l6 ++ [(rdD p0 x7 0)], w64 (x7 - 1)), A24, c25) [0, 3, 4] rfl ⟨(hS27.subR [0]).sub [0] (by decide), hl16⟩
   refine WC.condF2 (fun fb => by kernel_rfl) h17 ?_
   refine WC.exit ?_
   injection hl16 with hl16
   exact WX.thenX (WX.thenX (WX.blockHere (WX.to Kx11 (l6, A4, c5) [3] rfl ⟨(hS15.subR [0]).sub [0] (by decide), hl16.symm⟩)))
 rintro ⟨y31, A8, c9⟩ w28 ⟨hS29, hq30⟩
 subst hq30
 refine WX.next (WC.seq (WC.region ?_))
 refine seg 2 [] [2] [(2, (sv A8 x11 c9))] [] (fun fb => by kernel_rfl) rfl trivial ?_
 refine WL.done rfl (WX.next ?_)
 refine WC.ret ?_
 injection hf with hf
 subst hf
 exact WX.ret_ [] (sv A8 x11 c9) [] (fun fb => by kernel_rfl) trivial ⟨_, rfl, A8, c9, rfl, (hS29.sub [0] (by decide)).noR⟩
theorem law02_FillTurned_calls (k : Nat) (p0 : List Tile) (p1 : Int) (p2 : Int) (p3 : Edges) (Aa : Option Addr) (ca : Nat) (Ab : Option Addr) (cb : Nat) (Ac : Option Addr) (cc : Nat) (Ad : Option Addr) (cd : Nat) (Ae : Option Addr) (ce : Nat) (mG : Int) (r : Bool) (w : World) (hR0 : RO NoS w (rowR enc_Tile Aa ca p0)) (hR1 : RO NoS w (rowR encInt Ab cb p3.North)) (hR2 : RO NoS w (rowR encInt Ac cc p3.East)) (hR3 : RO NoS w (rowR encInt Ad cd p3.South)) (hR4 : RO NoS w (rowR encInt Ae ce p3.West)) (hR5 : RO NoS w (cel ⟨2, 0, none⟩ (iv mG))) (hf : law02_FillTurned k p0 p1 p2 p3 = some r) :
  CallsR Tryz.prog 3 #[(sv Aa p0 ca), (iv p1), (iv p2), (.agg #[(sv Ab p3.North cb), (sv Ac p3.East cc), (sv Ad p3.South cd), (sv Ae p3.West ce)])] w (fun v w' => v = (bv r) ∧ Keeps NoS w w') := by
 have hS : St NoS w w [rowR enc_Tile Aa ca p0, rowR encInt Ab cb p3.North, rowR encInt Ac cc p3.East, rowR encInt Ad cd p3.South, rowR encInt Ae ce p3.West, cel ⟨2, 0, none⟩ (iv mG)] [] := St.init (ro_cons hR0 (ro_cons hR1 (ro_cons hR2 (ro_cons hR3 (ro_cons hR4 (ro_cons hR5 (ro_nil _ _)))))))
 refine enter 152 Tryz.func3 rfl Tryz.ntmps3 rfl ?_
 unfold law02_FillTurned at hf
 refine WC.seq (WC.region ?_)
 refine WL.new hS 7 [] (fun g => (pt g)) (.cells #[(sv Ab p3.North cb), (sv Ac p3.East cc), (sv Ad p3.South cd), (sv Ae p3.West ce)] 25 (0, 0)) [] (fun fb g => by kernel_rfl) trivial (fun g1 w2 hS3 => ?_)
 refine ⟨trivial, ?_⟩
 refine seg 2 [] [0, 1, 2, 7] [(0, (sv Aa p0 ca)), (1, (iv p1)), (2, (iv p2)), (7, (pt g1))] [] (fun fb => by kernel_rfl) rfl trivial ?_
 refine WL.done rfl (WX.next (WC.seq (WC.seq (WC.region ?_))))
 refine seg 4 [.v (sv Ab p3.North cb), .v (sv Ac p3.East cc), .v (sv Ad p3.South cd), .v (sv Ae p3.West ce)] [0, 1, 2, 7, 21, 22, 23, 24] [(0, (sv Aa p0 ca)), (1, (iv p1)), (2, (iv p2)), (7, (pt g1)), (21, (sv Aa p0 ca)), (22, (iv p1)), (23, (iv p2)), (24, (.agg #[(sv Ab p3.North cb), (sv Ac p3.East cc), (sv Ad p3.South cd), (sv Ae p3.West ce)]))] [.cell ⟨g1, 0, none⟩ (sv Ab p3.North cb), .cell ⟨g1, 1, none⟩ (sv Ac p3.East cc), .cell ⟨g1, 2, none⟩ (sv Ad p3.South cd), .cell ⟨g1, 3, none⟩ (sv Ae p3.West ce)] (fun fb => by kernel_rfl) rfl ⟨hS3.cell 0 rfl 0 rfl, hS3.cell 0 rfl 1 rfl, hS3.cell 0 rfl 2 rfl, hS3.cell 0 rfl 3 rfl, trivial⟩ ?_
 obtain ⟨t6, ht7, hf⟩ := bind_some hf
 refine WL.call (some 25) 4 #[(sv Aa p0 ca), (iv p1), (iv p2), (.agg #[(sv Ab p3.North cb), (sv Ac p3.East cc), (sv Ad p3.South cd), (sv Ae p3.West ce)])] (fun fb => by kernel_rfl) (law02_small_calls _ p0 p1 p2 p3 Aa ca Ab cb Ac cc Ad cd Ae ce t6 _ (hS3.rd 0) (hS3.rd 1) (hS3.rd 2) (hS3.rd 3) (hS3.rd 4) ht7) (fun v w8 hR9 => ?_)
 obtain ⟨rfl, hk_⟩ := hR9
 have hS10 := hS3.keepN hk_
 refine ⟨trivial, ?_⟩
 refine seg 6 [] [0, 1, 2, 7, 26] [(0, (sv Aa p0 ca)), (1, (iv p1)), (2, (iv p2)), (7, (pt g1)), (26, (bv (!t6)))] [] (fun fb => by kernel_rfl) rfl trivial ?_
 refine WL.done rfl (WX.next ?_)
 rcases br_some hf with ⟨h11, hf⟩ | ⟨h11, hf⟩
 ·refine WC.condT2 (fun fb => by kernel_rfl) h11 ?_
  refine WC.seq (WC.region ?_)
  obtain ⟨t12, ht13, hf⟩ := bind_some hf
  refine WL.call (some 27) 5 #[] (fun fb => by kernel_rfl) (law02_awake_calls _ mG t12 _ (hS10.rd 5) ht13) (fun v w14 hR15 => ?_)
  obtain ⟨rfl, hk_⟩ := hR15
  have hS16 := hS10.keepN hk_
  refine ⟨trivial, ?_⟩
  refine seg 2 [] [8] [(8, (bv t12))] [] (fun fb => by kernel_rfl) rfl trivial ?_
  refine WL.done rfl (WX.next ?_)
  refine WC.ret ?_
  injection hf with hf
  subst hf
  exact WX.thenR (WX.ret_ [] (bv t12) [] (fun fb => by kernel_rfl) trivial ⟨_, rfl, rfl, hS16.keep⟩)
 refine WC.condF2 (fun fb => by kernel_rfl) h11 ?_
 refine WC.skip (WX.next (WC.seq (WC.region ?_)))
 refine seg 4 [.v (sv Ab p3.North cb), .v (sv Ac p3.East cc), .v (sv Ad p3.South cd), .v (sv Ae p3.West ce)] [0, 1, 2, 7, 29, 30, 31, 32] [(0, (sv Aa p0 ca)), (1, (iv p1)), (2, (iv p2)), (7, (pt g1)), (29, (sv Aa p0 ca)), (30, (iv p1)), (31, (iv p2)), (32, (.agg #[(sv Ab p3.North cb), (sv Ac p3.East cc), (sv Ad p3.South cd), (sv Ae p3.West ce)]))] [.cell ⟨g1, 0, none⟩ (sv Ab p3.North cb), .cell ⟨g1, 1, none⟩ (sv Ac p3.East cc), .cell ⟨g1, 2, none⟩ (sv Ad p3.South cd), .cell ⟨g1, 3, none⟩ (sv Ae p3.West ce)] (fun fb => by kernel_rfl) rfl ⟨hS10.cell 0 rfl 0 rfl, hS10.cell 0 rfl 1 rfl, hS10.cell 0 rfl 2 rfl, hS10.cell 0 rfl 3 rfl, trivial⟩ ?_
 obtain ⟨t17, ht18, hf⟩ := bind_some hf
 refine WL.call (some 33) 6 #[(sv Aa p0 ca), (iv p1), (iv p2), (.agg #[(sv Ab p3.North cb), (sv Ac p3.East cc), (sv Ad p3.South cd), (sv Ae p3.West ce)])] (fun fb => by kernel_rfl) (fill_Count_calls _ p0 p1 p2 p3 Aa ca Ab cb Ac cc Ad cd Ae ce t17 _ (hS10.rd 0) (hS10.rd 1) (hS10.rd 2) (hS10.rd 3) (hS10.rd 4) ht18) (fun v w19 hR20 => ?_)
 obtain ⟨rfl, hk_⟩ := hR20
 have hS21 := hS10.keepN hk_
 refine ⟨trivial, ?_⟩
 refine seg 10 [] [0, 1, 2, 7, 9, 10] [(0, (sv Aa p0 ca)), (1, (iv p1)), (2, (iv p2)), (7, (pt g1)), (9, (iv t17.1)), (10, (iv t17.2))] [] (fun fb => by kernel_rfl) rfl trivial ?_
 refine WL.done rfl (WX.next (WC.seq (WC.region ?_)))
 refine seg 1 [] [0, 1, 2, 7, 9, 10, 37] [(0, (sv Aa p0 ca)), (1, (iv p1)), (2, (iv p2)), (7, (pt g1)), (9, (iv t17.1)), (10, (iv t17.2)), (37, (sv Aa p0 ca))] [] (fun fb => by kernel_rfl) rfl trivial ?_
 obtain ⟨t22, ht23, hf⟩ := bind_some hf
 refine WL.call (some 38) 7 #[(sv Aa p0 ca)] (fun fb => by kernel_rfl) (tile_Mirror_calls _ p0 Aa ca t22 _ (hS21.rd 0) ht23) (fun v w24 hR25 => ?_)
 obtain ⟨A27, c28, rfl, hk_⟩ := hR25
 have hS26 := hS.go w24 [rowO 67 enc_Tile A27 c28 t22.1, blk g1 (.cells #[(.slice Ab p3.North.length cb), (.slice Ac p3.East.length cc), (.slice Ad p3.South.length cd), (.slice Ae p3.West.length ce)] 25 (0, 0))] (hS21.call hk_ [] [0] (fun g hg => hg.elim) (by simp) (by decide))
 refine ⟨trivial, ?_⟩
 refine seg 7 [] [0, 1, 2, 7, 9, 10, 11, 12] [(0, (sv Aa p0 ca)), (1, (iv p1)), (2, (iv p2)), (7, (pt g1)), (9, (iv t17.1)), (10, (iv t17.2)), (11, (sv A27 t22.1 c28)), (12, (iv t22.2))] [] (fun fb => by kernel_rfl) rfl trivial ?_
 refine WL.done rfl (WX.next (WC.seq (WC.region ?_)))
 refine seg 1 [] [0, 1, 2, 7, 9, 10, 11, 12, 42] [(0, (sv Aa p0 ca)), (1, (iv p1)), (2, (iv p2)), (7, (pt g1)), (9, (iv t17.1)), (10, (iv t17.2)), (11, (sv A27 t22.1 c28)), (12, (iv t22.2)), (42, (sv Aa p0 ca))] [] (fun fb => by kernel_rfl) rfl trivial ?_
 obtain ⟨t29, ht30, hf⟩ := bind_some hf
 refine WL.call (some 43) 8 #[(sv Aa p0 ca)] (fun fb => by kernel_rfl) (tile_Upturn_calls _ p0 Aa ca t29 _ (hS26.rd 0) ht30) (fun v w31 hR32 => ?_)
 obtain ⟨A34, c35, rfl, hk_⟩ := hR32
 have hS33 := hS26.go w31 [rowO 67 enc_Tile A34 c35 t29.1, rowO 67 enc_Tile A27 c28 t22.1, blk g1 (.cells #[(.slice Ab p3.North.length cb), (.slice Ac p3.East.length cc), (.slice Ad p3.South.length cd), (.slice Ae p3.West.length ce)] 25 (0, 0))] (hS26.call hk_ [] [0, 1] (fun g hg => hg.elim) (by simp) (by decide))
 refine ⟨trivial, ?_⟩
 refine seg 7 [] [0, 1, 2, 7, 9, 10, 11, 12, 13, 14] [(0, (sv Aa p0 ca)), (1, (iv p1)), (2, (iv p2)), (7, (pt g1)), (9, (iv t17.1)), (10, (iv t17.2)), (11, (sv A27 t22.1 c28)), (12, (iv t22.2)), (13, (sv A34 t29.1 c35)), (14, (iv t29.2))] [] (fun fb => by kernel_rfl) rfl trivial ?_
 refine WL.done rfl (WX.next (WC.seq (WC.region ?_)))
 refine seg 1 [] [1, 2, 7, 9, 10, 11, 12, 13, 14, 47] [(1, (iv p1)), (2, (iv p2)), (7, (pt g1)), (9, (iv t17.1)), (10, (iv t17.2)), (11, (sv A27 t22.1 c28)), (12, (iv t22.2)), (13, (sv A34 t29.1 c35)), (14, (iv t29.2)), (47, (sv Aa p0 ca))] [] (fun fb => by kernel_rfl) rfl trivial ?_
 obtain ⟨t36, ht37, hf⟩ := bind_some hf
 refine WL.call (some 48) 9 #[(sv Aa p0 ca)] (fun fb => by kernel_rfl) (tile_Turn_calls _ p0 Aa ca t36 _ (hS33.rd 0) ht37) (fun v w38 hR39 => ?_)
 obtain ⟨A41, c42, rfl, hk_⟩ := hR39
 have hS40 := hS33.go w38 [rowO 67 enc_Tile A41 c42 t36.1, rowO 67 enc_Tile A34 c35 t29.1, rowO 67 enc_Tile A27 c28 t22.1, blk g1 (.cells #[(.slice Ab p3.North.length cb), (.slice Ac p3.East.length cc), (.slice Ad p3.South.length cd), (.slice Ae p3.West.length ce)] 25 (0, 0))] (hS33.call hk_ [] [0, 1, 2] (fun g hg => hg.elim) (by simp) (by decide))
 refine ⟨trivial, ?_⟩
 refine seg 7 [] [1, 2, 7, 9, 10, 11, 12, 13, 14, 15, 16] [(1, (iv p1)), (2, (iv p2)), (7, (pt g1)), (9, (iv t17.1)), (10, (iv t17.2)), (11, (sv A27 t22.1 c28)), (12, (iv t22.2)), (13, (sv A34 t29.1 c35)), (14, (iv t29.2)), (15, (sv A41 t36.1 c42)), (16, (iv t36.2))] [] (fun fb => by kernel_rfl) rfl trivial ?_
 refine WL.done rfl (WX.next (WC.seq (WC.seq (WC.region ?_))))
 refine seg 3 [] [1, 2, 7, 9, 10, 11, 13, 14, 15, 16, 53] [(1, (iv p1)), (2, (iv p2)), (7, (pt g1)), (9, (iv t17.1)), (10, (iv t17.2)), (11, (sv A27 t22.1 c28)), (13, (sv A34 t29.1 c35)), (14, (iv t29.2)), (15, (sv A41 t36.1 c42)), (16, (iv t36.2)), (53, (bv (t22.2 != 0)))] [] (fun fb => by kernel_rfl) rfl trivial ?_
 refine WL.cutV (T := Bool) 6 (fun t => [(56, (bv t)), (1, (iv p1)), (2, (iv p2)), (7, (pt g1)), (9, (iv t17.1)), (10, (iv t17.2)), (11, (sv A27 t22.1 c28)), (13, (sv A34 t29.1 c35)), (15, (sv A41 t36.1 c42)), (16, (iv t36.2))]) (fun t => ((t22.2 != 0) || (t29.2 != 0)) = t) (fun K => ?_) ?_
 ·
  rcases Bool.eq_false_or_eq_true (t22.2 != 0) with h43 | h43
  ·
   refine WL.setB 53 h43 rfl ?_
   refine seg 6 [] [1, 2, 7, 9, 10, 11, 13, 15, 16, 56] [(1, (iv p1)), (2, (iv p2)), (7, (pt g1)), (9, (iv t17.1)), (10, (iv t17.2)), (11, (sv A27 t22.1 c28)), (13, (sv A34 t29.1 c35)), (15, (sv A41 t36.1 c42)), (16, (iv t36.2)), (56, (bv true))] [] (fun fb => by kernel_rfl) rfl trivial ?_
   exact WL.toV K true [56, 1, 2, 7, 9, 10, 11, 13, 15, 16] rfl (by first | (rw [h43]; done) | (rw [h43]; rfl))
  refine WL.setB 53 h43 rfl ?_
  refine seg 6 [] [1, 2, 7, 9, 10, 11, 13, 15, 16, 56] [(1, (iv p1)), (2, (iv p2)), (7, (pt g1)), (9, (iv t17.1)), (10, (iv t17.2)), (11, (sv A27 t22.1 c28)), (13, (sv A34 t29.1 c35)), (15, (sv A41 t36.1 c42)), (16, (iv t36.2)), (56, (bv (t29.2 != 0)))] [] (fun fb => by kernel_rfl) rfl trivial ?_
  exact WL.toV K (t29.2 != 0) [56, 1, 2, 7, 9, 10, 11, 13, 15, 16] rfl (by first | (rw [h43]; done) | (rw [h43]; rfl))
 rintro b44 rfl
 refine seg 7 [] [1, 2, 7, 9, 10, 11, 13, 15, 16, 57] [(1, (iv p1)), (2, (iv p2)), (7, (pt g1)), (9, (iv t17.1)), (10, (iv t17.2)), (11, (sv A27 t22.1 c28)), (13, (sv A34 t29.1 c35)), (15, (sv A41 t36.1 c42)), (16, (iv t36.2)), (57, (bv ((t22.2 != 0) || (t29.2 != 0))))] [] (fun fb => by kernel_rfl) rfl trivial ?_
 refine WL.cutV (T := Bool) 10 (fun t => [(60, (bv t)), (1, (iv p1)), (2, (iv p2)), (7, (pt g1)), (9, (iv t17.1)), (10, (iv t17.2)), (11, (sv A27 t22.1 c28)), (13, (sv A34 t29.1 c35)), (15, (sv A41 t36.1 c42))]) (fun t => (((t22.2 != 0) || (t29.2 != 0)) || (t36.2 != 0)) = t) (fun K => ?_) ?_
 ·
  rcases Bool.eq_false_or_eq_true ((t22.2 != 0) || (t29.2 != 0)) with h45 | h45
  ·
   refine WL.setB 57 h45 rfl ?_
   refine seg 10 [] [1, 2, 7, 9, 10, 11, 13, 15, 60] [(1, (iv p1)), (2, (iv p2)), (7, (pt g1)), (9, (iv t17.1)), (10, (iv t17.2)), (11, (sv A27 t22.1 c28)), (13, (sv A34 t29.1 c35)), (15, (sv A41 t36.1 c42)), (60, (bv true))] [] (fun fb => by kernel_rfl) rfl trivial ?_
   exact WL.toV K true [60, 1, 2, 7, 9, 10, 11, 13, 15] rfl (by first | (rw [h45]; done) | (rw [h45]; rfl))
  refine WL.setB 57 h45 rfl ?_
  refine seg 10 [] [1, 2, 7, 9, 10, 11, 13, 15, 60] [(1, (iv p1)), (2, (iv p2)), (7, (pt g1)), (9, (iv t17.1)), (10, (iv t17.2)), (11, (sv A27 t22.1 c28)), (13, (sv A34 t29.1 c35)), (15, (sv A41 t36.1 c42)), (60, (bv (t36.2 != 0)))] [] (fun fb => by kernel_rfl) rfl trivial ?_
  exact WL.toV K (t36.2 != 0) [60, 1, 2, 7, 9, 10, 11, 13, 15] rfl (by first | (rw [h45]; done) | (rw [h45]; rfl))
 rintro b46 rfl
 refine WL.done rfl (WX.next ?_)
 rcases br_some hf with ⟨h47, hf⟩ | ⟨h47, hf⟩
 ·refine WC.condT2 (fun fb => by kernel_rfl) h47 ?_
  refine WC.seq (WC.region ?_)
  refine seg 1 [] [8] [(8, (bv false))] [] (fun fb => by kernel_rfl) rfl trivial ?_
  refine WL.done rfl (WX.next ?_)
  refine WC.ret ?_
  injection hf with hf
  subst hf
  exact WX.thenR (WX.ret_ [] (bv false) [] (fun fb => by kernel_rfl) trivial ⟨_, rfl, rfl, hS40.keep⟩)
 refine WC.condF2 (fun fb => by kernel_rfl) h47 ?_
 refine WC.skip (WX.next (WC.seq ?_))
 refine WC.regionD ([(4, ⟨g1, 0, none⟩, (sv Ab p3.North cb)), (7, ⟨g1, 3, none⟩, (sv Ae p3.West ce)), (9, ⟨g1, 2, none⟩, (sv Ad p3.South cd)), (12, ⟨g1, 1, none⟩, (sv Ac p3.East cc))], [0, 1, 2, 3, 4, 6, 7, 8, 9, 11, 12, 13, 15, 16, 17, 18, 19], [[], [], [], [], [3], [3, 4], [], [6], [], [8], [3, 4, 5, 8, 9], [], [11], [3, 4, 5, 6, 7, 8, 9, 10, 11, 12], [0, 1, 2, 3, 4, 5, 6, 7, 8, 9, 10, 11, 12, 13], [0, 1, 2, 3, 4, 5, 6, 7, 8, 9, 10, 11, 12, 13, 14], [0, 1, 2, 3, 4, 5, 6, 7, 8, 9, 10, 11, 12, 13, 14, 15], [0, 1, 2, 3, 4, 5, 6, 7, 8, 9, 10, 11, 12, 13, 14, 15], [0, 1, 2, 3, 4, 5, 6, 7, 8, 9, 10, 11, 12, 13, 14, 15, 16], [0, 1, 2, 3, 4, 5, 6, 7, 8, 9, 10, 11, 12, 13, 14, 15, 16, 17, 18]]) [[0, 1, 2, 3, 4, 6, 7, 8, 9, 11, 12, 5, 10, 13, 14, 15, 16, 17, 18, 19]] (by kernel_rfl) (by kernel_rfl) (NoPanic.seq (NoPanic.body)) ?_
 have hS49 := hS40.drew
 revert hS49
 generalize World.drew w38 = w48
 intro hS49
 refine ⟨⟨hS49.cell 3 rfl 0 rfl, hS49.cell 3 rfl 3 rfl, hS49.cell 3 rfl 2 rfl, hS49.cell 3 rfl 1 rfl, trivial⟩, forallC ?_ (forallN)⟩
 refine segF 11 [.v (sv Ab p3.North cb), .v (sv Ae p3.West ce), .v (sv Ad p3.South cd), .v (sv Ac p3.East cc)] [1, 2, 7, 9, 10, 13, 15, 62, 63, 64, 66, 69, 71, 74] [(1, (iv p1)), (2, (iv p2)), (7, (pt g1)), (9, (iv t17.1)), (10, (iv t17.2)), (13, (sv A34 t29.1 c35)), (15, (sv A41 t36.1 c42)), (62, (sv A27 t22.1 c28)), (63, (iv p1)), (64, (iv p2)), (66, (sv Ab p3.North cb)), (69, (sv Ae p3.West ce)), (71, (sv Ad p3.South cd)), (74, (sv Ac p3.East cc))] [] [0, 1, 2, 3] [(4, ⟨g1, 0, none⟩, (sv Ab p3.North cb)), (7, ⟨g1, 3, none⟩, (sv Ae p3.West ce)), (9, ⟨g1, 2, none⟩, (sv Ad p3.South cd)), (12, ⟨g1, 1, none⟩, (sv Ac p3.East cc))] (fun fb => by kernel_rfl) rfl trivial rfl ?_
 obtain ⟨t50, ht51, hf⟩ := bind_some hf
 refine WL.call (some 67) 10 #[(sv Ab p3.North cb)] (fun fb => by kernel_rfl) (law02_back_calls _ p3.North Ab cb t50 _ (hS49.rd 1) ht51) (fun v w52 hR53 => ?_)
 obtain ⟨A55, c56, rfl, hk_⟩ := hR53
 have hS54 := hS40.go w52 [rowO 3 encInt A55 c56 t50, rowO 67 enc_Tile A41 c42 t36.1, rowO 67 enc_Tile A34 c35 t29.1, rowO 67 enc_Tile A27 c28 t22.1, blk g1 (.cells #[(.slice Ab p3.North.length cb), (.slice Ac p3.East.length cc), (.slice Ad p3.South.length cd), (.slice Ae p3.West.length ce)] 25 (0, 0))] (hS49.call hk_ [] [0, 1, 2, 3] (fun g hg => hg.elim) (by simp) (by decide))
 refine ⟨⟨hS54.cell 4 rfl 3 rfl, hS54.cell 4 rfl 2 rfl, hS54.cell 4 rfl 1 rfl, trivial⟩, ?_⟩
 obtain ⟨t57, ht58, hf⟩ := bind_some hf
 refine WL.call (some 72) 10 #[(sv Ad p3.South cd)] (fun fb => by kernel_rfl) (law02_back_calls _ p3.South Ad cd t57 _ (hS54.rd 3) ht58) (fun v w59 hR60 => ?_)
 obtain ⟨A62, c63, rfl, hk_⟩ := hR60
 have hS61 := hS54.go w59 [rowO 3 encInt A62 c63 t57, rowO 3 encInt A55 c56 t50, rowO 67 enc_Tile A41 c42 t36.1, rowO 67 enc_Tile A34 c35 t29.1, rowO 67 enc_Tile A27 c28 t22.1, blk g1 (.cells #[(.slice Ab p3.North.length cb), (.slice Ac p3.East.length cc), (.slice Ad p3.South.length cd), (.slice Ae p3.West.length ce)] 25 (0, 0))] (hS54.call hk_ [] [0, 1, 2, 3, 4] (fun g hg => hg.elim) (by simp) (by decide))
 refine ⟨⟨hS61.cell 5 rfl 3 rfl, hS61.cell 5 rfl 1 rfl, trivial⟩, ?_⟩
 refine seg 14 [] [1, 2, 7, 9, 10, 13, 15, 62, 63, 64, 75] [(1, (iv p1)), (2, (iv p2)), (7, (pt g1)), (9, (iv t17.1)), (10, (iv t17.2)), (13, (sv A34 t29.1 c35)), (15, (sv A41 t36.1 c42)), (62, (sv A27 t22.1 c28)), (63, (iv p1)), (64, (iv p2)), (75, (.agg #[(sv A55 t50 c56), (sv Ae p3.West ce), (sv A62 t57 c63), (sv Ac p3.East cc)]))] [] (fun fb => by kernel_rfl) rfl trivial ?_
 obtain ⟨t65, ht66, hf⟩ := bind_some hf
 refine WL.call (some 76) 6 #[(sv A27 t22.1 c28), (iv p1), (iv p2), (.agg #[(sv A55 t50 c56), (sv Ae p3.West ce), (sv A62 t57 c63), (sv Ac p3.East cc)])] (fun fb => by kernel_rfl) (fill_Count_calls _ t22.1 p1 p2 (Edges.mk t50 p3.West t57 p3.East) A27 c28 A55 c56 Ae ce A62 c63 Ac cc t65 _ (hS61.ow 4).ofO (hS61.ow 1).ofO (hS61.rd 4) (hS61.ow 0).ofO (hS61.rd 2) ht66) (fun v w67 hR68 => ?_)
 obtain ⟨rfl, hk_⟩ := hR68
 have hS69 := hS61.keepN hk_
 refine ⟨trivial, ?_⟩
 refine seg 20 [] [1, 2, 7, 9, 10, 12, 13, 15, 17] [(1, (iv p1)), (2, (iv p2)), (7, (pt g1)), (9, (iv t17.1)), (10, (iv t17.2)), (12, (iv t65.2)), (13, (sv A34 t29.1 c35)), (15, (sv A41 t36.1 c42)), (17, (iv t65.1))] [] (fun fb => by kernel_rfl) rfl trivial ?_
 refine WL.done rfl (WX.next (WC.seq ?_))
 refine WC.regionD ([(4, ⟨g1, 2, none⟩, (sv Ad p3.South cd)), (6, ⟨g1, 1, none⟩, (sv Ac p3.East cc)), (9, ⟨g1, 0, none⟩, (sv Ab p3.North cb)), (11, ⟨g1, 3, none⟩, (sv Ae p3.West ce))], [0, 1, 2, 3, 4, 5, 6, 8, 9, 10, 11, 13, 15, 16, 17, 18, 19], [[], [], [], [], [3], [], [5], [5, 6], [], [8], [], [10], [5, 6, 7, 10, 11], [3, 4, 5, 6, 7, 8, 9, 10, 11, 12], [0, 1, 2, 3, 4, 5, 6, 7, 8, 9, 10, 11, 12, 13], [0, 1, 2, 3, 4, 5, 6, 7, 8, 9, 10, 11, 12, 13, 14], [0, 1, 2, 3, 4, 5, 6, 7, 8, 9, 10, 11, 12, 13, 14, 15], [0, 1, 2, 3, 4, 5, 6, 7, 8, 9, 10, 11, 12, 13, 14, 15], [0, 1, 2, 3, 4, 5, 6, 7, 8, 9, 10, 11, 12, 13, 14, 15, 16], [0, 1, 2, 3, 4, 5, 6, 7, 8, 9, 10, 11, 12, 13, 14, 15, 16, 17, 18]]) [[0, 1, 2, 3, 4, 5, 6, 8, 9, 10, 11, 7, 12, 13, 14, 15, 16, 17, 18, 19]] (by kernel_rfl) (by kernel_rfl) (NoPanic.seq (NoPanic.body)) ?_
 have hS71 := hS69.drew
 revert hS71
 generalize World.drew w67 = w70
 intro hS71
 refine ⟨⟨hS71.cell 5 rfl 2 rfl, hS71.cell 5 rfl 1 rfl, hS71.cell 5 rfl 0 rfl, hS71.cell 5 rfl 3 rfl, trivial⟩, forallC ?_ (forallN)⟩
 refine segF 11 [.v (sv Ad p3.South cd), .v (sv Ac p3.East cc), .v (sv Ab p3.North cb), .v (sv Ae p3.West ce)] [1, 2, 7, 9, 10, 12, 15, 17, 80, 81, 82, 84, 86, 89, 91] [(1, (iv p1)), (2, (iv p2)), (7, (pt g1)), (9, (iv t17.1)), (10, (iv t17.2)), (12, (iv t65.2)), (15, (sv A41 t36.1 c42)), (17, (iv t65.1)), (80, (sv A34 t29.1 c35)), (81, (iv p1)), (82, (iv p2)), (84, (sv Ad p3.South cd)), (86, (sv Ac p3.East cc)), (89, (sv Ab p3.North cb)), (91, (sv Ae p3.West ce))] [] [0, 1, 2, 3] [(4, ⟨g1, 2, none⟩, (sv Ad p3.South cd)), (6, ⟨g1, 1, none⟩, (sv Ac p3.East cc)), (9, ⟨g1, 0, none⟩, (sv Ab p3.North cb)), (11, ⟨g1, 3, none⟩, (sv Ae p3.West ce))] (fun fb => by kernel_rfl) rfl trivial rfl ?_
 obtain ⟨t72, ht73, hf⟩ := bind_some hf
 refine WL.call (some 87) 10 #[(sv Ac p3.East cc)] (fun fb => by kernel_rfl) (law02_back_calls _ p3.East Ac cc t72 _ (hS71.rd 2) ht73) (fun v w74 hR75 => ?_)
 obtain ⟨A77, c78, rfl, hk_⟩ := hR75
 have hS76 := hS61.go w74 [rowO 3 encInt A77 c78 t72, rowO 3 encInt A62 c63 t57, rowO 3 encInt A55 c56 t50, rowO 67 enc_Tile A41 c42 t36.1, rowO 67 enc_Tile A34 c35 t29.1, rowO 67 enc_Tile A27 c28 t22.1, blk g1 (.cells #[(.slice Ab p3.North.length cb), (.slice Ac p3.East.length cc), (.slice Ad p3.South.length cd), (.slice Ae p3.West.length ce)] 25 (0, 0))] (hS71.call hk_ [] [0, 1, 2, 3, 4, 5] (fun g hg => hg.elim) (by simp) (by decide))
 refine ⟨⟨hS76.cell 6 rfl 2 rfl, hS76.cell 6 rfl 0 rfl, hS76.cell 6 rfl 3 rfl, trivial⟩, ?_⟩
 obtain ⟨t79, ht80, hf⟩ := bind_some hf
 refine WL.call (some 92) 10 #[(sv Ae p3.West ce)] (fun fb => by kernel_rfl) (law02_back_calls _ p3.West Ae ce t79 _ (hS76.rd 4) ht80) (fun v w81 hR82 => ?_)
 obtain ⟨A84, c85, rfl, hk_⟩ := hR82
 have hS83 := hS76.go w81 [rowO 3 encInt A84 c85 t79, rowO 3 encInt A77 c78 t72, rowO 3 encInt A62 c63 t57, rowO 3 encInt A55 c56 t50, rowO 67 enc_Tile A41 c42 t36.1, rowO 67 enc_Tile A34 c35 t29.1, rowO 67 enc_Tile A27 c28 t22.1, blk g1 (.cells #[(.slice Ab p3.North.length cb), (.slice Ac p3.East.length cc), (.slice Ad p3.South.length cd), (.slice Ae p3.West.length ce)] 25 (0, 0))] (hS76.call hk_ [] [0, 1, 2, 3, 4, 5, 6] (fun g hg => hg.elim) (by simp) (by decide))
 refine ⟨⟨hS83.cell 7 rfl 2 rfl, hS83.cell 7 rfl 0 rfl, trivial⟩, ?_⟩
 refine seg 14 [] [1, 2, 7, 9, 10, 12, 15, 17, 80, 81, 82, 93] [(1, (iv p1)), (2, (iv p2)), (7, (pt g1)), (9, (iv t17.1)), (10, (iv t17.2)), (12, (iv t65.2)), (15, (sv A41 t36.1 c42)), (17, (iv t65.1)), (80, (sv A34 t29.1 c35)), (81, (iv p1)), (82, (iv p2)), (93, (.agg #[(sv Ad p3.South cd), (sv A77 t72 c78), (sv Ab p3.North cb), (sv A84 t79 c85)]))] [] (fun fb => by kernel_rfl) rfl trivial ?_
 obtain ⟨t86, ht87, hf⟩ := bind_some hf
 refine WL.call (some 94) 6 #[(sv A34 t29.1 c35), (iv p1), (iv p2), (.agg #[(sv Ad p3.South cd), (sv A77 t72 c78), (sv Ab p3.North cb), (sv A84 t79 c85)])] (fun fb => by kernel_rfl) (fill_Count_calls _ t29.1 p1 p2 (Edges.mk p3.South t72 p3.North t79) A34 c35 Ad cd A77 c78 Ab cb A84 c85 t86 _ (hS83.ow 5).ofO (hS83.rd 3) (hS83.ow 1).ofO (hS83.rd 1) (hS83.ow 0).ofO ht87) (fun v w88 hR89 => ?_)
 obtain ⟨rfl, hk_⟩ := hR89
 have hS90 := hS83.keepN hk_
 refine ⟨trivial, ?_⟩
 refine seg 20 [] [1, 2, 7, 9, 10, 12, 14, 15, 17, 18] [(1, (iv p1)), (2, (iv p2)), (7, (pt g1)), (9, (iv t17.1)), (10, (iv t17.2)), (12, (iv t65.2)), (14, (iv t86.2)), (15, (sv A41 t36.1 c42)), (17, (iv t65.1)), (18, (iv t86.1))] [] (fun fb => by kernel_rfl) rfl trivial ?_
 refine WL.done rfl (WX.next (WC.seq (WC.seq (WC.region ?_))))
 refine seg 4 [] [1, 2, 7, 9, 10, 14, 15, 17, 18, 100] [(1, (iv p1)), (2, (iv p2)), (7, (pt g1)), (9, (iv t17.1)), (10, (iv t17.2)), (14, (iv t86.2)), (15, (sv A41 t36.1 c42)), (17, (iv t65.1)), (18, (iv t86.1)), (100, (bv (t65.2 != t17.2)))] [] (fun fb => by kernel_rfl) rfl trivial ?_
 refine WL.cutV (T := Bool) 8 (fun t => [(104, (bv t)), (1, (iv p1)), (2, (iv p2)), (7, (pt g1)), (9, (iv t17.1)), (10, (iv t17.2)), (15, (sv A41 t36.1 c42)), (17, (iv t65.1)), (18, (iv t86.1))]) (fun t => ((t65.2 != t17.2) || (t86.2 != t17.2)) = t) (fun K => ?_) ?_
 ·
  rcases Bool.eq_false_or_eq_true (t65.2 != t17.2) with h91 | h91
  ·
   refine WL.setB 100 h91 rfl ?_
   refine seg 8 [] [1, 2, 7, 9, 10, 15, 17, 18, 104] [(1, (iv p1)), (2, (iv p2)), (7, (pt g1)), (9, (iv t17.1)), (10, (iv t17.2)), (15, (sv A41 t36.1 c42)), (17, (iv t65.1)), (18, (iv t86.1)), (104, (bv true))] [] (fun fb => by kernel_rfl) rfl trivial ?_
   exact WL.toV K true [104, 1, 2, 7, 9, 10, 15, 17, 18] rfl (by first | (rw [h91]; done) | (rw [h91]; rfl))
  refine WL.setB 100 h91 rfl ?_
  refine seg 8 [] [1, 2, 7, 9, 10, 15, 17, 18, 104] [(1, (iv p1)), (2, (iv p2)), (7, (pt g1)), (9, (iv t17.1)), (10, (iv t17.2)), (15, (sv A41 t36.1 c42)), (17, (iv t65.1)), (18, (iv t86.1)), (104, (bv (t86.2 != t17.2)))] [] (fun fb => by kernel_rfl) rfl trivial ?_
  exact WL.toV K (t86.2 != t17.2) [104, 1, 2, 7, 9, 10, 15, 17, 18] rfl (by first | (rw [h91]; done) | (rw [h91]; rfl))
 rintro b92 rfl
 refine seg 9 [] [1, 2, 7, 9, 10, 15, 17, 18, 105] [(1, (iv p1)), (2, (iv p2)), (7, (pt g1)), (9, (iv t17.1)), (10, (iv t17.2)), (15, (sv A41 t36.1 c42)), (17, (iv t65.1)), (18, (iv t86.1)), (105, (bv ((t65.2 != t17.2) || (t86.2 != t17.2))))] [] (fun fb => by kernel_rfl) rfl trivial ?_
 refine WL.cutV (T := Bool) 13 (fun t => [(109, (bv t)), (1, (iv p1)), (2, (iv p2)), (7, (pt g1)), (9, (iv t17.1)), (10, (iv t17.2)), (15, (sv A41 t36.1 c42)), (18, (iv t86.1))]) (fun t => (((t65.2 != t17.2) || (t86.2 != t17.2)) || (t65.1 != t17.1)) = t) (fun K => ?_) ?_
 ·
  rcases Bool.eq_false_or_eq_true ((t65.2 != t17.2) || (t86.2 != t17.2)) with h93 | h93
  ·
   refine WL.setB 105 h93 rfl ?_
   refine seg 13 [] [1, 2, 7, 9, 10, 15, 18, 109] [(1, (iv p1)), (2, (iv p2)), (7, (pt g1)), (9, (iv t17.1)), (10, (iv t17.2)), (15, (sv A41 t36.1 c42)), (18, (iv t86.1)), (109, (bv true))] [] (fun fb => by kernel_rfl) rfl trivial ?_
   exact WL.toV K true [109, 1, 2, 7, 9, 10, 15, 18] rfl (by first | (rw [h93]; done) | (rw [h93]; rfl))
  refine WL.setB 105 h93 rfl ?_
  refine seg 13 [] [1, 2, 7, 9, 10, 15, 18, 109] [(1, (iv p1)), (2, (iv p2)), (7, (pt g1)), (9, (iv t17.1)), (10, (iv t17.2)), (15, (sv A41 t36.1 c42)), (18, (iv t86.1)), (109, (bv (t65.1 != t17.1)))] [] (fun fb => by kernel_rfl) rfl trivial ?_
  exact WL.toV K (t65.1 != t17.1) [109, 1, 2, 7, 9, 10, 15, 18] rfl (by first | (rw [h93]; done) | (rw [h93]; rfl))
 rintro b94 rfl
 refine seg 14 [] [1, 2, 7, 9, 10, 15, 18, 110] [(1, (iv p1)), (2, (iv p2)), (7, (pt g1)), (9, (iv t17.1)), (10, (iv t17.2)), (15, (sv A41 t36.1 c42)), (18, (iv t86.1)), (110, (bv (((t65.2 != t17.2) || (t86.2 != t17.2)) || (t65.1 != t17.1))))] [] (fun fb => by kernel_rfl) rfl trivial ?_
 refine WL.cutV (T := Bool) 18 (fun t => [(114, (bv t)), (1, (iv p1)), (2, (iv p2)), (7, (pt g1)), (9, (iv t17.1)), (10, (iv t17.2)), (15, (sv A41 t36.1 c42))]) (fun t => ((((t65.2 != t17.2) || (t86.2 != t17.2)) || (t65.1 != t17.1)) || (t86.1 != t17.1)) = t) (fun K => ?_) ?_
 ·
  rcases Bool.eq_false_or_eq_true (((t65.2 != t17.2) || (t86.2 != t17.2)) || (t65.1 != t17.1)) with h95 | h95
  ·
   refine WL.setB 110 h95 rfl ?_
   refine seg 18 [] [1, 2, 7, 9, 10, 15, 114] [(1, (iv p1)), (2, (iv p2)), (7, (pt g1)), (9, (iv t17.1)), (10, (iv t17.2)), (15, (sv A41 t36.1 c42)), (114, (bv true))] [] (fun fb => by kernel_rfl) rfl trivial ?_
   exact WL.toV K true [114, 1, 2, 7, 9, 10, 15] rfl (by first | (rw [h95]; done) | (rw [h95]; rfl))
  refine WL.setB 110 h95 rfl ?_
  refine seg 18 [] [1, 2, 7, 9, 10, 15, 114] [(1, (iv p1)), (2, (iv p2)), (7, (pt g1)), (9, (iv t17.1)), (10, (iv t17.2)), (15, (sv A41 t36.1 c42)), (114, (bv (t86.1 != t17.1)))] [] (fun fb => by kernel_rfl) rfl trivial ?_
  exact WL.toV K (t86.1 != t17.1) [114, 1, 2, 7, 9, 10, 15] rfl (by first | (rw [h95]; done) | (rw [h95]; rfl))
 rintro b96 rfl
 refine WL.done rfl (WX.next ?_)
 rcases br_some hf with ⟨h97, hf⟩ | ⟨h97, hf⟩
 ·refine WC.condT2 (fun fb => by kernel_rfl) h97 ?_
  refine WC.seq (WC.region ?_)
  refine seg 1 [] [8] [(8, (bv false))] [] (fun fb => by kernel_rfl) rfl trivial ?_
  refine WL.done rfl (WX.next ?_)
  refine WC.ret ?_
  injection hf with hf
  subst hf
  exact WX.thenR (WX.ret_ [] (bv false) [] (fun fb => by kernel_rfl) trivial ⟨_, rfl, rfl, hS90.keep⟩)
 refine WC.condF2 (fun fb => by kernel_rfl) h97 ?_
 refine WC.skip (WX.next (WC.seq ?_))
 obtain ⟨x107, hx108, hf⟩ := bind_some hf
 refine WC.cutN (T := ((List Int) × (List Int) × (List Int) × (List Int)) × Nat × (Option Addr) × Nat × (Option Addr) × Nat × (Option Addr) × Nat × (Option Addr) × Nat) (fun t => [(1, (iv p1)), (2, (iv p2)), (9, (iv t17.1)), (10, (iv t17.2)), (15, (sv A41 t36.1 c42)), (19, (.pointer (some ⟨t.2.1, 0, none⟩)))]) (fun t w1 => St NoS w w1 [rowR encInt t.2.2.1 t.2.2.2.1 t.1.1, rowR encInt t.2.2.2.2.2.2.1 t.2.2.2.2.2.2.2.1 t.1.2.2.1, rowR enc_Tile Aa ca p0, rowR encInt Ab cb p3.North, rowR encInt Ac cc p3.East, rowR encInt Ad cd p3.South, rowR encInt Ae ce p3.West, cel ⟨2, 0, none⟩ (iv mG)] [rowO 67 enc_Tile A41 c42 t36.1, blk t.2.1 (.cells #[(sv t.2.2.1 t.1.1 t.2.2.2.1), (sv t.2.2.2.2.1 t.1.2.1 t.2.2.2.2.2.1), (sv t.2.2.2.2.2.2.1 t.1.2.2.1 t.2.2.2.2.2.2.2.1), (sv t.2.2.2.2.2.2.2.2.1 t.1.2.2.2 t.2.2.2.2.2.2.2.2.2)] 25 (0, 0)), rowO 3 encInt t.2.2.2.2.1 t.2.2.2.2.2.1 t.1.2.1, rowO 3 encInt t.2.2.2.2.2.2.2.2.1 t.2.2.2.2.2.2.2.2.2 t.1.2.2.2] ∧ x107 = t.1) (fun Kx107 => ?_) ?_
 ·
  refine WC.regionD ([(1, ⟨g1, 3, none⟩, (sv Ae p3.West ce)), (3, ⟨g1, 0, none⟩, (sv Ab p3.North cb)), (6, ⟨g1, 1, none⟩, (sv Ac p3.East cc)), (8, ⟨g1, 2, none⟩, (sv Ad p3.South cd))], [0, 1, 2, 3, 5, 6, 7, 8, 10], [[], [0], [], [2], [2, 3], [], [5], [], [7], [2, 3, 4, 7, 8], [0, 1, 2, 3, 4, 5, 6, 7, 8, 9], [], [0, 1, 2, 3, 4, 5, 6, 7, 8, 9, 10, 11]]) [[0, 1, 2, 3, 5, 6, 7, 8, 4, 9, 10, 11, 12], [0, 1, 2, 3, 5, 6, 7, 8, 4, 11, 9, 10, 12], [0, 1, 2, 3, 5, 6, 7, 8, 11, 4, 9, 10, 12]] (by kernel_rfl) (by kernel_rfl) (NoPanic.seq (NoPanic.body)) ?_
  have hS110 := hS90.drew
  revert hS110
  generalize World.drew w88 = w109
  intro hS110
  refine ⟨⟨hS110.cell 7 rfl 3 rfl, hS110.cell 7 rfl 0 rfl, hS110.cell 7 rfl 1 rfl, hS110.cell 7 rfl 2 rfl, trivial⟩, forallC ?_ (forallC ?_ (forallC ?_ (forallN)))⟩
  ·
   refine segF 8 [.v (sv Ae p3.West ce), .v (sv Ab p3.North cb), .v (sv Ac p3.East cc), .v (sv Ad p3.South cd)] [1, 2, 9, 10, 15, 116, 118, 121, 123] [(1, (iv p1)), (2, (iv p2)), (9, (iv t17.1)), (10, (iv t17.2)), (15, (sv A41 t36.1 c42)), (116, (sv Ae p3.West ce)), (118, (sv Ab p3.North cb)), (121, (sv Ac p3.East cc)), (123, (sv Ad p3.South cd))] [] [0, 1, 2, 3] [(1, ⟨g1, 3, none⟩, (sv Ae p3.West ce)), (3, ⟨g1, 0, none⟩, (sv Ab p3.North cb)), (6, ⟨g1, 1, none⟩, (sv Ac p3.East cc)), (8, ⟨g1, 2, none⟩, (sv Ad p3.South cd))] (fun fb => by kernel_rfl) rfl trivial rfl ?_
   obtain ⟨t111, ht112, hx108⟩ := bind_some hx108
   refine WL.call (some 119) 10 #[(sv Ab p3.North cb)] (fun fb => by kernel_rfl) (law02_back_calls _ p3.North Ab cb t111 _ (hS110.rd 1) ht112) (fun v w113 hR114 => ?_)
   obtain ⟨A116, c117, rfl, hk_⟩ := hR114
   have hS115 := hS83.go w113 [rowO 3 encInt A116 c117 t111, rowO 3 encInt A84 c85 t79, rowO 3 encInt A77 c78 t72, rowO 3 encInt A62 c63 t57, rowO 3 encInt A55 c56 t50, rowO 67 enc_Tile A41 c42 t36.1, rowO 67 enc_Tile A34 c35 t29.1, rowO 67 enc_Tile A27 c28 t22.1, blk g1 (.cells #[(.slice Ab p3.North.length cb), (.slice Ac p3.East.length cc), (.slice Ad p3.South.length cd), (.slice Ae p3.West.length ce)] 25 (0, 0))] (hS110.call hk_ [] [0, 1, 2, 3, 4, 5, 6, 7] (fun g hg => hg.elim) (by simp) (by decide))
   refine ⟨⟨hS115.cell 8 rfl 3 rfl, hS115.cell 8 rfl 1 rfl, hS115.cell 8 rfl 2 rfl, trivial⟩, ?_⟩
   obtain ⟨t118, ht119, hx108⟩ := bind_some hx108
   refine WL.call (some 124) 10 #[(sv Ad p3.South cd)] (fun fb => by kernel_rfl) (law02_back_calls _ p3.South Ad cd t118 _ (hS115.rd 3) ht119) (fun v w120 hR121 => ?_)
   obtain ⟨A123, c124, rfl, hk_⟩ := hR121
   have hS122 := hS115.go w120 [rowO 3 encInt A123 c124 t118, rowO 3 encInt A116 c117 t111, rowO 3 encInt A84 c85 t79, rowO 3 encInt A77 c78 t72, rowO 3 encInt A62 c63 t57, rowO 3 encInt A55 c56 t50, rowO 67 enc_Tile A41 c42 t36.1, rowO 67 enc_Tile A34 c35 t29.1, rowO 67 enc_Tile A27 c28 t22.1, blk g1 (.cells #[(.slice Ab p3.North.length cb), (.slice Ac p3.East.length cc), (.slice Ad p3.South.length cd), (.slice Ae p3.West.length ce)] 25 (0, 0))] (hS115.call hk_ [] [0, 1, 2, 3, 4, 5, 6, 7, 8] (fun g hg => hg.elim) (by simp) (by decide))
   refine ⟨⟨hS122.cell 9 rfl 3 rfl, hS122.cell 9 rfl 1 rfl, trivial⟩, ?_⟩
   refine seg 11 [] [1, 2, 9, 10, 15, 125] [(1, (iv p1)), (2, (iv p2)), (9, (iv t17.1)), (10, (iv t17.2)), (15, (sv A41 t36.1 c42)), (125, (.agg #[(sv Ae p3.West ce), (sv A116 t111 c117), (sv Ac p3.East cc), (sv A123 t118 c124)]))] [] (fun fb => by kernel_rfl) rfl trivial ?_
   refine WL.new hS122 19 [] (fun g => (pt g)) (.cells #[(.slice none 0 0), (.slice none 0 0), (.slice none 0 0), (.slice none 0 0)] 25 (0, 0)) [] (fun fb g => by kernel_rfl) trivial (fun g125 w126 hS127 => ?_)
   refine ⟨⟨hS127.cell 10 rfl 3 rfl, hS127.cell 10 rfl 0 rfl, hS127.cell 10 rfl 1 rfl, hS127.cell 10 rfl 2 rfl, trivial⟩, ?_⟩
   refine WL.store hS127 0 rfl [(0, (sv Ae p3.West ce)), (1, (sv A116 t111 c117)), (2, (sv Ac p3.East cc)), (3, (sv A123 t118 c124))] #[(sv Ae p3.West ce), (sv A116 t111 c117), (sv Ac p3.East cc), (sv A123 t118 c124)] (fun fb => by kernel_rfl) (by kernel_rfl) rfl [1, 2, 3, 4, 5, 6, 7, 8, 9, 10] (by decide) (by decide) (fun w128 hS129 => ?_)
   refine ⟨trivial, ?_⟩
   refine WL.done rfl ?_
   injection hx108 with hx108
   exact WX.to Kx107 ((p3.West, t111, p3.East, t118), g125, Ae, ce, A116, c117, Ac, cc, A123, c124) [1, 2, 9, 10, 15, 19] rfl ⟨(hS129.subR [4, 2, 0, 1, 2, 3, 4, 5]).sub [7, 0, 2, 1] (by decide), hx108.symm⟩
  ·
   refine segF 8 [.v (sv Ae p3.West ce), .v (sv Ab p3.North cb), .v (sv Ac p3.East cc), .v (sv Ad p3.South cd)] [1, 2, 9, 10, 15, 116, 118, 121, 123] [(1, (iv p1)), (2, (iv p2)), (9, (iv t17.1)), (10, (iv t17.2)), (15, (sv A41 t36.1 c42)), (116, (sv Ae p3.West ce)), (118, (sv Ab p3.North cb)), (121, (sv Ac p3.East cc)), (123, (sv Ad p3.South cd))] [] [0, 1, 2, 3] [(1, ⟨g1, 3, none⟩, (sv Ae p3.West ce)), (3, ⟨g1, 0, none⟩, (sv Ab p3.North cb)), (6, ⟨g1, 1, none⟩, (sv Ac p3.East cc)), (8, ⟨g1, 2, none⟩, (sv Ad p3.South cd))] (fun fb => by kernel_rfl) rfl trivial rfl ?_
   obtain ⟨t130, ht131, hx108⟩ := bind_some hx108
   refine WL.call (some 119) 10 #[(sv Ab p3.North cb)] (fun fb => by kernel_rfl) (law02_back_calls _ p3.North Ab cb t130 _ (hS110.rd 1) ht131) (fun v w132 hR133 => ?_)
   obtain ⟨A135, c136, rfl, hk_⟩ := hR133
   have hS134 := hS83.go w132 [rowO 3 encInt A135 c136 t130, rowO 3 encInt A84 c85 t79, rowO 3 encInt A77 c78 t72, rowO 3 encInt A62 c63 t57, rowO 3 encInt A55 c56 t50, rowO 67 enc_Tile A41 c42 t36.1, rowO 67 enc_Tile A34 c35 t29.1, rowO 67 enc_Tile A27 c28 t22.1, blk g1 (.cells #[(.slice Ab p3.North.length cb), (.slice Ac p3.East.length cc), (.slice Ad p3.South.length cd), (.slice Ae p3.West.length ce)] 25 (0, 0))] (hS110.call hk_ [] [0, 1, 2, 3, 4, 5, 6, 7] (fun g hg => hg.elim) (by simp) (by decide))
   refine ⟨⟨hS134.cell 8 rfl 3 rfl, hS134.cell 8 rfl 1 rfl, hS134.cell 8 rfl 2 rfl, trivial⟩, ?_⟩
   refine WL.new hS134 19 [] (fun g => (pt g)) (.cells #[(.slice none 0 0), (.slice none 0 0), (.slice none 0 0), (.slice none 0 0)] 25 (0, 0)) [] (fun fb g => by kernel_rfl) trivial (fun g137 w138 hS139 => ?_)
   refine ⟨⟨hS139.cell 9 rfl 3 rfl, hS139.cell 9 rfl 0 rfl, hS139.cell 9 rfl 1 rfl, hS139.cell 9 rfl 2 rfl, trivial⟩, ?_⟩
   obtain ⟨t140, ht141, hx108⟩ := bind_some hx108
   refine WL.call (some 124) 10 #[(sv Ad p3.South cd)] (fun fb => by kernel_rfl) (law02_back_calls _ p3.South Ad cd t140 _ (hS139.rd 3) ht141) (fun v w142 hR143 => ?_)
   obtain ⟨A145, c146, rfl, hk_⟩ := hR143
   have hS144 := hS134.go w142 [rowO 3 encInt A145 c146 t140, blk g137 (.cells #[(.slice none 0 0), (.slice none 0 0), (.slice none 0 0), (.slice none 0 0)] 25 (0, 0)), rowO 3 encInt A135 c136 t130, rowO 3 encInt A84 c85 t79, rowO 3 encInt A77 c78 t72, rowO 3 encInt A62 c63 t57, rowO 3 encInt A55 c56 t50, rowO 67 enc_Tile A41 c42 t36.1, rowO 67 enc_Tile A34 c35 t29.1, rowO 67 enc_Tile A27 c28 t22.1, blk g1 (.cells #[(.slice Ab p3.North.length cb), (.slice Ac p3.East.length cc), (.slice Ad p3.South.length cd), (.slice Ae p3.West.length ce)] 25 (0, 0))] (hS139.call hk_ [] [0, 1, 2, 3, 4, 5, 6, 7, 8, 9] (fun g hg => hg.elim) (by simp) (by decide))
   refine ⟨⟨hS144.cell 10 rfl 3 rfl, hS144.cell 10 rfl 1 rfl, trivial⟩, ?_⟩
   refine seg 12 [] [1, 2, 9, 10, 15, 19, 125] [(1, (iv p1)), (2, (iv p2)), (9, (iv t17.1)), (10, (iv t17.2)), (15, (sv A41 t36.1 c42)), (19, (pt g137)), (125, (.agg #[(sv Ae p3.West ce), (sv A135 t130 c136), (sv Ac p3.East cc), (sv A145 t140 c146)]))] [] (fun fb => by kernel_rfl) rfl trivial ?_
   refine WL.store hS144 1 rfl [(0, (sv Ae p3.West ce)), (1, (sv A135 t130 c136)), (2, (sv Ac p3.East cc)), (3, (sv A145 t140 c146))] #[(sv Ae p3.West ce), (sv A135 t130 c136), (sv Ac p3.East cc), (sv A145 t140 c146)] (fun fb => by kernel_rfl) (by kernel_rfl) rfl [0, 2, 3, 4, 5, 6, 7, 8, 9, 10] (by decide) (by decide) (fun w147 hS148 => ?_)
   refine ⟨trivial, ?_⟩
   refine WL.done rfl ?_
   injection hx108 with hx108
   exact WX.to Kx107 ((p3.West, t130, p3.East, t140), g137, Ae, ce, A135, c136, Ac, cc, A145, c146) [1, 2, 9, 10, 15, 19] rfl ⟨(hS148.subR [4, 2, 0, 1, 2, 3, 4, 5]).sub [7, 0, 2, 1] (by decide), hx108.symm⟩
  refine segF 8 [.v (sv Ae p3.West ce), .v (sv Ab p3.North cb), .v (sv Ac p3.East cc), .v (sv Ad p3.South cd)] [1, 2, 9, 10, 15, 116, 118, 121, 123] [(1, (iv p1)), (2, (iv p2)), (9, (iv t17.1)), (10, (iv t17.2)), (15, (sv A41 t36.1 c42)), (116, (sv Ae p3.West ce)), (118, (sv Ab p3.North cb)), (121, (sv Ac p3.East cc)), (123, (sv Ad p3.South cd))] [] [0, 1, 2, 3] [(1, ⟨g1, 3, none⟩, (sv Ae p3.West ce)), (3, ⟨g1, 0, none⟩, (sv Ab p3.North cb)), (6, ⟨g1, 1, none⟩, (sv Ac p3.East cc)), (8, ⟨g1, 2, none⟩, (sv Ad p3.South cd))] (fun fb => by kernel_rfl) rfl trivial rfl ?_
  refine WL.new hS110 19 [] (fun g => (pt g)) (.cells #[(.slice none 0 0), (.slice none 0 0), (.slice none 0 0), (.slice none 0 0)] 25 (0, 0)) [] (fun fb g => by kernel_rfl) trivial (fun g149 w150 hS151 => ?_)
  refine ⟨⟨hS151.cell 8 rfl 3 rfl, hS151.cell 8 rfl 0 rfl, hS151.cell 8 rfl 1 rfl, hS151.cell 8 rfl 2 rfl, trivial⟩, ?_⟩
  obtain ⟨t152, ht153, hx108⟩ := bind_some hx108
  refine WL.call (some 119) 10 #[(sv Ab p3.North cb)] (fun fb => by kernel_rfl) (law02_back_calls _ p3.North Ab cb t152 _ (hS151.rd 1) ht153) (fun v w154 hR155 => ?_)
  obtain ⟨A157, c158, rfl, hk_⟩ := hR155
  have hS156 := hS83.go w154 [rowO 3 encInt A157 c158 t152, blk g149 (.cells #[(.slice none 0 0), (.slice none 0 0), (.slice none 0 0), (.slice none 0 0)] 25 (0, 0)), rowO 3 encInt A84 c85 t79, rowO 3 encInt A77 c78 t72, rowO 3 encInt A62 c63 t57, rowO 3 encInt A55 c56 t50, rowO 67 enc_Tile A41 c42 t36.1, rowO 67 enc_Tile A34 c35 t29.1, rowO 67 enc_Tile A27 c28 t22.1, blk g1 (.cells #[(.slice Ab p3.North.length cb), (.slice Ac p3.East.length cc), (.slice Ad p3.South.length cd), (.slice Ae p3.West.length ce)] 25 (0, 0))] (hS151.call hk_ [] [0, 1, 2, 3, 4, 5, 6, 7, 8] (fun g hg => hg.elim) (by simp) (by decide))
  refine ⟨⟨hS156.cell 9 rfl 3 rfl, hS156.cell 9 rfl 1 rfl, hS156.cell 9 rfl 2 rfl, trivial⟩, ?_⟩
  obtain ⟨t159, ht160, hx108⟩ := bind_some hx108
  refine WL.call (some 124) 10 #[(sv Ad p3.South cd)] (fun fb => by kernel_rfl) (law02_back_calls _ p3.South Ad cd t159 _ (hS156.rd 3) ht160) (fun v w161 hR162 => ?_)
  obtain ⟨A164, c165, rfl, hk_⟩ := hR162
  have hS163 := hS156.go w161 [rowO 3 encInt A164 c165 t159, rowO 3 encInt A157 c158 t152, blk g149 (.cells #[(.slice none 0 0), (.slice none 0 0), (.slice none 0 0), (.slice none 0 0)] 25 (0, 0)), rowO 3 encInt A84 c85 t79, rowO 3 encInt A77 c78 t72, rowO 3 encInt A62 c63 t57, rowO 3 encInt A55 c56 t50, rowO 67 enc_Tile A41 c42 t36.1, rowO 67 enc_Tile A34 c35 t29.1, rowO 67 enc_Tile A27 c28 t22.1, blk g1 (.cells #[(.slice Ab p3.North.length cb), (.slice Ac p3.East.length cc), (.slice Ad p3.South.length cd), (.slice Ae p3.West.length ce)] 25 (0, 0))] (hS156.call hk_ [] [0, 1, 2, 3, 4, 5, 6, 7, 8, 9] (fun g hg => hg.elim) (by simp) (by decide))
  refine ⟨⟨hS163.cell 10 rfl 3 rfl, hS163.cell 10 rfl 1 rfl, trivial⟩, ?_⟩
  refine seg 12 [] [1, 2, 9, 10, 15, 19, 125] [(1, (iv p1)), (2, (iv p2)), (9, (iv t17.1)), (10, (iv t17.2)), (15, (sv A41 t36.1 c42)), (19, (pt g149)), (125, (.agg #[(sv Ae p3.West ce), (sv A157 t152 c158), (sv Ac p3.East cc), (sv A164 t159 c165)]))] [] (fun fb => by kernel_rfl) rfl trivial ?_
  refine WL.store hS163 2 rfl [(0, (sv Ae p3.West ce)), (1, (sv A157 t152 c158)), (2, (sv Ac p3.East cc)), (3, (sv A164 t159 c165))] #[(sv Ae p3.West ce), (sv A157 t152 c158), (sv Ac p3.East cc), (sv A164 t159 c165)] (fun fb => by kernel_rfl) (by kernel_rfl) rfl [0, 1, 3, 4, 5, 6, 7, 8, 9, 10] (by decide) (by decide) (fun w166 hS167 => ?_)
  refine ⟨trivial, ?_⟩
  refine WL.done rfl ?_
  injection hx108 with hx108
  exact WX.to Kx107 ((p3.West, t152, p3.East, t159), g149, Ae, ce, A157, c158, Ac, cc, A164, c165) [1, 2, 9, 10, 15, 19] rfl ⟨(hS167.subR [4, 2, 0, 1, 2, 3, 4, 5]).sub [7, 0, 2, 1] (by decide), hx108.symm⟩
 rintro ⟨y171, g98, A99, c100, A101, c102, A103, c104, A105, c106⟩ w168 ⟨hS169, hq170⟩
 subst hq170
 refine WX.next (WC.seq (WC.seq (WC.region ?_)))
 refine seg 4 [.v (sv A99 x107.1 c100), .v (sv A101 x107.2.1 c102), .v (sv A103 x107.2.2.1 c104), .v (sv A105 x107.2.2.2 c106)] [1, 2, 9, 10, 15, 19, 126, 127, 128, 129] [(1, (iv p1)), (2, (iv p2)), (9, (iv t17.1)), (10, (iv t17.2)), (15, (sv A41 t36.1 c42)), (19, (pt g98)), (126, (sv A41 t36.1 c42)), (127, (iv p2)), (128, (iv p1)), (129, (.agg #[(sv A99 x107.1 c100), (sv A101 x107.2.1 c102), (sv A103 x107.2.2.1 c104), (sv A105 x107.2.2.2 c106)]))] [.cell ⟨g98, 0, none⟩ (sv A99 x107.1 c100), .cell ⟨g98, 1, none⟩ (sv A101 x107.2.1 c102), .cell ⟨g98, 2, none⟩ (sv A103 x107.2.2.1 c104), .cell ⟨g98, 3, none⟩ (sv A105 x107.2.2.2 c106)] (fun fb => by kernel_rfl) rfl ⟨hS169.cell 1 rfl 0 rfl, hS169.cell 1 rfl 1 rfl, hS169.cell 1 rfl 2 rfl, hS169.cell 1 rfl 3 rfl, trivial⟩ ?_
 obtain ⟨t172, ht173, hf⟩ := bind_some hf
 refine WL.call (some 130) 4 #[(sv A41 t36.1 c42), (iv p2), (iv p1), (.agg #[(sv A99 x107.1 c100), (sv A101 x107.2.1 c102), (sv A103 x107.2.2.1 c104), (sv A105 x107.2.2.2 c106)])] (fun fb => by kernel_rfl) (law02_small_calls _ t36.1 p2 p1 (Edges.mk x107.1 x107.2.1 x107.2.2.1 x107.2.2.2) A41 c42 A99 c100 A101 c102 A103 c104 A105 c106 t172 _ (hS169.ow 0).ofO (hS169.rd 0) (hS169.ow 2).ofO (hS169.rd 1) (hS169.ow 3).ofO ht173) (fun v w174 hR175 => ?_)
 obtain ⟨rfl, hk_⟩ := hR175
 have hS176 := hS169.keepN hk_
 refine ⟨trivial, ?_⟩
 refine seg 6 [] [1, 2, 9, 10, 15, 19, 131] [(1, (iv p1)), (2, (iv p2)), (9, (iv t17.1)), (10, (iv t17.2)), (15, (sv A41 t36.1 c42)), (19, (pt g98)), (131, (bv (!t172)))] [] (fun fb => by kernel_rfl) rfl trivial ?_
 refine WL.done rfl (WX.next ?_)
 rcases br_some hf with ⟨h177, hf⟩ | ⟨h177, hf⟩
 ·refine WC.condT2 (fun fb => by kernel_rfl) h177 ?_
  refine WC.seq (WC.region ?_)
  obtain ⟨t178, ht179, hf⟩ := bind_some hf
  refine WL.call (some 132) 5 #[] (fun fb => by kernel_rfl) (law02_awake_calls _ mG t178 _ (hS176.rd 7) ht179) (fun v w180 hR181 => ?_)
  obtain ⟨rfl, hk_⟩ := hR181
  have hS182 := hS176.keepN hk_
  refine ⟨trivial, ?_⟩
  refine seg 2 [] [8] [(8, (bv t178))] [] (fun fb => by kernel_rfl) rfl trivial ?_
  refine WL.done rfl (WX.next ?_)
  refine WC.ret ?_
  injection hf with hf
  subst hf
  exact WX.thenR (WX.ret_ [] (bv t178) [] (fun fb => by kernel_rfl) trivial ⟨_, rfl, rfl, hS182.keep⟩)
 refine WC.condF2 (fun fb => by kernel_rfl) h177 ?_
 refine WC.skip (WX.next (WC.seq (WC.region ?_)))
 refine seg 4 [.v (sv A99 x107.1 c100), .v (sv A101 x107.2.1 c102), .v (sv A103 x107.2.2.1 c104), .v (sv A105 x107.2.2.2 c106)] [9, 10, 134, 135, 136, 137] [(9, (iv t17.1)), (10, (iv t17.2)), (134, (sv A41 t36.1 c42)), (135, (iv p2)), (136, (iv p1)), (137, (.agg #[(sv A99 x107.1 c100), (sv A101 x107.2.1 c102), (sv A103 x107.2.2.1 c104), (sv A105 x107.2.2.2 c106)]))] [.cell ⟨g98, 0, none⟩ (sv A99 x107.1 c100), .cell ⟨g98, 1, none⟩ (sv A101 x107.2.1 c102), .cell ⟨g98, 2, none⟩ (sv A103 x107.2.2.1 c104), .cell ⟨g98, 3, none⟩ (sv A105 x107.2.2.2 c106)] (fun fb => by kernel_rfl) rfl ⟨hS176.cell 1 rfl 0 rfl, hS176.cell 1 rfl 1 rfl, hS176.cell 1 rfl 2 rfl, hS176.cell 1 rfl 3 rfl, trivial⟩ ?_
 obtain ⟨t183, ht184, hf⟩ := bind_some hf
 refine WL.call (some 138) 6 #[(sv A41 t36.1 c42), (iv p2), (iv p1), (.agg #[(sv A99 x107.1 c100), (sv A101 x107.2.1 c102), (sv A103 x107.2.2.1 c104), (sv A105 x107.2.2.2 c106)])] (fun fb => by kernel_rfl) (fill_Count_calls _ t36.1 p2 p1 (Edges.mk x107.1 x107.2.1 x107.2.2.1 x107.2.2.2) A41 c42 A99 c100 A101 c102 A103 c104 A105 c106 t183 _ (hS176.ow 0).ofO (hS176.rd 0) (hS176.ow 2).ofO (hS176.rd 1) (hS176.ow 3).ofO ht184) (fun v w185 hR186 => ?_)
 obtain ⟨rfl, hk_⟩ := hR186
 have hS187 := hS176.keepN hk_
 refine ⟨trivial, ?_⟩
 refine seg 10 [] [9, 10, 16, 20] [(9, (iv t17.1)), (10, (iv t17.2)), (16, (iv t183.2)), (20, (iv t183.1))] [] (fun fb => by kernel_rfl) rfl trivial ?_
 refine WL.done rfl (WX.next (WC.seq (WC.region ?_)))
 refine seg 4 [] [9, 20, 144] [(9, (iv t17.1)), (20, (iv t183.1)), (144, (bv (t183.2 == t17.2)))] [] (fun fb => by kernel_rfl) rfl trivial ?_
 refine WL.cutV (T := Bool) 8 (fun t => [(148, (bv t))]) (fun t => ((t183.2 == t17.2) && (t183.1 == t17.1)) = t) (fun K => ?_) ?_
 ·
  rcases Bool.eq_false_or_eq_true (t183.2 == t17.2) with h188 | h188
  ·
   refine WL.setB 144 h188 rfl ?_
   refine seg 8 [] [148] [(148, (bv (t183.1 == t17.1)))] [] (fun fb => by kernel_rfl) rfl trivial ?_
   exact WL.toV K (t183.1 == t17.1) [148] rfl (by first | (rw [h188]; done) | (rw [h188]; rfl))
  refine WL.setB 144 h188 rfl ?_
  refine seg 8 [] [148] [(148, (bv false))] [] (fun fb => by kernel_rfl) rfl trivial ?_
  exact WL.toV K false [148] rfl (by first | (rw [h188]; done) | (rw [h188]; rfl))
 rintro b189 rfl
 refine seg 9 [] [149] [(149, (bv ((t183.2 == t17.2) && (t183.1 == t17.1))))] [] (fun fb => by kernel_rfl) rfl trivial ?_
 obtain ⟨x190, hx191, hf⟩ := bind_some hf
 refine WL.cutW (T := Bool) 11 (fun t => [(151, (bv t))]) (fun t w1 => (St NoS w w1 [rowR encInt A99 c100 x107.1, rowR encInt A103 c104 x107.2.2.1, rowR enc_Tile Aa ca p0, rowR encInt Ab cb p3.North, rowR encInt Ac cc p3.East, rowR encInt Ad cd p3.South, rowR encInt Ae ce p3.West, cel ⟨2, 0, none⟩ (iv mG)] [] ∧ x190 = t) ∧ CellsOK [] w1) (fun K => ?_) ?_
 ·
  rcases br_some hx191 with ⟨h192, hx191⟩ | ⟨h192, hx191⟩
  ·
   refine WL.setB 149 h192 rfl ?_
   obtain ⟨t193, ht194, hx191⟩ := bind_some hx191
   refine WL.call (some 150) 5 #[] (fun fb => by kernel_rfl) (law02_awake_calls _ mG t193 _ (hS187.rd 7) ht194) (fun v w195 hR196 => ?_)
   obtain ⟨rfl, hk_⟩ := hR196
   have hS197 := hS187.keepN hk_
   refine ⟨trivial, ?_⟩
   refine seg 11 [] [151] [(151, (bv t193))] [] (fun fb => by kernel_rfl) rfl trivial ?_
   injection hx191 with hx191
   exact WL.to K t193 [151] rfl ⟨⟨(hS197.subR [0, 1, 2, 3, 4, 5, 6, 7]).sub [] (by decide), hx191.symm⟩, trivial⟩
  refine WL.setB 149 h192 rfl ?_
  refine seg 11 [] [151] [(151, (bv false))] [] (fun fb => by kernel_rfl) rfl trivial ?_
  injection hx191 with hx191
  exact WL.to K false [151] rfl ⟨⟨(hS187.subR [0, 1, 2, 3, 4, 5, 6, 7]).sub [] (by decide), hx191.symm⟩, trivial⟩
 rintro y198 w200 ⟨⟨hS201, hq199⟩, hF202⟩
 subst hq199
 refine seg 12 [] [8] [(8, (bv x190))] [] (fun fb => by kernel_rfl) rfl trivial ?_
 refine WL.done rfl (WX.next ?_)
 refine WC.ret ?_
 injection hf with hf
 subst hf
 exact WX.ret_ [] (bv x190) [] (fun fb => by kernel_rfl) trivial ⟨_, rfl, rfl, hS201.keep⟩
end Gp
