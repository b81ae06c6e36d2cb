/- Walks: each function of the program computes its plain function. -/
import Derived.Test.YtdikkfepiiomiaaDoorGp
set_option linter.unusedVariables false
set_option linter.unusedSimpArgs false
set_option maxHeartbeats 4000000
namespace Gp
open Go Gw Go.Proofs
theorem ref01_colour_calls (p0 : Int)  (r : Bool) (w : World)  (hf : ref01_colour p0 = some r) :
  CallsR Tryd.prog 12 #[(iv p0)] w (fun v w' => v = (bv r) ∧ Keeps NoS w w') := by
 have hS : St NoS w w [] [] := St.init (ro_nil _ _)
 refine enter 9 Tryd.func12 rfl Tryd.ntmps12 rfl ?_
 unfold ref01_colour at hf
 refine WC.seq (WC.region ?_)
 refine seg 1 [] [0] [(0, (iv p0))] [] (fun fb => by kernel_rfl) rfl trivial ?_
 refine WL.done rfl (WX.next (WC.seq (WC.region ?_)))
 refine seg 3 [] [0, 5] [(0, (iv p0)), (5, (bv (decide (p0 ≥ 0))))] [] (fun fb => by kernel_rfl) rfl trivial ?_
 refine WL.cutV (T := Bool) 6 (fun t => [(8, (bv t))]) (fun t => ((decide (p0 ≥ 0)) && (decide (p0 < 1000))) = t) (fun K => ?_) ?_
 ·
  rcases Bool.eq_false_or_eq_true (decide (p0 ≥ 0)) with h14 | h14
  ·
   refine WL.setB 5 h14 rfl ?_
   refine seg 6 [] [8] [(8, (bv (decide (p0 < 1000))))] [] (fun fb => by kernel_rfl) rfl trivial ?_
   exact WL.toV K (decide (p0 < 1000)) [8] rfl (by first | (rw [h14]; done) | (rw [h14]; rfl))
  refine WL.setB 5 h14 rfl ?_
  refine seg 6 [] [8] [(8, (bv false))] [] (fun fb => by kernel_rfl) rfl trivial ?_
  exact WL.toV K false [8] rfl (by first | (rw [h14]; done) | (rw [h14]; rfl))
 rintro b15 rfl
 refine seg 7 [] [2] [(2, (bv ((decide (p0 ≥ 0)) && (decide (p0 < 1000)))))] [] (fun fb => by kernel_rfl) rfl trivial ?_
 refine WL.done rfl (WX.next ?_)
 refine WC.ret ?_
 injection hf with hf
 subst hf
 exact WX.ret_ [] (bv ((decide (p0 ≥ 0)) && (decide (p0 < 1000)))) [] (fun fb => by kernel_rfl) trivial ⟨_, rfl, rfl, hS.keep⟩
theorem ref01_Index_calls (k : Nat) (p0 : List Tile) (p1 : Tile) (Aa : Option Addr) (ca : Nat) (r : Int) (w : World) (hR0 : RO NoS w (rowR enc_Tile Aa ca p0)) (hf : ref01_Index k p0 p1 = some r) :
  CallsR Tryd.prog 13 #[(sv Aa p0 ca), (.agg #[(iv p1.N), (iv p1.E), (iv p1.S), (iv p1.W)])] w (fun v w' => v = (iv r) ∧ Keeps NoS w w') := by
 have hS : St NoS w w [rowR enc_Tile Aa ca p0] [] := St.init (ro_cons hR0 (ro_nil _ _))
 refine enter 19 Tryd.func13 rfl Tryd.ntmps13 rfl ?_
 unfold ref01_Index at hf
 refine WC.seq (WC.region ?_)
 refine WL.new hS 3 [] (fun g => (pt g)) (.cells #[(iv p1.N), (iv p1.E), (iv p1.S), (iv p1.W)] 37 (0, 0)) [] (fun fb g => by kernel_rfl) trivial (fun g80 w81 hS82 => ?_)
 refine ⟨trivial, ?_⟩
 refine seg 2 [] [0, 3] [(0, (sv Aa p0 ca)), (3, (pt g80))] [] (fun fb => by kernel_rfl) rfl trivial ?_
 refine WL.done rfl (WX.next (WC.seq (WC.seq (WC.region ?_))))
 refine seg 1 [] [0, 3, 5] [(0, (sv Aa p0 ca)), (3, (pt g80)), (5, (iv 0))] [] (fun fb => by kernel_rfl) rfl trivial ?_
 refine WL.done rfl (WX.next ?_)
 obtain ⟨x3, hx4, hf⟩ := bind_some hf
 refine WC.cutN (T := Unit) (fun t => []) (fun t w1 => St NoS w w1 [rowR enc_Tile Aa ca p0] [] ∧ x3 = .inr t) (fun Kx3 => ?_) ?_
 ·
  refine WC.block ?_
  refine WC.loop (T := Int) (fun t => [(0, (sv Aa p0 ca)), (3, (pt g80)), (5, (iv t))]) (fun n t w1 => St NoS w w1 [rowR enc_Tile Aa ca p0] [blk g80 (.cells #[(iv p1.N), (iv p1.E), (iv p1.S), (iv p1.W)] 37 (0, 0))] ∧ ref01_Index.l0 n t p0 p1 = some x3) k 0 [0, 3, 5] rfl ⟨(hS82.subR [0]).sub [0] (by decide), hx4⟩ ?_
  rintro k5 x99 w6 ⟨hS7, hl8⟩
  cases k5 with
  | zero => rw [ref01_Index.l0] at hl8; cases hl8
  | succ k5 =>
   rw [ref01_Index.l0] at hl8
   refine WC.seq (WC.seq (WC.region ?_))
   refine seg 4 [] [0, 3, 5, 9] [(0, (sv Aa p0 ca)), (3, (pt g80)), (5, (iv x99)), (9, (bv (decide (x99 < (p0.length : Int)))))] [] (fun fb => by kernel_rfl) rfl trivial ?_
   refine WL.done rfl (WX.next ?_)
   rcases br_some hl8 with ⟨h9, hl8⟩ | ⟨h9, hl8⟩
   ·refine WC.condT2 (fun fb => by kernel_rfl) h9 ?_
    refine WC.skip (WX.next (WC.seq (WC.block (WC.seq ?_))))
    obtain ⟨h12, hl8⟩ := as_some hl8
    refine WC.regionD ([(3, ((adr Aa).add ((x99).toNat * 4)), (iv ((rdD p0 x99 z_Tile).N))), (3, (((adr Aa).add ((x99).toNat * 4)).add 1), (iv ((rdD p0 x99 z_Tile).E))), (3, (((adr Aa).add ((x99).toNat * 4)).add 2), (iv ((rdD p0 x99 z_Tile).S))), (3, (((adr Aa).add ((x99).toNat * 4)).add 3), (iv ((rdD p0 x99 z_Tile).W))), (4, ⟨g80, 0, none⟩, (iv p1.N)), (4, ⟨g80, 1, none⟩, (iv p1.E)), (4, ⟨g80, 2, none⟩, (iv p1.S)), (4, ⟨g80, 3, none⟩, (iv p1.W))], [0, 1, 2, 3, 4, 5], [[], [], [0, 1], [0, 1, 2], [], [0, 1, 2, 3, 4]]) [[0, 1, 2, 3, 4, 5]] (by kernel_rfl) (by kernel_rfl) (NoPanic.seq (NoPanic.block (NoPanic.seq (NoPanic.seq (NoPanic.block (NoPanic.seq (NoPanic.body))))))) ?_
    have hS11 := hS7.drew
    revert hS11
    generalize World.drew w6 = w10
    intro hS11
    refine ⟨⟨rowR.cell (hS11.rd 0).1 z_Tile h12.1 h12.2 0 rfl, rowR.cell (hS11.rd 0).1 z_Tile h12.1 h12.2 1 rfl, rowR.cell (hS11.rd 0).1 z_Tile h12.1 h12.2 2 rfl, rowR.cell (hS11.rd 0).1 z_Tile h12.1 h12.2 3 rfl, hS11.cell 0 rfl 0 rfl, hS11.cell 0 rfl 1 rfl, hS11.cell 0 rfl 2 rfl, hS11.cell 0 rfl 3 rfl, trivial⟩, forallC ?_ (forallN)⟩
    refine segF 6 [.v (iv ((rdD p0 x99 z_Tile).N)), .v (iv ((rdD p0 x99 z_Tile).E)), .v (iv ((rdD p0 x99 z_Tile).S)), .v (iv ((rdD p0 x99 z_Tile).W)), .v (iv p1.N), .v (iv p1.E), .v (iv p1.S), .v (iv p1.W)] [0, 3, 5, 17] [(0, (sv Aa p0 ca)), (3, (pt g80)), (5, (iv x99)), (17, (bv (((rdD p0 x99 z_Tile).N) == p1.N && (((rdD p0 x99 z_Tile).E) == p1.E && (((rdD p0 x99 z_Tile).S) == p1.S && (((rdD p0 x99 z_Tile).W) == p1.W))))))] [.idx Aa x99 p0.length] [0, 1, 2, 3, 4, 5, 6, 7] [(3, ((adr Aa).add ((x99).toNat * 4)), (iv ((rdD p0 x99 z_Tile).N))), (3, (((adr Aa).add ((x99).toNat * 4)).add 1), (iv ((rdD p0 x99 z_Tile).E))), (3, (((adr Aa).add ((x99).toNat * 4)).add 2), (iv ((rdD p0 x99 z_Tile).S))), (3, (((adr Aa).add ((x99).toNat * 4)).add 3), (iv ((rdD p0 x99 z_Tile).W))), (4, ⟨g80, 0, none⟩, (iv p1.N)), (4, ⟨g80, 1, none⟩, (iv p1.E)), (4, ⟨g80, 2, none⟩, (iv p1.S)), (4, ⟨g80, 3, none⟩, (iv p1.W))] (fun fb => by kernel_rfl) rfl ⟨rowR.adr (hS11.rd 0).1 h12.1 h12.2, trivial⟩ rfl ?_
    refine WL.done rfl (WX.next ?_)
    rcases br_some hl8 with ⟨h14, hl8⟩ | ⟨h14, hl8⟩
    ·refine WC.condT2 (fun fb => by kernel_rfl) h14 ?_
     refine WC.seq (WC.region ?_)
     refine seg 2 [] [4] [(4, (iv x99))] [] (fun fb => by kernel_rfl) rfl trivial ?_
     refine WL.done rfl (WX.next ?_)
     refine WC.ret ?_
     injection hl8 with hl8
     subst hl8
     injection hf with hf
     subst hf
     exact WX.blockR (WX.thenR (WX.thenR (WX.blockR (WX.thenR (WX.ret_ [] (iv x99) [] (fun fb => by kernel_rfl) trivial ⟨_, rfl, rfl, hS11.keep⟩)))))
    refine WC.condF2 (fun fb => by kernel_rfl) h14 ?_
    refine WC.skip ?_
    refine WX.blockN (WX.next ?_)
    refine WC.region ?_
    refine seg 3 [] [0, 3, 5] [(0, (sv Aa p0 ca)), (3, (pt g80)), (5, (iv (w64 (x99 + 1))))] [] (fun fb => by kernel_rfl) rfl trivial ?_
    refine WL.done rfl ?_
    exact WX.again k5 (Nat.lt_succ_self _) (w64 (x99 + 1)) [0, 3, 5] rfl ⟨(hS11.subR [0]).sub [0] (by decide), hl8⟩
   refine WC.condF2 (fun fb => by kernel_rfl) h9 ?_
   refine WC.exit ?_
   injection hl8 with hl8
   exact WX.thenX (WX.thenX (WX.blockHere (WX.to Kx3 () [] rfl ⟨(hS7.subR [0]).sub [] (by decide), hl8.symm⟩)))
 rintro y18 w15 ⟨hS16, hq17⟩
 subst hq17
 have hf := sum_inr hf
 refine WX.next (WC.seq (WC.region ?_))
 refine seg 1 [] [4] [(4, (iv (-1)))] [] (fun fb => by kernel_rfl) rfl trivial ?_
 refine WL.done rfl (WX.next ?_)
 refine WC.ret ?_
 injection hf with hf
 subst hf
 exact WX.ret_ [] (iv (-1)) [] (fun fb => by kernel_rfl) trivial ⟨_, rfl, rfl, hS16.keep⟩
theorem ref01_Valid_calls (k : Nat) (p0 : List Tile) (Aa : Option Addr) (ca : Nat) (r : Bool) (w : World) (hR0 : RO NoS w (rowR enc_Tile Aa ca p0)) (hf : ref01_Valid k p0 = some r) :
  CallsR Tryd.prog 4 #[(sv Aa p0 ca)] w (fun v w' => v = (bv r) ∧ Keeps NoS w w') := by
 have hS : St NoS w w [rowR enc_Tile Aa ca p0] [] := St.init (ro_cons hR0 (ro_nil _ _))
 refine enter 48 Tryd.func4 rfl Tryd.ntmps4 rfl ?_
 unfold ref01_Valid at hf
 refine WC.seq (WC.region ?_)
 refine seg 1 [] [0] [(0, (sv Aa p0 ca))] [] (fun fb => by kernel_rfl) rfl trivial ?_
 refine WL.done rfl (WX.next (WC.seq (WC.seq (WC.region ?_))))
 refine seg 3 [] [0, 7] [(0, (sv Aa p0 ca)), (7, (bv (decide ((p0.length : Int) > 1000))))] [] (fun fb => by kernel_rfl) rfl trivial ?_
 refine WL.done rfl (WX.next ?_)
 rcases br_some hf with ⟨h5, hf⟩ | ⟨h5, hf⟩
 ·refine WC.condT2 (fun fb => by kernel_rfl) h5 ?_
  refine WC.seq (WC.region ?_)
  refine seg 1 [] [2] [(2, (bv false))] [] (fun fb => by kernel_rfl) rfl trivial ?_
  refine WL.done rfl (WX.next ?_)
  refine WC.ret ?_
  injection hf with hf
  subst hf
  exact WX.thenR (WX.ret_ [] (bv false) [] (fun fb => by kernel_rfl) trivial ⟨_, rfl, rfl, hS.keep⟩)
 refine WC.condF2 (fun fb => by kernel_rfl) h5 ?_
 refine WC.skip (WX.next (WC.seq (WC.seq (WC.region ?_))))
 refine seg 1 [] [0, 3] [(0, (sv Aa p0 ca)), (3, (iv 0))] [] (fun fb => by kernel_rfl) rfl trivial ?_
 refine WL.done rfl (WX.next ?_)
 obtain ⟨x6, hx7, hf⟩ := bind_some hf
 refine WC.cutN (T := Unit) (fun t => []) (fun t w1 => St NoS w w1 [rowR enc_Tile Aa ca p0] [] ∧ x6 = .inr t) (fun Kx6 => ?_) ?_
 ·
  refine WC.block ?_
  refine WC.loop (T := Int) (fun t => [(0, (sv Aa p0 ca)), (3, (iv t))]) (fun n t w1 => St NoS w w1 [rowR enc_Tile Aa ca p0] [] ∧ ref01_Valid.l0 n t p0 = some x6) k 0 [0, 3] rfl ⟨(hS.subR [0]).sub [] (by decide), hx7⟩ ?_
  rintro k8 x3 w9 ⟨hS10, hl11⟩
  cases k8 with
  | zero => rw [ref01_Valid.l0] at hl11; cases hl11
  | succ k8 =>
   rw [ref01_Valid.l0] at hl11
   refine WC.seq (WC.seq (WC.region ?_))
   refine seg 4 [] [0, 3, 11] [(0, (sv Aa p0 ca)), (3, (iv x3)), (11, (bv (decide (x3 < (p0.length : Int)))))] [] (fun fb => by kernel_rfl) rfl trivial ?_
   refine WL.done rfl (WX.next ?_)
   rcases br_some hl11 with ⟨h12, hl11⟩ | ⟨h12, hl11⟩
   ·refine WC.condT2 (fun fb => by kernel_rfl) h12 ?_
    refine WC.skip (WX.next (WC.seq (WC.block (WC.seq (WC.region ?_)))))
    refine seg 2 [] [0, 3, 14, 15] [(0, (sv Aa p0 ca)), (3, (iv x3)), (14, (sv Aa p0 ca)), (15, (iv x3))] [] (fun fb => by kernel_rfl) rfl trivial ?_
    obtain ⟨h13, hl11⟩ := as_some hl11
    refine seg 4 [.v (iv ((rdD p0 x3 z_Tile).N)), .v (iv ((rdD p0 x3 z_Tile).E)), .v (iv ((rdD p0 x3 z_Tile).S)), .v (iv ((rdD p0 x3 z_Tile).W))] [0, 3, 17] [(0, (sv Aa p0 ca)), (3, (iv x3)), (17, (.agg #[(iv ((rdD p0 x3 z_Tile).N)), (iv ((rdD p0 x3 z_Tile).E)), (iv ((rdD p0 x3 z_Tile).S)), (iv ((rdD p0 x3 z_Tile).W))]))] [.idx Aa x3 p0.length, .cell ((adr Aa).add ((x3).toNat * 4)) (iv ((rdD p0 x3 z_Tile).N)), .cell (((adr Aa).add ((x3).toNat * 4)).add 1) (iv ((rdD p0 x3 z_Tile).E)), .cell (((adr Aa).add ((x3).toNat * 4)).add 2) (iv ((rdD p0 x3 z_Tile).S)), .cell (((adr Aa).add ((x3).toNat * 4)).add 3) (iv ((rdD p0 x3 z_Tile).W))] (fun fb => by kernel_rfl) rfl ⟨rowR.adr (hS10.rd 0).1 h13.1 h13.2, rowR.cell (hS10.rd 0).1 z_Tile h13.1 h13.2 0 rfl, rowR.cell (hS10.rd 0).1 z_Tile h13.1 h13.2 1 rfl, rowR.cell (hS10.rd 0).1 z_Tile h13.1 h13.2 2 rfl, rowR.cell (hS10.rd 0).1 z_Tile h13.1 h13.2 3 rfl, trivial⟩ ?_
    refine WL.new hS10 4 [] (fun g => (pt g)) (.cells #[(iv 0), (iv 0), (iv 0), (iv 0)] 37 (0, 0)) [] (fun fb g => by kernel_rfl) trivial (fun g14 w15 hS16 => ?_)
    refine ⟨trivial, ?_⟩
    refine WL.store hS16 0 rfl [(0, (iv ((rdD p0 x3 z_Tile).N))), (1, (iv ((rdD p0 x3 z_Tile).E))), (2, (iv ((rdD p0 x3 z_Tile).S))), (3, (iv ((rdD p0 x3 z_Tile).W)))] #[(iv ((rdD p0 x3 z_Tile).N)), (iv ((rdD p0 x3 z_Tile).E)), (iv ((rdD p0 x3 z_Tile).S)), (iv ((rdD p0 x3 z_Tile).W))] (fun fb => by kernel_rfl) (by kernel_rfl) rfl [] (by decide) (by decide) (fun w17 hS18 => ?_)
    refine ⟨trivial, ?_⟩
    refine WL.done rfl (WX.next (WC.seq ?_))
    refine WC.regionD ([(1, ⟨g14, 0, none⟩, (iv ((rdD p0 x3 z_Tile).N))), (6, ⟨g14, 1, none⟩, (iv ((rdD p0 x3 z_Tile).E))), (12, ⟨g14, 2, none⟩, (iv ((rdD p0 x3 z_Tile).S))), (18, ⟨g14, 3, none⟩, (iv ((rdD p0 x3 z_Tile).W))), (26, ⟨g14, 0, none⟩, (iv ((rdD p0 x3 z_Tile).N))), (26, ⟨g14, 1, none⟩, (iv ((rdD p0 x3 z_Tile).E))), (26, ⟨g14, 2, none⟩, (iv ((rdD p0 x3 z_Tile).S))), (26, ⟨g14, 3, none⟩, (iv ((rdD p0 x3 z_Tile).W)))], [0, 1, 3, 4, 5, 6, 8, 9, 10, 11, 12, 14, 15, 16, 17, 18, 20, 21, 22, 23, 24, 25, 26, 28, 29], [[], [0], [0, 1], [0, 1, 2], [0, 1, 2, 3], [0, 1, 2, 3, 4], [0, 1, 2, 3, 4, 5], [0, 1, 2, 3, 4, 5, 6], [0, 1, 2, 3, 4, 5, 6, 7], [0, 1, 2, 3, 4, 5, 6, 7, 8], [0, 1, 2, 3, 4, 5, 6, 7, 8, 9], [0, 1, 2, 3, 4, 5, 6, 7, 8, 9, 10], [0, 1, 2, 3, 4, 5, 6, 7, 8, 9, 10, 11], [0, 1, 2, 3, 4, 5, 6, 7, 8, 9, 10, 11, 12], [0, 1, 2, 3, 4, 5, 6, 7, 8, 9, 10, 11, 12, 13], [0, 1, 2, 3, 4, 5, 6, 7, 8, 9, 10, 11, 12, 13, 14], [0, 1, 2, 3, 4, 5, 6, 7, 8, 9, 10, 11, 12, 13, 14, 15], [0, 1, 2, 3, 4, 5, 6, 7, 8, 9, 10, 11, 12, 13, 14, 15, 16], [0, 1, 2, 3, 4, 5, 6, 7, 8, 9, 10, 11, 12, 13, 14, 15, 16, 17], [0, 1, 2, 3, 4, 5, 6, 7, 8, 9, 10, 11, 12, 13, 14, 15, 16, 17, 18], [0, 1, 2, 3, 4, 5, 6, 7, 8, 9, 10, 11, 12, 13, 14, 15, 16, 17, 18, 19], [0, 1, 2, 3, 4, 5, 6, 7, 8, 9, 10, 11, 12, 13, 14, 15, 16, 17, 18, 19, 20], [0, 1, 2, 3, 4, 5, 6, 7, 8, 9, 10, 11, 12, 13, 14, 15, 16, 17, 18, 19, 20, 21], [0, 1, 2, 3, 4, 5, 6, 7, 8, 9, 10, 11, 12, 13, 14, 15, 16, 17, 18, 19, 20, 21, 22], [0, 1, 2, 3, 4, 5, 6, 7, 8, 9, 10, 11, 12, 13, 14, 15, 16, 17, 18, 19, 20, 21, 22], [0, 1, 2, 3, 4, 5, 6, 7, 8, 9, 10, 11, 12, 13, 14, 15, 16, 17, 18, 19, 20, 21, 22, 23, 24], [0, 1, 2, 3, 4, 5, 6, 7, 8, 9, 10, 11, 12, 13, 14, 15, 16, 17, 18, 19, 20, 21, 22], [0, 1, 2, 3, 4, 5, 6, 7, 8, 9, 10, 11, 12, 13, 14, 15, 16, 17, 18, 19, 20, 21, 22, 23, 24, 25, 26], [0, 1, 2, 3, 4, 5, 6, 7, 8, 9, 10, 11, 12, 13, 14, 15, 16, 17, 18, 19, 20, 21, 22, 23, 24, 25, 26, 27], [0, 1, 2, 3, 4, 5, 6, 7, 8, 9, 10, 11, 12, 13, 14, 15, 16, 17, 18, 19, 20, 21, 22, 23, 24, 25, 26, 27, 28]]) [[0, 1, 2, 3, 4, 5, 6, 7, 8, 9, 10, 11, 12, 13, 14, 15, 16, 17, 18, 19, 20, 21, 22, 23, 24, 25, 26, 27, 28, 29]] (by kernel_rfl) (by kernel_rfl) (NoPanic.seq (NoPanic.block (NoPanic.seq (NoPanic.seq (NoPanic.block (NoPanic.seq (NoPanic.body))))))) ?_
    have hS20 := hS18.drew
    revert hS20
    generalize World.drew w17 = w19
    intro hS20
    refine ⟨⟨hS20.cell 0 rfl 0 rfl, hS20.cell 0 rfl 1 rfl, hS20.cell 0 rfl 2 rfl, hS20.cell 0 rfl 3 rfl, hS20.cell 0 rfl 0 rfl, hS20.cell 0 rfl 1 rfl, hS20.cell 0 rfl 2 rfl, hS20.cell 0 rfl 3 rfl, trivial⟩, forallC ?_ (forallN)⟩
    refine segF 2 [.v (iv ((rdD p0 x3 z_Tile).N))] [0, 3, 4, 19] [(0, (sv Aa p0 ca)), (3, (iv x3)), (4, (pt g14)), (19, (iv ((rdD p0 x3 z_Tile).N)))] [] [0] [(1, ⟨g14, 0, none⟩, (iv ((rdD p0 x3 z_Tile).N)))] (fun fb => by kernel_rfl) rfl trivial rfl ?_
    obtain ⟨t21, ht22, hl11⟩ := bind_some hl11
    refine WL.call (some 20) 12 #[(iv ((rdD p0 x3 z_Tile).N))] (fun fb => by kernel_rfl) (ref01_colour_calls ((rdD p0 x3 z_Tile).N) t21 _ ht22) (fun v w23 hR24 => ?_)
    obtain ⟨rfl, hk_⟩ := hR24
    have hS25 := hS20.keepN hk_
    refine ⟨⟨hS25.cell 0 rfl 1 rfl, hS25.cell 0 rfl 2 rfl, hS25.cell 0 rfl 3 rfl, hS25.cell 0 rfl 0 rfl, hS25.cell 0 rfl 1 rfl, hS25.cell 0 rfl 2 rfl, hS25.cell 0 rfl 3 rfl, trivial⟩, ?_⟩
    refine seg 5 [] [0, 3, 4, 22] [(0, (sv Aa p0 ca)), (3, (iv x3)), (4, (pt g14)), (22, (bv (!t21)))] [] (fun fb => by kernel_rfl) rfl trivial ?_
    obtain ⟨x26, hx27, hl11⟩ := bind_some hl11
    refine WL.cutW (T := Bool) 10 (fun t => [(0, (sv Aa p0 ca)), (3, (iv x3)), (4, (pt g14)), (27, (bv t))]) (fun t w1 => (St NoS w w1 [rowR enc_Tile Aa ca p0] [blk g14 (.cells #[(iv ((rdD p0 x3 z_Tile).N)), (iv ((rdD p0 x3 z_Tile).E)), (iv ((rdD p0 x3 z_Tile).S)), (iv ((rdD p0 x3 z_Tile).W))] 37 (0, 0))] ∧ x26 = t) ∧ CellsOK [] w1) (fun K => ?_) ?_
    ·
     rcases br_some hx27 with ⟨h28, hx27⟩ | ⟨h28, hx27⟩
     ·
      refine WL.setB 22 h28 rfl ?_
      refine seg 10 [] [0, 3, 4, 27] [(0, (sv Aa p0 ca)), (3, (iv x3)), (4, (pt g14)), (27, (bv true))] [] (fun fb => by kernel_rfl) rfl trivial ?_
      injection hx27 with hx27
      exact WL.to K true [0, 3, 4, 27] rfl ⟨⟨(hS25.subR [0]).sub [0] (by decide), hx27.symm⟩, trivial⟩
     refine WL.setB 22 h28 rfl ?_
     refine segF 7 [.v (iv ((rdD p0 x3 z_Tile).E))] [0, 3, 4, 22, 24] [(0, (sv Aa p0 ca)), (3, (iv x3)), (4, (pt g14)), (22, (bv false)), (24, (iv ((rdD p0 x3 z_Tile).E)))] [] [1] [(6, ⟨g14, 1, none⟩, (iv ((rdD p0 x3 z_Tile).E)))] (fun fb => by kernel_rfl) rfl trivial rfl ?_
     obtain ⟨t29, ht30, hx27⟩ := bind_some hx27
     refine WL.call (some 25) 12 #[(iv ((rdD p0 x3 z_Tile).E))] (fun fb => by kernel_rfl) (ref01_colour_calls ((rdD p0 x3 z_Tile).E) t29 _ ht30) (fun v w31 hR32 => ?_)
     obtain ⟨rfl, hk_⟩ := hR32
     have hS33 := hS25.keepN hk_
     refine ⟨⟨hS33.cell 0 rfl 2 rfl, hS33.cell 0 rfl 3 rfl, hS33.cell 0 rfl 0 rfl, hS33.cell 0 rfl 1 rfl, hS33.cell 0 rfl 2 rfl, hS33.cell 0 rfl 3 rfl, trivial⟩, ?_⟩
     refine seg 10 [] [0, 3, 4, 27] [(0, (sv Aa p0 ca)), (3, (iv x3)), (4, (pt g14)), (27, (bv (!t29)))] [] (fun fb => by kernel_rfl) rfl trivial ?_
     injection hx27 with hx27
     exact WL.to K (!t29) [0, 3, 4, 27] rfl ⟨⟨(hS33.subR [0]).sub [0] (by decide), hx27.symm⟩, trivial⟩
    rintro y34 w36 ⟨⟨hS37, hq35⟩, hF38⟩
    subst hq35
    refine seg 11 [] [0, 3, 4, 28] [(0, (sv Aa p0 ca)), (3, (iv x3)), (4, (pt g14)), (28, (bv x26))] [] (fun fb => by kernel_rfl) rfl trivial ?_
    obtain ⟨x39, hx40, hl11⟩ := bind_some hl11
    refine WL.cutW (T := Bool) 16 (fun t => [(0, (sv Aa p0 ca)), (3, (iv x3)), (4, (pt g14)), (33, (bv t))]) (fun t w1 => (St NoS w w1 [rowR enc_Tile Aa ca p0] [blk g14 (.cells #[(iv ((rdD p0 x3 z_Tile).N)), (iv ((rdD p0 x3 z_Tile).E)), (iv ((rdD p0 x3 z_Tile).S)), (iv ((rdD p0 x3 z_Tile).W))] 37 (0, 0))] ∧ x39 = t) ∧ CellsOK [] w1) (fun K => ?_) ?_
    ·
     rcases br_some hx40 with ⟨h41, hx40⟩ | ⟨h41, hx40⟩
     ·
      refine WL.setB 28 h41 rfl ?_
      refine seg 16 [] [0, 3, 4, 33] [(0, (sv Aa p0 ca)), (3, (iv x3)), (4, (pt g14)), (33, (bv true))] [] (fun fb => by kernel_rfl) rfl trivial ?_
      injection hx40 with hx40
      exact WL.to K true [0, 3, 4, 33] rfl ⟨⟨(hS37.subR [0]).sub [0] (by decide), hx40.symm⟩, trivial⟩
     refine WL.setB 28 h41 rfl ?_
     refine segF 13 [.v (iv ((rdD p0 x3 z_Tile).S))] [0, 3, 4, 28, 30] [(0, (sv Aa p0 ca)), (3, (iv x3)), (4, (pt g14)), (28, (bv false)), (30, (iv ((rdD p0 x3 z_Tile).S)))] [] [2] [(12, ⟨g14, 2, none⟩, (iv ((rdD p0 x3 z_Tile).S)))] (fun fb => by kernel_rfl) rfl trivial rfl ?_
     obtain ⟨t42, ht43, hx40⟩ := bind_some hx40
     refine WL.call (some 31) 12 #[(iv ((rdD p0 x3 z_Tile).S))] (fun fb => by kernel_rfl) (ref01_colour_calls ((rdD p0 x3 z_Tile).S) t42 _ ht43) (fun v w44 hR45 => ?_)
     obtain ⟨rfl, hk_⟩ := hR45
     have hS46 := hS37.keepN hk_
     refine ⟨⟨hS46.cell 0 rfl 3 rfl, hS46.cell 0 rfl 0 rfl, hS46.cell 0 rfl 1 rfl, hS46.cell 0 rfl 2 rfl, hS46.cell 0 rfl 3 rfl, trivial⟩, ?_⟩
     refine seg 16 [] [0, 3, 4, 33] [(0, (sv Aa p0 ca)), (3, (iv x3)), (4, (pt g14)), (33, (bv (!t42)))] [] (fun fb => by kernel_rfl) rfl trivial ?_
     injection hx40 with hx40
     exact WL.to K (!t42) [0, 3, 4, 33] rfl ⟨⟨(hS46.subR [0]).sub [0] (by decide), hx40.symm⟩, trivial⟩
    rintro y47 w49 ⟨⟨hS50, hq48⟩, hF51⟩
    subst hq48
    refine seg 17 [] [0, 3, 4, 34] [(0, (sv Aa p0 ca)), (3, (iv x3)), (4, (pt g14)), (34, (bv x39))] [] (fun fb => by kernel_rfl) rfl trivial ?_
    obtain ⟨x52, hx53, hl11⟩ := bind_some hl11
    refine WL.cutW (T := Bool) 22 (fun t => [(0, (sv Aa p0 ca)), (3, (iv x3)), (4, (pt g14)), (39, (bv t))]) (fun t w1 => (St NoS w w1 [rowR enc_Tile Aa ca p0] [blk g14 (.cells #[(iv ((rdD p0 x3 z_Tile).N)), (iv ((rdD p0 x3 z_Tile).E)), (iv ((rdD p0 x3 z_Tile).S)), (iv ((rdD p0 x3 z_Tile).W))] 37 (0, 0))] ∧ x52 = t) ∧ CellsOK [] w1) (fun K => ?_) ?_
    ·
     rcases br_some hx53 with ⟨h54, hx53⟩ | ⟨h54, hx53⟩
     ·
      refine WL.setB 34 h54 rfl ?_
      refine seg 22 [] [0, 3, 4, 39] [(0, (sv Aa p0 ca)), (3, (iv x3)), (4, (pt g14)), (39, (bv true))] [] (fun fb => by kernel_rfl) rfl trivial ?_
      injection hx53 with hx53
      exact WL.to K true [0, 3, 4, 39] rfl ⟨⟨(hS50.subR [0]).sub [0] (by decide), hx53.symm⟩, trivial⟩
     refine WL.setB 34 h54 rfl ?_
     refine segF 19 [.v (iv ((rdD p0 x3 z_Tile).W))] [0, 3, 4, 34, 36] [(0, (sv Aa p0 ca)), (3, (iv x3)), (4, (pt g14)), (34, (bv false)), (36, (iv ((rdD p0 x3 z_Tile).W)))] [] [3] [(18, ⟨g14, 3, none⟩, (iv ((rdD p0 x3 z_Tile).W)))] (fun fb => by kernel_rfl) rfl trivial rfl ?_
     obtain ⟨t55, ht56, hx53⟩ := bind_some hx53
     refine WL.call (some 37) 12 #[(iv ((rdD p0 x3 z_Tile).W))] (fun fb => by kernel_rfl) (ref01_colour_calls ((rdD p0 x3 z_Tile).W) t55 _ ht56) (fun v w57 hR58 => ?_)
     obtain ⟨rfl, hk_⟩ := hR58
     have hS59 := hS50.keepN hk_
     refine ⟨⟨hS59.cell 0 rfl 0 rfl, hS59.cell 0 rfl 1 rfl, hS59.cell 0 rfl 2 rfl, hS59.cell 0 rfl 3 rfl, trivial⟩, ?_⟩
     refine seg 22 [] [0, 3, 4, 39] [(0, (sv Aa p0 ca)), (3, (iv x3)), (4, (pt g14)), (39, (bv (!t55)))] [] (fun fb => by kernel_rfl) rfl trivial ?_
     injection hx53 with hx53
     exact WL.to K (!t55) [0, 3, 4, 39] rfl ⟨⟨(hS59.subR [0]).sub [0] (by decide), hx53.symm⟩, trivial⟩
    rintro y60 w62 ⟨⟨hS63, hq61⟩, hF65⟩
    subst hq61
    refine seg 23 [] [0, 3, 4, 40] [(0, (sv Aa p0 ca)), (3, (iv x3)), (4, (pt g14)), (40, (bv x52))] [] (fun fb => by kernel_rfl) rfl trivial ?_
    obtain ⟨x66, hx67, hl11⟩ := bind_some hl11
    refine WL.cutW (T := Bool) 30 (fun t => [(0, (sv Aa p0 ca)), (3, (iv x3)), (47, (bv t))]) (fun t w1 => (St NoS w w1 [rowR enc_Tile Aa ca p0] [] ∧ x66 = t) ∧ CellsOK [] w1) (fun K => ?_) ?_
    ·
     rcases br_some hx67 with ⟨h68, hx67⟩ | ⟨h68, hx67⟩
     ·
      refine WL.setB 40 h68 rfl ?_
      refine seg 30 [] [0, 3, 47] [(0, (sv Aa p0 ca)), (3, (iv x3)), (47, (bv true))] [] (fun fb => by kernel_rfl) rfl trivial ?_
      injection hx67 with hx67
      exact WL.to K true [0, 3, 47] rfl ⟨⟨(hS63.subR [0]).sub [] (by decide), hx67.symm⟩, trivial⟩
     refine WL.setB 40 h68 rfl ?_
     refine seg 25 [] [0, 3, 4, 40, 41, 42] [(0, (sv Aa p0 ca)), (3, (iv x3)), (4, (pt g14)), (40, (bv false)), (41, (sv Aa p0 ca)), (42, (iv x3))] [] (fun fb => by kernel_rfl) rfl trivial ?_
     obtain ⟨h69, hx67⟩ := as_some hx67
     refine seg 26 [] [0, 3, 4, 40, 43] [(0, (sv Aa p0 ca)), (3, (iv x3)), (4, (pt g14)), (40, (bv false)), (43, (.slice (subA Aa ca (0 : Int).toNat 4) (x3.toNat - (0 : Int).toNat) (ca - (0 : Int).toNat)))] [.idx (some ⟨0, 0, none⟩) (0 : Int) (x3.toNat + 1), .idx (some ⟨0, 0, none⟩) x3 (ca + 1)] (fun fb => by kernel_rfl) rfl ⟨cut1 h69.1 h69.2.1, cut2 h69.1 h69.2.1 h69.2.2 (hS63.rd 0).1.2, trivial⟩ ?_
     refine WL.reE [0, 3, 4, 40, 43] [(0, (.slice Aa p0.length ca)), (3, (iv x3)), (4, (pt g14)), (40, (.bool false)), (43, (.slice (subA Aa ca (0 : Int).toNat 4) (x3.toNat - (0 : Int).toNat) (ca - (0 : Int).toNat)))] [(0, (.slice Aa p0.length ca)), (3, (iv x3)), (4, (pt g14)), (40, (.bool false)), (43, (.slice (subA Aa ca (0 : Int).toNat 4) (cut p0 (0 : Int) x3).length (ca - (0 : Int).toNat)))] rfl (by rw [cut_length h69.1 h69.2.1 h69.2.2]) ?_
     have hS70 := hS63.cutR 0 rfl h69.1 h69.2.1 h69.2.2
     refine segF 27 [.v (iv ((rdD p0 x3 z_Tile).N)), .v (iv ((rdD p0 x3 z_Tile).E)), .v (iv ((rdD p0 x3 z_Tile).S)), .v (iv ((rdD p0 x3 z_Tile).W))] [0, 3, 40, 43, 44] [(0, (sv Aa p0 ca)), (3, (iv x3)), (40, (bv false)), (43, (sv (subA Aa ca (0 : Int).toNat 4) (cut p0 (0 : Int) x3) (ca - (0 : Int).toNat))), (44, (.agg #[(iv ((rdD p0 x3 z_Tile).N)), (iv ((rdD p0 x3 z_Tile).E)), (iv ((rdD p0 x3 z_Tile).S)), (iv ((rdD p0 x3 z_Tile).W))]))] [] [4, 5, 6, 7] [(26, ⟨g14, 0, none⟩, (iv ((rdD p0 x3 z_Tile).N))), (26, ⟨g14, 1, none⟩, (iv ((rdD p0 x3 z_Tile).E))), (26, ⟨g14, 2, none⟩, (iv ((rdD p0 x3 z_Tile).S))), (26, ⟨g14, 3, none⟩, (iv ((rdD p0 x3 z_Tile).W)))] (fun fb => by kernel_rfl) rfl trivial rfl ?_
     obtain ⟨t71, ht72, hx67⟩ := bind_some hx67
     refine WL.call (some 45) 13 #[(sv (subA Aa ca (0 : Int).toNat 4) (cut p0 (0 : Int) x3) (ca - (0 : Int).toNat)), (.agg #[(iv ((rdD p0 x3 z_Tile).N)), (iv ((rdD p0 x3 z_Tile).E)), (iv ((rdD p0 x3 z_Tile).S)), (iv ((rdD p0 x3 z_Tile).W))])] (fun fb => by kernel_rfl) (ref01_Index_calls _ (cut p0 (0 : Int) x3) (rdD p0 x3 z_Tile) (subA Aa ca (0 : Int).toNat 4) (ca - (0 : Int).toNat) t71 _ (hS70.rd 0) ht72) (fun v w73 hR74 => ?_)
     obtain ⟨rfl, hk_⟩ := hR74
     have hS75 := hS70.keepN hk_
     refine ⟨trivial, ?_⟩
     refine seg 30 [] [0, 3, 47] [(0, (sv Aa p0 ca)), (3, (iv x3)), (47, (bv (decide (t71 ≥ 0))))] [] (fun fb => by kernel_rfl) rfl trivial ?_
     injection hx67 with hx67
     exact WL.to K (decide (t71 ≥ 0)) [0, 3, 47] rfl ⟨⟨(hS75.subR [1]).sub [] (by decide), hx67.symm⟩, trivial⟩
    rintro y76 w78 ⟨⟨hS79, hq77⟩, hF80⟩
    subst hq77
    refine WL.done rfl (WX.next ?_)
    rcases br_some hl11 with ⟨h81, hl11⟩ | ⟨h81, hl11⟩
    ·refine WC.condT2 (fun fb => by kernel_rfl) h81 ?_
     refine WC.seq (WC.region ?_)
     refine seg 1 [] [2] [(2, (bv false))] [] (fun fb => by kernel_rfl) rfl trivial ?_
     refine WL.done rfl (WX.next ?_)
     refine WC.ret ?_
     injection hl11 with hl11
     subst hl11
     injection hf with hf
     subst hf
     exact WX.blockR (WX.thenR (WX.thenR (WX.blockR (WX.thenR (WX.ret_ [] (bv false) [] (fun fb => by kernel_rfl) trivial ⟨_, rfl, rfl, hS79.keep⟩)))))
    refine WC.condF2 (fun fb => by kernel_rfl) h81 ?_
    refine WC.skip ?_
    refine WX.blockN (WX.next ?_)
    refine WC.region ?_
    refine seg 3 [] [0, 3] [(0, (sv Aa p0 ca)), (3, (iv (w64 (x3 + 1))))] [] (fun fb => by kernel_rfl) rfl trivial ?_
    refine WL.done rfl ?_
    exact WX.again k8 (Nat.lt_succ_self _) (w64 (x3 + 1)) [0, 3] rfl ⟨(hS79.subR [0]).sub [] (by decide), hl11⟩
   refine WC.condF2 (fun fb => by kernel_rfl) h12 ?_
   refine WC.exit ?_
   injection hl11 with hl11
   exact WX.thenX (WX.thenX (WX.blockHere (WX.to Kx6 () [] rfl ⟨(hS10.subR [0]).sub [] (by decide), hl11.symm⟩)))
 rintro y85 w82 ⟨hS83, hq84⟩
 subst hq84
 have hf := sum_inr hf
 refine WX.next (WC.seq (WC.region ?_))
 refine seg 1 [] [2] [(2, (bv true))] [] (fun fb => by kernel_rfl) rfl trivial ?_
 refine WL.done rfl (WX.next ?_)
 refine WC.ret ?_
 injection hf with hf
 subst hf
 exact WX.ret_ [] (bv true) [] (fun fb => by kernel_rfl) trivial ⟨_, rfl, rfl, hS83.keep⟩
theorem ref02_Power_calls (k : Nat) (p0 : Int) (p1 : Int)  (r : Int) (w : World)  (hf : ref02_Power k p0 p1 = some r) :
  CallsR Tryd.prog 14 #[(iv p0), (iv p1)] w (fun v w' => v = (iv r) ∧ Keeps NoS w w') := by
 have hS : St NoS w w [] [] := St.init (ro_nil _ _)
 refine enter 17 Tryd.func14 rfl Tryd.ntmps14 rfl ?_
 unfold ref02_Power at hf
 refine WC.seq (WC.region ?_)
 refine seg 1 [] [0, 1] [(0, (iv p0)), (1, (iv p1))] [] (fun fb => by kernel_rfl) rfl trivial ?_
 refine WL.done rfl (WX.next (WC.seq (WC.region ?_)))
 refine seg 1 [] [0, 1, 5] [(0, (iv p0)), (1, (iv p1)), (5, (iv 1))] [] (fun fb => by kernel_rfl) rfl trivial ?_
 refine WL.done rfl (WX.next (WC.seq (WC.seq (WC.region ?_))))
 refine seg 1 [] [0, 1, 5, 6] [(0, (iv p0)), (1, (iv p1)), (5, (iv 1)), (6, (iv 0))] [] (fun fb => by kernel_rfl) rfl trivial ?_
 refine WL.done rfl (WX.next ?_)
 obtain ⟨x5, hx6, hf⟩ := bind_some hf
 refine WC.cutN (T := Int) (fun t => [(5, (iv t))]) (fun t w1 => St NoS w w1 [] [] ∧ x5 = t) (fun Kx5 => ?_) ?_
 ·
  refine WC.block ?_
  refine WC.loop (T := Int × Int) (fun t => [(0, (iv p0)), (1, (iv p1)), (5, (iv t.1)), (6, (iv t.2))]) (fun n t w1 => St NoS w w1 [] [] ∧ ref02_Power.l0 n t.1 t.2 p0 p1 = some x5) k (1, 0) [0, 1, 5, 6] rfl ⟨(hS.subR []).sub [] (by decide), hx6⟩ ?_
  rintro k7 ⟨x3, x4⟩ w8 ⟨hS9, hl10⟩
  cases k7 with
  | zero => rw [ref02_Power.l0] at hl10; cases hl10
  | succ k7 =>
   rw [ref02_Power.l0] at hl10
   refine WC.seq (WC.seq (WC.region ?_))
   refine seg 3 [] [0, 1, 5, 6, 9] [(0, (iv p0)), (1, (iv p1)), (5, (iv x3)), (6, (iv x4)), (9, (bv (decide (x4 < p1))))] [] (fun fb => by kernel_rfl) rfl trivial ?_
   refine WL.done rfl (WX.next ?_)
   rcases br_some hl10 with ⟨h11, hl10⟩ | ⟨h11, hl10⟩
   ·refine WC.condT2 (fun fb => by kernel_rfl) h11 ?_
    refine WC.skip (WX.next (WC.seq (WC.block (WC.region ?_))))
    refine seg 5 [] [0, 1, 5, 6] [(0, (iv p0)), (1, (iv p1)), (5, (iv (minI (w64 (x3 * p0)) 1000000))), (6, (iv x4))] [] (fun fb => by kernel_rfl) rfl trivial ?_
    refine WL.done rfl ?_
    refine WX.blockN (WX.next ?_)
    refine WC.region ?_
    refine seg 3 [] [0, 1, 5, 6] [(0, (iv p0)), (1, (iv p1)), (5, (iv (minI (w64 (x3 * p0)) 1000000))), (6, (iv (w64 (x4 + 1))))] [] (fun fb => by kernel_rfl) rfl trivial ?_
    refine WL.done rfl ?_
    exact WX.again k7 (Nat.lt_succ_self _) (minI (w64 (x3 * p0)) 1000000, w64 (x4 + 1)) [0, 1, 5, 6] rfl ⟨(hS9.subR []).sub [] (by decide), hl10⟩
   refine WC.condF2 (fun fb => by kernel_rfl) h11 ?_
   refine WC.exit ?_
   injection hl10 with hl10
   exact WX.thenX (WX.thenX (WX.blockHere (WX.to Kx5 x3 [5] rfl ⟨(hS9.subR []).sub [] (by decide), hl10.symm⟩)))
 rintro y16 w12 ⟨hS13, hq15⟩
 subst hq15
 refine WX.next (WC.seq (WC.region ?_))
 refine seg 2 [] [4] [(4, (iv x5))] [] (fun fb => by kernel_rfl) rfl trivial ?_
 refine WL.done rfl (WX.next ?_)
 refine WC.ret ?_
 injection hf with hf
 subst hf
 exact WX.ret_ [] (iv x5) [] (fun fb => by kernel_rfl) trivial ⟨_, rfl, rfl, hS13.keep⟩
theorem ref02_Great_calls (k : Nat) (p0 : List Tile) (p1 : Int) (Aa : Option Addr) (ca : Nat) (r : Bool) (w : World) (hR0 : RO NoS w (rowR enc_Tile Aa ca p0)) (hf : ref02_Great k p0 p1 = some r) :
  CallsR Tryd.prog 5 #[(sv Aa p0 ca), (iv p1)] w (fun v w' => v = (bv r) ∧ Keeps NoS w w') := by
 have hS : St NoS w w [rowR enc_Tile Aa ca p0] [] := St.init (ro_cons hR0 (ro_nil _ _))
 refine enter 10 Tryd.func5 rfl Tryd.ntmps5 rfl ?_
 unfold ref02_Great at hf
 refine WC.seq (WC.region ?_)
 refine seg 1 [] [0, 1] [(0, (sv Aa p0 ca)), (1, (iv p1))] [] (fun fb => by kernel_rfl) rfl trivial ?_
 refine WL.done rfl (WX.next (WC.seq (WC.region ?_)))
 refine seg 3 [] [6, 7] [(6, (iv (p0.length : Int))), (7, (iv p1))] [] (fun fb => by kernel_rfl) rfl trivial ?_
 obtain ⟨t3, ht4, hf⟩ := bind_some hf
 refine WL.call (some 8) 14 #[(iv (p0.length : Int)), (iv p1)] (fun fb => by kernel_rfl) (ref02_Power_calls _ (p0.length : Int) p1 t3 _ ht4) (fun v w6 hR7 => ?_)
 obtain ⟨rfl, hk_⟩ := hR7
 have hS8 := hS.keepN hk_
 refine ⟨trivial, ?_⟩
 refine seg 6 [] [4] [(4, (bv (decide (t3 > 5000))))] [] (fun fb => by kernel_rfl) rfl trivial ?_
 refine WL.done rfl (WX.next ?_)
 refine WC.ret ?_
 injection hf with hf
 subst hf
 exact WX.ret_ [] (bv (decide (t3 > 5000))) [] (fun fb => by kernel_rfl) trivial ⟨_, rfl, rfl, hS8.keep⟩
theorem ref02_at_calls (k : Nat) (p0 : List Int) (p1 : Int) (Aa : Option Addr) (ca : Nat) (r : Int) (w : World) (hR0 : RO NoS w (rowR encInt Aa ca p0)) (hf : ref02_at k p0 p1 = some r) :
  CallsR Tryd.prog 49 #[(sv Aa p0 ca), (iv p1)] w (fun v w' => v = (iv r) ∧ Keeps NoS w w') := by
 have hS : St NoS w w [rowR encInt Aa ca p0] [] := St.init (ro_cons hR0 (ro_nil _ _))
 refine enter 19 Tryd.func49 rfl Tryd.ntmps49 rfl ?_
 unfold ref02_at at hf
 refine WC.seq (WC.region ?_)
 refine seg 1 [] [0, 1] [(0, (sv Aa p0 ca)), (1, (iv p1))] [] (fun fb => by kernel_rfl) rfl trivial ?_
 refine WL.done rfl (WX.next (WC.seq (WC.seq (WC.region ?_))))
 refine seg 1 [] [0, 1, 5] [(0, (sv Aa p0 ca)), (1, (iv p1)), (5, (iv 0))] [] (fun fb => by kernel_rfl) rfl trivial ?_
 refine WL.done rfl (WX.next ?_)
 obtain ⟨x4, hx5, hf⟩ := bind_some hf
 refine WC.cutN (T := Unit) (fun t => []) (fun t w1 => St NoS w w1 [rowR encInt Aa ca p0] [] ∧ x4 = .inr t) (fun Kx4 => ?_) ?_
 ·
  refine WC.block ?_
  refine WC.loop (T := Int) (fun t => [(0, (sv Aa p0 ca)), (1, (iv p1)), (5, (iv t))]) (fun n t w1 => St NoS w w1 [rowR encInt Aa ca p0] [] ∧ ref02_at.l0 n t p0 p1 = some x4) k 0 [0, 1, 5] rfl ⟨(hS.subR [0]).sub [] (by decide), hx5⟩ ?_
  rintro k6 x3 w7 ⟨hS8, hl9⟩
  cases k6 with
  | zero => rw [ref02_at.l0] at hl9; cases hl9
  | succ k6 =>
   rw [ref02_at.l0] at hl9
   refine WC.seq (WC.seq (WC.region ?_))
   refine seg 4 [] [0, 1, 5, 9] [(0, (sv Aa p0 ca)), (1, (iv p1)), (5, (iv x3)), (9, (bv (decide (x3 < (p0.length : Int)))))] [] (fun fb => by kernel_rfl) rfl trivial ?_
   refine WL.done rfl (WX.next ?_)
   rcases br_some hl9 with ⟨h10, hl9⟩ | ⟨h10, hl9⟩
   ·refine WC.condT2 (fun fb => by kernel_rfl) h10 ?_
    refine WC.skip (WX.next (WC.seq (WC.block (WC.seq (WC.region ?_)))))
    refine seg 2 [] [0, 1, 5, 12, 13] [(0, (sv Aa p0 ca)), (1, (iv p1)), (5, (iv x3)), (12, (sv Aa p0 ca)), (13, (iv x3))] [] (fun fb => by kernel_rfl) rfl trivial ?_
    obtain ⟨h11, hl9⟩ := as_some hl9
    refine seg 6 [.v (iv (rdD p0 x3 0))] [0, 1, 5, 17] [(0, (sv Aa p0 ca)), (1, (iv p1)), (5, (iv x3)), (17, (bv ((rdD p0 x3 0) == p1)))] [.idx Aa x3 p0.length, .cell ((adr Aa).add ((x3).toNat * 1)) (iv (rdD p0 x3 0))] (fun fb => by kernel_rfl) rfl ⟨rowR.adr (hS8.rd 0).1 h11.1 h11.2, rowR.cell (hS8.rd 0).1 0 h11.1 h11.2 0 rfl, trivial⟩ ?_
    refine WL.done rfl (WX.next ?_)
    rcases br_some hl9 with ⟨h12, hl9⟩ | ⟨h12, hl9⟩
    ·refine WC.condT2 (fun fb => by kernel_rfl) h12 ?_
     refine WC.seq (WC.region ?_)
     refine seg 2 [] [4] [(4, (iv x3))] [] (fun fb => by kernel_rfl) rfl trivial ?_
     refine WL.done rfl (WX.next ?_)
     refine WC.ret ?_
     injection hl9 with hl9
     subst hl9
     injection hf with hf
     subst hf
     exact WX.blockR (WX.thenR (WX.thenR (WX.blockR (WX.thenR (WX.ret_ [] (iv x3) [] (fun fb => by kernel_rfl) trivial ⟨_, rfl, rfl, hS8.keep⟩)))))
    refine WC.condF2 (fun fb => by kernel_rfl) h12 ?_
    refine WC.skip ?_
    refine WX.blockN (WX.next ?_)
    refine WC.region ?_
    refine seg 3 [] [0, 1, 5] [(0, (sv Aa p0 ca)), (1, (iv p1)), (5, (iv (w64 (x3 + 1))))] [] (fun fb => by kernel_rfl) rfl trivial ?_
    refine WL.done rfl ?_
    exact WX.again k6 (Nat.lt_succ_self _) (w64 (x3 + 1)) [0, 1, 5] rfl ⟨(hS8.subR [0]).sub [] (by decide), hl9⟩
   refine WC.condF2 (fun fb => by kernel_rfl) h10 ?_
   refine WC.exit ?_
   injection hl9 with hl9
   exact WX.thenX (WX.thenX (WX.blockHere (WX.to Kx4 () [] rfl ⟨(hS8.subR [0]).sub [] (by decide), hl9.symm⟩)))
 rintro y16 w13 ⟨hS14, hq15⟩
 subst hq15
 have hf := sum_inr hf
 refine WX.next (WC.seq (WC.region ?_))
 refine seg 1 [] [4] [(4, (iv (-1)))] [] (fun fb => by kernel_rfl) rfl trivial ?_
 refine WL.done rfl (WX.next ?_)
 refine WC.ret ?_
 injection hf with hf
 subst hf
 exact WX.ret_ [] (iv (-1)) [] (fun fb => by kernel_rfl) trivial ⟨_, rfl, rfl, hS14.keep⟩
theorem ref02_with_calls (k : Nat) (p0 : List Int) (p1 : Int) (Aa : Option Addr) (ca : Nat) (r : (List Int)) (w : World) (hI : IoOK w [rowO 3 encInt Aa ca p0]) (hf : ref02_with k p0 p1 = some r) :
  CallsR Tryd.prog 37 #[(sv Aa p0 ca), (iv p1)] w (fun v w' => ∃ (A1_ : Option Addr), ∃ (c1_ : Nat), v = (sv A1_ r c1_) ∧ St (fpL [rowO 3 encInt Aa ca p0]) w w' [] [rowO 3 encInt A1_ c1_ r]) := by
 have hS : St (fpL [rowO 3 encInt Aa ca p0]) w w [] [rowO 3 encInt Aa ca p0] := St.initIO (ro_nil _ _) hI
 refine enter 14 Tryd.func37 rfl Tryd.ntmps37 rfl ?_
 unfold ref02_with at hf
 refine WC.seq (WC.region ?_)
 refine seg 1 [] [0, 1] [(0, (sv Aa p0 ca)), (1, (iv p1))] [] (fun fb => by kernel_rfl) rfl trivial ?_
 refine WL.done rfl (WX.next (WC.seq (WC.seq (WC.region ?_))))
 refine seg 2 [] [0, 1, 5, 6] [(0, (sv Aa p0 ca)), (1, (iv p1)), (5, (sv Aa p0 ca)), (6, (iv p1))] [] (fun fb => by kernel_rfl) rfl trivial ?_
 obtain ⟨t3, ht4, hf⟩ := bind_some hf
 refine WL.call (some 7) 49 #[(sv Aa p0 ca), (iv p1)] (fun fb => by kernel_rfl) (ref02_at_calls _ p0 p1 Aa ca t3 _ (hS.ow 0).ofO ht4) (fun v w5 hR6 => ?_)
 obtain ⟨rfl, hk_⟩ := hR6
 have hS7 := hS.keepN hk_
 refine ⟨trivial, ?_⟩
 refine seg 4 [] [0, 1, 8] [(0, (sv Aa p0 ca)), (1, (iv p1)), (8, (bv (decide (t3 < 0))))] [] (fun fb => by kernel_rfl) rfl trivial ?_
 refine WL.done rfl (WX.next ?_)
 obtain ⟨x10, hx11, hf⟩ := bind_some hf
 refine WC.cutN (T := (List Int) × (Option Addr) × Nat) (fun t => [(0, (sv t.2.1 t.1 t.2.2))]) (fun t w1 => St (fpL [rowO 3 encInt Aa ca p0]) w w1 [] [rowO 3 encInt t.2.1 t.2.2 t.1] ∧ x10 = t.1) (fun Kx10 => ?_) ?_
 ·
  rcases br_some hx11 with ⟨h12, hx11⟩ | ⟨h12, hx11⟩
  ·refine WC.condT2 (fun fb => by kernel_rfl) h12 ?_
   refine WC.region ?_
   refine seg 2 [] [9, 10] [(9, (sv Aa p0 ca)), (10, (iv p1))] [] (fun fb => by kernel_rfl) rfl trivial ?_
   refine WL.new hS7 11 [] (fun g => (.slice (some ⟨g, 0, none⟩) 1 1)) (.cells #[(iv p1)] 3 (0, 0)) [] (fun fb g => by kernel_rfl) trivial (fun g13 w14 hS15 => ?_)
   refine ⟨trivial, ?_⟩
   have hS16 := hS.go w14 [rowO 3 encInt (some ⟨g13, 0, none⟩) 1 [p1], rowO 3 encInt Aa ca p0] (hS15.map1 0 _ (fun h => rowO.ofBlk h rfl (Nat.le_of_ble_eq_true (by kernel_rfl))) (fun _ h => by obtain ⟨_, h1, h2⟩ := h; injection h1 with h1; subst h1; exact h2) [1] (by decide) (by decide))
   obtain ⟨h17, hx11⟩ := as_some hx11
   refine WL.append hS16 1 (d := 12) (tS := 23) (z := (iv 0)) (bytes := 8) (c2 := 1) rfl (fun fb => by kernel_rfl) (rowO.rd (hS16.own 0).1) (by kernel_rfl) (by kernel_rfl) rfl (by decide) h17 (by decide) [0] (by decide) (by decide) (fun A18 c19 w20 hS21 => ?_)
   refine ⟨trivial, ?_⟩
   refine seg 5 [] [0] [(0, (sv A18 (p0 ++ [p1]) c19))] [] (fun fb => by kernel_rfl) rfl trivial ?_
   refine WL.done rfl ?_
   injection hx11 with hx11
   exact WX.to Kx10 (p0 ++ [p1], A18, c19) [0] rfl ⟨(hS21.subR []).sub [0] (by decide), hx11.symm⟩
  refine WC.condF2 (fun fb => by kernel_rfl) h12 ?_
  refine WC.skip ?_
  injection hx11 with hx11
  exact WX.to Kx10 (p0, Aa, ca) [0] rfl ⟨(hS7.subR []).sub [0] (by decide), hx11.symm⟩
 rintro ⟨y25, A8, c9⟩ w22 ⟨hS23, hq24⟩
 subst hq24
 refine WX.next (WC.seq (WC.region ?_))
 refine seg 2 [] [4] [(4, (sv A8 x10 c9))] [] (fun fb => by kernel_rfl) rfl trivial ?_
 refine WL.done rfl (WX.next ?_)
 refine WC.ret ?_
 injection hf with hf
 subst hf
 exact WX.ret_ [] (sv A8 x10 c9) [] (fun fb => by kernel_rfl) trivial ⟨_, rfl, A8, c9, rfl, (hS23.sub [0] (by decide)).noR⟩
theorem ref02_Colours_calls (k : Nat) (p0 : List Tile) (Aa : Option Addr) (ca : Nat) (r : (List Int)) (w : World) (hR0 : RO NoS w (rowR enc_Tile Aa ca p0)) (hf : ref02_Colours k p0 = some r) :
  CallsR Tryd.prog 25 #[(sv Aa p0 ca)] w (fun v w' => ∃ (A1_ : Option Addr), ∃ (c1_ : Nat), v = (sv A1_ r c1_) ∧ St NoS w w' [] [rowO 3 encInt A1_ c1_ r]) := by
 have hS : St NoS w w [rowR enc_Tile Aa ca p0] [] := St.init (ro_cons hR0 (ro_nil _ _))
 refine enter 25 Tryd.func25 rfl Tryd.ntmps25 rfl ?_
 unfold ref02_Colours at hf
 refine WC.seq (WC.region ?_)
 refine seg 1 [] [0] [(0, (sv Aa p0 ca))] [] (fun fb => by kernel_rfl) rfl trivial ?_
 refine WL.done rfl (WX.next (WC.seq (WC.region ?_)))
 refine seg 1 [] [0, 3] [(0, (sv Aa p0 ca)), (3, (.slice none 0 0))] [] (fun fb => by kernel_rfl) rfl trivial ?_
 refine WL.done rfl (WX.next (WC.seq (WC.seq (WC.region ?_))))
 refine seg 1 [] [0, 3, 4] [(0, (sv Aa p0 ca)), (3, (.slice none 0 0)), (4, (iv 0))] [] (fun fb => by kernel_rfl) rfl trivial ?_
 refine WL.done rfl (WX.next ?_)
 have hS3 := hS.nilrow 3 encInt
 obtain ⟨x10, hx11, hf⟩ := bind_some hf
 refine WC.cutN (T := (List Int) × (Option Addr) × Nat) (fun t => [(3, (sv t.2.1 t.1 t.2.2))]) (fun t w1 => St NoS w w1 [rowR enc_Tile Aa ca p0] [rowO 3 encInt t.2.1 t.2.2 t.1] ∧ x10 = t.1) (fun Kx10 => ?_) ?_
 ·
  refine WC.block ?_
  refine WC.loop (T := ((List Int) × Int) × (Option Addr) × Nat) (fun t => [(0, (sv Aa p0 ca)), (3, (sv t.2.1 t.1.1 t.2.2)), (4, (iv t.1.2))]) (fun n t w1 => St NoS w w1 [rowR enc_Tile Aa ca p0] [rowO 3 encInt t.2.1 t.2.2 t.1.1] ∧ ref02_Colours.l0 n t.1.1 t.1.2 p0 = some x10) k ((([] : List Int), 0), none, 0) [0, 3, 4] rfl ⟨(hS3.subR [0]).sub [0] (by decide), hx11⟩ ?_
  rintro k12 ⟨⟨l6, x7⟩, A4, c5⟩ w13 ⟨hS14, hl15⟩
  cases k12 with
  | zero => rw [ref02_Colours.l0] at hl15; cases hl15
  | succ k12 =>
   rw [ref02_Colours.l0] at hl15
   refine WC.seq (WC.seq (WC.region ?_))
   refine seg 4 [] [0, 3, 4, 8] [(0, (sv Aa p0 ca)), (3, (sv A4 l6 c5)), (4, (iv x7)), (8, (bv (decide (x7 < (p0.length : Int)))))] [] (fun fb => by kernel_rfl) rfl trivial ?_
   refine WL.done rfl (WX.next ?_)
   rcases br_some hl15 with ⟨h16, hl15⟩ | ⟨h16, hl15⟩
   ·refine WC.condT2 (fun fb => by kernel_rfl) h16 ?_
    refine WC.skip (WX.next (WC.seq (WC.block ?_)))
    obtain ⟨h19, hl15⟩ := as_some hl15
    refine WC.regionD ([(5, ((adr Aa).add ((x7).toNat * 4)), (iv ((rdD p0 x7 z_Tile).N))), (11, (((adr Aa).add ((x7).toNat * 4)).add 2), (iv ((rdD p0 x7 z_Tile).S)))], [0, 1, 2, 3, 4, 5, 7, 8, 9, 10, 11, 13], [[], [], [], [1, 2], [1, 2, 3], [1, 2, 3, 4], [0, 1, 2, 3, 4, 5], [], [], [7, 8], [7, 8, 9], [7, 8, 9, 10], [0, 1, 2, 3, 4, 5, 6, 7, 8, 9, 10, 11], [0, 1, 2, 3, 4, 5, 6, 7, 8, 9, 10, 11, 12]]) [[0, 1, 2, 3, 4, 5, 7, 8, 9, 10, 11, 6, 12, 13]] (by kernel_rfl) (by kernel_rfl) (NoPanic.block (NoPanic.seq (NoPanic.seq (NoPanic.block (NoPanic.seq (NoPanic.body)))))) ?_
    have hS18 := hS14.drew
    revert hS18
    generalize World.drew w13 = w17
    intro hS18
    refine ⟨⟨rowR.cell (hS18.rd 0).1 z_Tile h19.1 h19.2 0 rfl, rowR.cell (hS18.rd 0).1 z_Tile h19.1 h19.2 2 rfl, trivial⟩, forallC ?_ (forallN)⟩
    refine segF 11 [.v (iv ((rdD p0 x7 z_Tile).N)), .v (iv ((rdD p0 x7 z_Tile).S))] [0, 4, 11, 16, 22] [(0, (sv Aa p0 ca)), (4, (iv x7)), (11, (sv A4 l6 c5)), (16, (iv ((rdD p0 x7 z_Tile).N))), (22, (iv ((rdD p0 x7 z_Tile).S)))] [.idx Aa x7 p0.length, .idx Aa x7 p0.length] [0, 1] [(5, ((adr Aa).add ((x7).toNat * 4)), (iv ((rdD p0 x7 z_Tile).N))), (11, (((adr Aa).add ((x7).toNat * 4)).add 2), (iv ((rdD p0 x7 z_Tile).S)))] (fun fb => by kernel_rfl) rfl ⟨rowR.adr (hS18.rd 0).1 h19.1 h19.2, rowR.adr (hS18.rd 0).1 h19.1 h19.2, trivial⟩ rfl ?_
    obtain ⟨t20, ht21, hl15⟩ := bind_some hl15
    refine WL.call (some 17) 37 #[(sv A4 l6 c5), (iv ((rdD p0 x7 z_Tile).N))] (fun fb => by kernel_rfl) (ref02_with_calls _ l6 ((rdD p0 x7 z_Tile).N) A4 c5 t20 _ (hS18.io [0] (by decide)) ht21) (fun v w22 hR23 => ?_)
    obtain ⟨A26, c27, rfl, hk_⟩ := hR23
    have hS24 := hS.go w22 [rowO 3 encInt A26 c27 t20] (hS18.call hk_ [0] [] (fun g hg => fpL_sel g hg) (by decide) (by decide))
    refine ⟨⟨rowR.cell (hS24.rd 0).1 z_Tile h19.1 h19.2 2 rfl, trivial⟩, ?_⟩
    obtain ⟨t28, ht29, hl15⟩ := bind_some hl15
    refine WL.call (some 23) 37 #[(sv A26 t20 c27), (iv ((rdD p0 x7 z_Tile).S))] (fun fb => by kernel_rfl) (ref02_with_calls _ t20 ((rdD p0 x7 z_Tile).S) A26 c27 t28 _ (hS24.io [0] (by decide)) ht29) (fun v w30 hR31 => ?_)
    obtain ⟨A33, c34, rfl, hk_⟩ := hR31
    have hS32 := hS24.go w30 [rowO 3 encInt A33 c34 t28] (hS24.call hk_ [0] [] (fun g hg => fpL_sel g hg) (by decide) (by decide))
    refine ⟨trivial, ?_⟩
    refine seg 14 [] [0, 3, 4] [(0, (sv Aa p0 ca)), (3, (sv A33 t28 c34)), (4, (iv x7))] [] (fun fb => by kernel_rfl) rfl trivial ?_
    refine WL.done rfl ?_
    refine WX.blockN (WX.next ?_)
    refine WC.region ?_
    refine seg 3 [] [0, 3, 4] [(0, (sv Aa p0 ca)), (3, (sv A33 t28 c34)), (4, (iv (w64 (x7 + 1))))] [] (fun fb => by kernel_rfl) rfl trivial ?_
    refine WL.done rfl ?_
    exact WX.again k12 (Nat.lt_succ_self _) ((t28, w64 (x7 + 1)), A33, c34) [0, 3, 4] rfl ⟨(hS32.subR [0]).sub [0] (by decide), hl15⟩
   refine WC.condF2 (fun fb => by kernel_rfl) h16 ?_
   refine WC.exit ?_
   injection hl15 with hl15
   exact WX.thenX (WX.thenX (WX.blockHere (WX.to Kx10 (l6, A4, c5) [3] rfl ⟨(hS14.subR [0]).sub [0] (by decide), hl15.symm⟩)))
 rintro ⟨y38, A8, c9⟩ w35 ⟨hS36, hq37⟩
 subst hq37
 refine WX.next (WC.seq (WC.region ?_))
 refine seg 2 [] [2] [(2, (sv A8 x10 c9))] [] (fun fb => by kernel_rfl) rfl trivial ?_
 refine WL.done rfl (WX.next ?_)
 refine WC.ret ?_
 injection hf with hf
 subst hf
 exact WX.ret_ [] (sv A8 x10 c9) [] (fun fb => by kernel_rfl) trivial ⟨_, rfl, A8, c9, rfl, (hS36.sub [0] (by decide)).noR⟩
theorem ref02_Light_calls (k : Nat) (p0 : List Tile) (p1 : Int) (Aa : Option Addr) (ca : Nat) (r : Bool) (w : World) (hR0 : RO NoS w (rowR enc_Tile Aa ca p0)) (hf : ref02_Light k p0 p1 = some r) :
  CallsR Tryd.prog 15 #[(sv Aa p0 ca), (iv p1)] w (fun v w' => v = (bv r) ∧ Keeps NoS w w') := by
 have hS : St NoS w w [rowR enc_Tile Aa ca p0] [] := St.init (ro_cons hR0 (ro_nil _ _))
 refine enter 18 Tryd.func15 rfl Tryd.ntmps15 rfl ?_
 unfold ref02_Light at hf
 refine WC.seq (WC.region ?_)
 refine seg 1 [] [0, 1] [(0, (sv Aa p0 ca)), (1, (iv p1))] [] (fun fb => by kernel_rfl) rfl trivial ?_
 refine WL.done rfl (WX.next (WC.seq (WC.region ?_)))
 refine seg 1 [] [0, 1, 5] [(0, (sv Aa p0 ca)), (1, (iv p1)), (5, (sv Aa p0 ca))] [] (fun fb => by kernel_rfl) rfl trivial ?_
 obtain ⟨t3, ht4, hf⟩ := bind_some hf
 refine WL.call (some 6) 25 #[(sv Aa p0 ca)] (fun fb => by kernel_rfl) (ref02_Colours_calls _ p0 Aa ca t3 _ (hS.rd 0) ht4) (fun v w5 hR6 => ?_)
 obtain ⟨A8, c9, rfl, hk_⟩ := hR6
 have hS7 := hS.go w5 [rowO 3 encInt A8 c9 t3] (hS.call hk_ [] [] (fun g hg => hg.elim) (by simp) (by decide))
 refine ⟨trivial, ?_⟩
 refine seg 4 [] [0, 1, 7, 8] [(0, (sv Aa p0 ca)), (1, (iv p1)), (7, (iv (t3.length : Int))), (8, (iv p1))] [] (fun fb => by kernel_rfl) rfl trivial ?_
 obtain ⟨t10, ht11, hf⟩ := bind_some hf
 refine WL.call (some 9) 14 #[(iv (t3.length : Int)), (iv p1)] (fun fb => by kernel_rfl) (ref02_Power_calls _ (t3.length : Int) p1 t10 _ ht11) (fun v w12 hR13 => ?_)
 obtain ⟨rfl, hk_⟩ := hR13
 have hS14 := hS7.keepN hk_
 refine ⟨trivial, ?_⟩
 refine seg 7 [] [0, 1, 11] [(0, (sv Aa p0 ca)), (1, (iv p1)), (11, (bv (decide (t10 ≤ 1500))))] [] (fun fb => by kernel_rfl) rfl trivial ?_
 obtain ⟨x16, hx17, hf⟩ := bind_some hf
 refine WL.cutW (T := Bool) 13 (fun t => [(17, (bv t))]) (fun t w1 => (St NoS w w1 [rowR enc_Tile Aa ca p0] [] ∧ x16 = t) ∧ CellsOK [] w1) (fun K => ?_) ?_
 ·
  rcases br_some hx17 with ⟨h18, hx17⟩ | ⟨h18, hx17⟩
  ·
   refine WL.setB 11 h18 rfl ?_
   refine seg 10 [] [11, 13, 14] [(11, (bv true)), (13, (iv (p0.length : Int))), (14, (iv p1))] [] (fun fb => by kernel_rfl) rfl trivial ?_
   obtain ⟨t19, ht20, hx17⟩ := bind_some hx17
   refine WL.call (some 15) 14 #[(iv (p0.length : Int)), (iv p1)] (fun fb => by kernel_rfl) (ref02_Power_calls _ (p0.length : Int) p1 t19 _ ht20) (fun v w21 hR22 => ?_)
   obtain ⟨rfl, hk_⟩ := hR22
   have hS23 := hS14.keepN hk_
   refine ⟨trivial, ?_⟩
   refine seg 13 [] [17] [(17, (bv (decide (t19 ≤ 40000))))] [] (fun fb => by kernel_rfl) rfl trivial ?_
   injection hx17 with hx17
   exact WL.to K (decide (t19 ≤ 40000)) [17] rfl ⟨⟨(hS23.subR [0]).sub [] (by decide), hx17.symm⟩, trivial⟩
  refine WL.setB 11 h18 rfl ?_
  refine seg 13 [] [17] [(17, (bv false))] [] (fun fb => by kernel_rfl) rfl trivial ?_
  injection hx17 with hx17
  exact WL.to K false [17] rfl ⟨⟨(hS14.subR [0]).sub [] (by decide), hx17.symm⟩, trivial⟩
 rintro y24 w26 ⟨⟨hS27, hq25⟩, hF28⟩
 subst hq25
 refine seg 14 [] [4] [(4, (bv x16))] [] (fun fb => by kernel_rfl) rfl trivial ?_
 refine WL.done rfl (WX.next ?_)
 refine WC.ret ?_
 injection hf with hf
 subst hf
 exact WX.ret_ [] (bv x16) [] (fun fb => by kernel_rfl) trivial ⟨_, rfl, rfl, hS27.keep⟩
theorem law05_heavy_calls (k : Nat) (p0 : List Tile) (p1 : Int) (Aa : Option Addr) (ca : Nat) (r : Bool) (w : World) (hR0 : RO NoS w (rowR enc_Tile Aa ca p0)) (hf : law05_heavy k p0 p1 = some r) :
  CallsR Tryd.prog 6 #[(sv Aa p0 ca), (iv p1)] w (fun v w' => v = (bv r) ∧ Keeps NoS w w') := by
 have hS : St NoS w w [rowR enc_Tile Aa ca p0] [] := St.init (ro_cons hR0 (ro_nil _ _))
 refine enter 14 Tryd.func6 rfl Tryd.ntmps6 rfl ?_
 unfold law05_heavy at hf
 refine WC.seq (WC.region ?_)
 refine seg 1 [] [0, 1] [(0, (sv Aa p0 ca)), (1, (iv p1))] [] (fun fb => by kernel_rfl) rfl trivial ?_
 refine WL.done rfl (WX.next (WC.seq (WC.region ?_)))
 refine seg 4 [] [0, 1, 8] [(0, (sv Aa p0 ca)), (1, (iv p1)), (8, (bv (decide ((p0.length : Int) > 60))))] [] (fun fb => by kernel_rfl) rfl trivial ?_
 obtain ⟨x3, hx4, hf⟩ := bind_some hf
 refine WL.cutW (T := Bool) 9 (fun t => [(13, (bv t))]) (fun t w1 => (St NoS w w1 [rowR enc_Tile Aa ca p0] [] ∧ x3 = t) ∧ CellsOK [] w1) (fun K => ?_) ?_
 ·
  rcases br_some hx4 with ⟨h7, hx4⟩ | ⟨h7, hx4⟩
  ·
   refine WL.setB 8 h7 rfl ?_
   refine seg 9 [] [13] [(13, (bv true))] [] (fun fb => by kernel_rfl) rfl trivial ?_
   injection hx4 with hx4
   exact WL.to K true [13] rfl ⟨⟨(hS.subR [0]).sub [] (by decide), hx4.symm⟩, trivial⟩
  refine WL.setB 8 h7 rfl ?_
  refine seg 6 [] [8, 9, 10] [(8, (bv false)), (9, (sv Aa p0 ca)), (10, (iv p1))] [] (fun fb => by kernel_rfl) rfl trivial ?_
  obtain ⟨t8, ht9, hx4⟩ := bind_some hx4
  refine WL.call (some 11) 15 #[(sv Aa p0 ca), (iv p1)] (fun fb => by kernel_rfl) (ref02_Light_calls _ p0 p1 Aa ca t8 _ (hS.rd 0) ht9) (fun v w10 hR11 => ?_)
  obtain ⟨rfl, hk_⟩ := hR11
  have hS12 := hS.keepN hk_
  refine ⟨trivial, ?_⟩
  refine seg 9 [] [13] [(13, (bv (!t8)))] [] (fun fb => by kernel_rfl) rfl trivial ?_
  injection hx4 with hx4
  exact WL.to K (!t8) [13] rfl ⟨⟨(hS12.subR [0]).sub [] (by decide), hx4.symm⟩, trivial⟩
 rintro y13 w15 ⟨⟨hS16, hq14⟩, hF17⟩
 subst hq14
 refine seg 10 [] [4] [(4, (bv x3))] [] (fun fb => by kernel_rfl) rfl trivial ?_
 refine WL.done rfl (WX.next ?_)
 refine WC.ret ?_
 injection hf with hf
 subst hf
 exact WX.ret_ [] (bv x3) [] (fun fb => by kernel_rfl) trivial ⟨_, rfl, rfl, hS16.keep⟩
theorem tile_colour_1_calls (p0 : Int)  (r : Bool) (w : World)  (hf : tile_colour_1 p0 = some r) :
  CallsR Tryd.prog 47 #[(iv p0)] w (fun v w' => v = (bv r) ∧ Keeps NoS w w') := by
 have hS : St NoS w w [] [] := St.init (ro_nil _ _)
 refine enter 9 Tryd.func47 rfl Tryd.ntmps47 rfl ?_
 unfold tile_colour_1 at hf
 refine WC.seq (WC.region ?_)
 refine seg 1 [] [0] [(0, (iv p0))] [] (fun fb => by kernel_rfl) rfl trivial ?_
 refine WL.done rfl (WX.next (WC.seq (WC.region ?_)))
 refine seg 3 [] [0, 5] [(0, (iv p0)), (5, (bv (decide (p0 < 0))))] [] (fun fb => by kernel_rfl) rfl trivial ?_
 refine WL.cutV (T := Bool) 6 (fun t => [(8, (bv t))]) (fun t => ((decide (p0 < 0)) || (decide (p0 ≥ 1000))) = t) (fun K => ?_) ?_
 ·
  rcases Bool.eq_false_or_eq_true (decide (p0 < 0)) with h2 | h2
  ·
   refine WL.setB 5 h2 rfl ?_
   refine seg 6 [] [8] [(8, (bv true))] [] (fun fb => by kernel_rfl) rfl trivial ?_
   exact WL.toV K true [8] rfl (by first | (rw [h2]; done) | (rw [h2]; rfl))
  refine WL.setB 5 h2 rfl ?_
  refine seg 6 [] [8] [(8, (bv (decide (p0 ≥ 1000))))] [] (fun fb => by kernel_rfl) rfl trivial ?_
  exact WL.toV K (decide (p0 ≥ 1000)) [8] rfl (by first | (rw [h2]; done) | (rw [h2]; rfl))
 rintro b3 rfl
 refine seg 7 [] [2] [(2, (bv ((decide (p0 < 0)) || (decide (p0 ≥ 1000)))))] [] (fun fb => by kernel_rfl) rfl trivial ?_
 refine WL.done rfl (WX.next ?_)
 refine WC.ret ?_
 injection hf with hf
 subst hf
 exact WX.ret_ [] (bv ((decide (p0 < 0)) || (decide (p0 ≥ 1000)))) [] (fun fb => by kernel_rfl) trivial ⟨_, rfl, rfl, hS.keep⟩
theorem slices_IndexFunc_int_int_with_tile_colour_1_calls (k : Nat) (p0 : List Int) (Aa : Option Addr) (ca : Nat) (r : Int) (w : World) (hR0 : RO NoS w (rowR encInt Aa ca p0)) (hf : slices_IndexFunc_int_int_with_tile_colour_1 k p0 = some r) :
  CallsR Tryd.prog 46 #[(sv Aa p0 ca), (.func (.func 47) #[] #[])] w (fun v w' => v = (iv r) ∧ Keeps NoS w w') := by
 have hS : St NoS w w [rowR encInt Aa ca p0] [] := St.init (ro_cons hR0 (ro_nil _ _))
 refine enter 19 Tryd.func46 rfl Tryd.ntmps46 rfl ?_
 unfold slices_IndexFunc_int_int_with_tile_colour_1 at hf
 refine WC.seq (WC.region ?_)
 refine seg 1 [] [0, 1] [(0, (sv Aa p0 ca)), (1, (.func (.func 47) #[] #[]))] [] (fun fb => by kernel_rfl) rfl trivial ?_
 refine WL.done rfl (WX.next (WC.seq (WC.seq (WC.region ?_))))
 refine seg 3 [] [0, 1, 7, 8] [(0, (sv Aa p0 ca)), (1, (.func (.func 47) #[] #[])), (7, (iv (p0.length : Int))), (8, (iv 0))] [] (fun fb => by kernel_rfl) rfl trivial ?_
 refine WL.done rfl (WX.next ?_)
 obtain ⟨x4, hx5, hf⟩ := bind_some hf
 refine WC.cutN (T := Unit) (fun t => []) (fun t w1 => St NoS w w1 [rowR encInt Aa ca p0] [] ∧ x4 = .inr t) (fun Kx4 => ?_) ?_
 ·
  refine WC.block ?_
  refine WC.loop (T := Int) (fun t => [(0, (sv Aa p0 ca)), (1, (.func (.func 47) #[] #[])), (7, (iv (p0.length : Int))), (8, (iv t))]) (fun n t w1 => St NoS w w1 [rowR encInt Aa ca p0] [] ∧ slices_IndexFunc_int_int_with_tile_colour_1.l0 n t p0 = some x4) k 0 [0, 1, 7, 8] rfl ⟨(hS.subR [0]).sub [] (by decide), hx5⟩ ?_
  rintro k6 x3 w7 ⟨hS8, hl9⟩
  cases k6 with
  | zero => rw [slices_IndexFunc_int_int_with_tile_colour_1.l0] at hl9; cases hl9
  | succ k6 =>
   rw [slices_IndexFunc_int_int_with_tile_colour_1.l0] at hl9
   refine WC.seq (WC.region ?_)
   refine seg 1 [] [0, 1, 7, 8, 9] [(0, (sv Aa p0 ca)), (1, (.func (.func 47) #[] #[])), (7, (iv (p0.length : Int))), (8, (iv x3)), (9, (bv (decide (x3 < (p0.length : Int)))))] [] (fun fb => by kernel_rfl) rfl trivial ?_
   refine WL.done rfl (WX.next (WC.seq ?_))
   rcases br_some hl9 with ⟨h10, hl9⟩ | ⟨h10, hl9⟩
   ·refine WC.condT2 (fun fb => by kernel_rfl) h10 ?_
    refine WC.skip (WX.next (WC.seq (WC.block (WC.seq (WC.region ?_)))))
    refine seg 2 [] [0, 1, 5, 7, 8] [(0, (sv Aa p0 ca)), (1, (.func (.func 47) #[] #[])), (5, (iv x3)), (7, (iv (p0.length : Int))), (8, (iv x3))] [] (fun fb => by kernel_rfl) rfl trivial ?_
    refine WL.done rfl (WX.next (WC.seq (WC.region ?_)))
    refine seg 3 [] [0, 1, 5, 7, 8, 11, 12, 13] [(0, (sv Aa p0 ca)), (1, (.func (.func 47) #[] #[])), (5, (iv x3)), (7, (iv (p0.length : Int))), (8, (iv x3)), (11, (.func (.func 47) #[] #[])), (12, (sv Aa p0 ca)), (13, (iv x3))] [] (fun fb => by kernel_rfl) rfl trivial ?_
    obtain ⟨h11, hl9⟩ := as_some hl9
    refine seg 5 [.v (iv (rdD p0 x3 0))] [0, 1, 5, 7, 8, 11, 15] [(0, (sv Aa p0 ca)), (1, (.func (.func 47) #[] #[])), (5, (iv x3)), (7, (iv (p0.length : Int))), (8, (iv x3)), (11, (.func (.func 47) #[] #[])), (15, (iv (rdD p0 x3 0)))] [.idx Aa x3 p0.length, .cell ((adr Aa).add ((x3).toNat * 1)) (iv (rdD p0 x3 0))] (fun fb => by kernel_rfl) rfl ⟨rowR.adr (hS8.rd 0).1 h11.1 h11.2, rowR.cell (hS8.rd 0).1 0 h11.1 h11.2 0 rfl, trivial⟩ ?_
    obtain ⟨t12, ht13, hl9⟩ := bind_some hl9
    refine WL.call (some 16) 47 #[(iv (rdD p0 x3 0))] (fun fb => by kernel_rfl) (tile_colour_1_calls (rdD p0 x3 0) t12 _ ht13) (fun v w14 hR15 => ?_)
    obtain ⟨rfl, hk_⟩ := hR15
    have hS16 := hS8.keepN hk_
    refine ⟨trivial, ?_⟩
    refine WL.done rfl (WX.next ?_)
    rcases br_some hl9 with ⟨h17, hl9⟩ | ⟨h17, hl9⟩
    ·refine WC.condT2 (fun fb => by kernel_rfl) h17 ?_
     refine WC.seq (WC.region ?_)
     refine seg 2 [] [4] [(4, (iv x3))] [] (fun fb => by kernel_rfl) rfl trivial ?_
     refine WL.done rfl (WX.next ?_)
     refine WC.ret ?_
     injection hl9 with hl9
     subst hl9
     injection hf with hf
     subst hf
     exact WX.blockR (WX.thenR (WX.thenR (WX.blockR (WX.thenR (WX.ret_ [] (iv x3) [] (fun fb => by kernel_rfl) trivial ⟨_, rfl, rfl, hS16.keep⟩)))))
    refine WC.condF2 (fun fb => by kernel_rfl) h17 ?_
    refine WC.skip ?_
    refine WX.blockN (WX.next ?_)
    refine WC.region ?_
    refine seg 2 [] [0, 1, 7, 8] [(0, (sv Aa p0 ca)), (1, (.func (.func 47) #[] #[])), (7, (iv (p0.length : Int))), (8, (iv (w64 (x3 + 1))))] [] (fun fb => by kernel_rfl) rfl trivial ?_
    refine WL.done rfl ?_
    exact WX.again k6 (Nat.lt_succ_self _) (w64 (x3 + 1)) [0, 1, 7, 8] rfl ⟨(hS16.subR [0]).sub [] (by decide), hl9⟩
   refine WC.condF2 (fun fb => by kernel_rfl) h10 ?_
   refine WC.exit ?_
   injection hl9 with hl9
   exact WX.thenX (WX.thenX (WX.blockHere (WX.to Kx4 () [] rfl ⟨(hS8.subR [0]).sub [] (by decide), hl9.symm⟩)))
 rintro y21 w18 ⟨hS19, hq20⟩
 subst hq20
 have hf := sum_inr hf
 refine WX.next (WC.seq (WC.region ?_))
 refine seg 1 [] [4] [(4, (iv (-1)))] [] (fun fb => by kernel_rfl) rfl trivial ?_
 refine WL.done rfl (WX.next ?_)
 refine WC.ret ?_
 injection hf with hf
 subst hf
 exact WX.ret_ [] (iv (-1)) [] (fun fb => by kernel_rfl) trivial ⟨_, rfl, rfl, hS19.keep⟩
theorem slices_ContainsFunc_int_int_with_tile_colour_1_calls (k : Nat) (p0 : List Int) (Aa : Option Addr) (ca : Nat) (r : Bool) (w : World) (hR0 : RO NoS w (rowR encInt Aa ca p0)) (hf : slices_ContainsFunc_int_int_with_tile_colour_1 k p0 = some r) :
  CallsR Tryd.prog 32 #[(sv Aa p0 ca), (.func (.func 47) #[] #[])] w (fun v w' => v = (bv r) ∧ Keeps NoS w w') := by
 have hS : St NoS w w [rowR encInt Aa ca p0] [] := St.init (ro_cons hR0 (ro_nil _ _))
 refine enter 9 Tryd.func32 rfl Tryd.ntmps32 rfl ?_
 unfold slices_ContainsFunc_int_int_with_tile_colour_1 at hf
 refine WC.seq (WC.region ?_)
 refine seg 1 [] [0, 1] [(0, (sv Aa p0 ca)), (1, (.func (.func 47) #[] #[]))] [] (fun fb => by kernel_rfl) rfl trivial ?_
 refine WL.done rfl (WX.next (WC.seq (WC.region ?_)))
 refine seg 2 [] [5, 6] [(5, (sv Aa p0 ca)), (6, (.func (.func 47) #[] #[]))] [] (fun fb => by kernel_rfl) rfl trivial ?_
 obtain ⟨t2, ht3, hf⟩ := bind_some hf
 refine WL.call (some 7) 46 #[(sv Aa p0 ca), (.func (.func 47) #[] #[])] (fun fb => by kernel_rfl) (slices_IndexFunc_int_int_with_tile_colour_1_calls _ p0 Aa ca t2 _ (hS.rd 0) ht3) (fun v w4 hR5 => ?_)
 obtain ⟨rfl, hk_⟩ := hR5
 have hS6 := hS.keepN hk_
 refine ⟨trivial, ?_⟩
 refine seg 5 [] [4] [(4, (bv (decide (t2 ≥ 0))))] [] (fun fb => by kernel_rfl) rfl trivial ?_
 refine WL.done rfl (WX.next ?_)
 refine WC.ret ?_
 injection hf with hf
 subst hf
 exact WX.ret_ [] (bv (decide (t2 ≥ 0))) [] (fun fb => by kernel_rfl) trivial ⟨_, rfl, rfl, hS6.keep⟩
theorem tile_colour_calls (k : Nat) (p0 : List Int) (Aa : Option Addr) (ca : Nat) (r : Bool) (w : World) (hR0 : RO NoS w (rowR encInt Aa ca p0)) (hf : tile_colour k p0 = some r) :
  CallsR Tryd.prog 34 #[(sv Aa p0 ca)] w (fun v w' => v = (bv r) ∧ Keeps NoS w w') := by
 have hS : St NoS w w [rowR encInt Aa ca p0] [] := St.init (ro_cons hR0 (ro_nil _ _))
 refine enter 6 Tryd.func34 rfl Tryd.ntmps34 rfl ?_
 unfold tile_colour at hf
 refine WC.seq (WC.region ?_)
 refine seg 1 [] [0] [(0, (sv Aa p0 ca))] [] (fun fb => by kernel_rfl) rfl trivial ?_
 refine WL.done rfl (WX.next (WC.seq (WC.region ?_)))
 refine seg 1 [] [3] [(3, (sv Aa p0 ca))] [] (fun fb => by kernel_rfl) rfl trivial ?_
 obtain ⟨t2, ht3, hf⟩ := bind_some hf
 refine WL.call (some 4) 32 #[(sv Aa p0 ca), (.func (.func 47) #[] #[])] (fun fb => by kernel_rfl) (slices_ContainsFunc_int_int_with_tile_colour_1_calls _ p0 Aa ca t2 _ (hS.rd 0) ht3) (fun v w4 hR5 => ?_)
 obtain ⟨rfl, hk_⟩ := hR5
 have hS6 := hS.keepN hk_
 refine ⟨trivial, ?_⟩
 refine seg 4 [] [2] [(2, (bv (!t2)))] [] (fun fb => by kernel_rfl) rfl trivial ?_
 refine WL.done rfl (WX.next ?_)
 refine WC.ret ?_
 injection hf with hf
 subst hf
 exact WX.ret_ [] (bv (!t2)) [] (fun fb => by kernel_rfl) trivial ⟨_, rfl, rfl, hS6.keep⟩
theorem tile_Valid_key37 : KeyK Tryd.prog 37 (aggI ints_Tile) := KeyK.struct (n := 4) (by kernel_rfl) ints_Tile (fun _ => rfl) (fun x y h => by cases x; cases y; simp only [ints_Tile, List.cons.injEq, and_true] at h; obtain ⟨rfl, rfl, rfl, rfl⟩ := h; rfl)
theorem tile_Valid_calls (k : Nat) (p0 : List Tile) (Aa : Option Addr) (ca : Nat) (r : Bool) (w : World) (hR0 : RO NoS w (rowR enc_Tile Aa ca p0)) (hf : tile_Valid k p0 = some r) :
  CallsR Tryd.prog 22 #[(sv Aa p0 ca)] w (fun v w' => v = (bv r) ∧ Keeps NoS w w') := by
 have hS : St NoS w w [rowR enc_Tile Aa ca p0] [] := St.init (ro_cons hR0 (ro_nil _ _))
 refine enter 35 Tryd.func22 rfl Tryd.ntmps22 rfl ?_
 unfold tile_Valid at hf
 refine WC.seq (WC.region ?_)
 refine seg 1 [] [0] [(0, (sv Aa p0 ca))] [] (fun fb => by kernel_rfl) rfl trivial ?_
 refine WL.done rfl (WX.next (WC.seq (WC.seq (WC.region ?_))))
 refine seg 3 [] [0, 8] [(0, (sv Aa p0 ca)), (8, (bv (decide ((p0.length : Int) > 1000))))] [] (fun fb => by kernel_rfl) rfl trivial ?_
 refine WL.done rfl (WX.next ?_)
 rcases br_some hf with ⟨h3, hf⟩ | ⟨h3, hf⟩
 ·refine WC.condT2 (fun fb => by kernel_rfl) h3 ?_
  refine WC.seq (WC.region ?_)
  refine seg 1 [] [2] [(2, (bv false))] [] (fun fb => by kernel_rfl) rfl trivial ?_
  refine WL.done rfl (WX.next ?_)
  refine WC.ret ?_
  injection hf with hf
  subst hf
  exact WX.thenR (WX.ret_ [] (bv false) [] (fun fb => by kernel_rfl) trivial ⟨_, rfl, rfl, hS.keep⟩)
 refine WC.condF2 (fun fb => by kernel_rfl) h3 ?_
 refine WC.skip (WX.next (WC.seq (WC.region ?_)))
 refine WL.new hS 9 [] (fun g => (.map (some g))) (mapObj (aggI ints_Tile) vB ([] : List (Tile × Bool))) [] (fun fb g => by kernel_rfl) trivial (fun g4 w5 hS6 => ?_)
 refine ⟨trivial, ?_⟩
 refine seg 2 [] [0, 3] [(0, (sv Aa p0 ca)), (3, (.map (some g4)))] [] (fun fb => by kernel_rfl) rfl trivial ?_
 refine WL.done rfl (WX.next (WC.seq (WC.seq (WC.region ?_))))
 refine seg 3 [] [3, 10, 11, 12] [(3, (.map (some g4))), (10, (sv Aa p0 ca)), (11, (iv (p0.length : Int))), (12, (iv 0))] [] (fun fb => by kernel_rfl) rfl trivial ?_
 refine WL.done rfl (WX.next ?_)
 obtain ⟨x9, hx10, hf⟩ := bind_some hf
 refine WC.cutN (T := Unit) (fun t => []) (fun t w1 => St NoS w w1 [rowR enc_Tile Aa ca p0] [] ∧ x9 = .inr t) (fun Kx9 => ?_) ?_
 ·
  refine WC.block ?_
  refine WC.loop (T := (List (Tile × Bool)) × Int) (fun t => [(3, (.map (some g4))), (10, (sv Aa p0 ca)), (11, (iv (p0.length : Int))), (12, (iv t.2))]) (fun n t w1 => St NoS w w1 [rowR enc_Tile Aa ca p0] [blk g4 (mapObj (aggI ints_Tile) vB t.1)] ∧ tile_Valid.l0 n t.1 t.2 p0 = some x9) k (([] : List (Tile × Bool)), 0) [3, 10, 11, 12] rfl ⟨(hS6.subR [0]).sub [0] (by decide), hx10⟩ ?_
  rintro k11 ⟨l7, x8⟩ w12 ⟨hS13, hl14⟩
  cases k11 with
  | zero => rw [tile_Valid.l0] at hl14; cases hl14
  | succ k11 =>
   rw [tile_Valid.l0] at hl14
   refine WC.seq (WC.region ?_)
   refine seg 1 [] [3, 10, 11, 12, 13] [(3, (.map (some g4))), (10, (sv Aa p0 ca)), (11, (iv (p0.length : Int))), (12, (iv x8)), (13, (bv (decide (x8 < (p0.length : Int)))))] [] (fun fb => by kernel_rfl) rfl trivial ?_
   refine WL.done rfl (WX.next (WC.seq ?_))
   rcases br_some hl14 with ⟨h15, hl14⟩ | ⟨h15, hl14⟩
   ·refine WC.condT2 (fun fb => by kernel_rfl) h15 ?_
    refine WC.skip (WX.next (WC.seq (WC.block (WC.seq (WC.region ?_)))))
    obtain ⟨h16, hl14⟩ := as_some hl14
    refine seg 2 [.v (iv ((rdD p0 x8 z_Tile).N)), .v (iv ((rdD p0 x8 z_Tile).E)), .v (iv ((rdD p0 x8 z_Tile).S)), .v (iv ((rdD p0 x8 z_Tile).W))] [3, 10, 11, 12, 15] [(3, (.map (some g4))), (10, (sv Aa p0 ca)), (11, (iv (p0.length : Int))), (12, (iv x8)), (15, (.agg #[(iv ((rdD p0 x8 z_Tile).N)), (iv ((rdD p0 x8 z_Tile).E)), (iv ((rdD p0 x8 z_Tile).S)), (iv ((rdD p0 x8 z_Tile).W))]))] [.idx Aa x8 p0.length, .cell ((adr Aa).add ((x8).toNat * 4)) (iv ((rdD p0 x8 z_Tile).N)), .cell (((adr Aa).add ((x8).toNat * 4)).add 1) (iv ((rdD p0 x8 z_Tile).E)), .cell (((adr Aa).add ((x8).toNat * 4)).add 2) (iv ((rdD p0 x8 z_Tile).S)), .cell (((adr Aa).add ((x8).toNat * 4)).add 3) (iv ((rdD p0 x8 z_Tile).W))] (fun fb => by kernel_rfl) rfl ⟨rowR.adr (hS13.rd 0).1 h16.1 h16.2, rowR.cell (hS13.rd 0).1 z_Tile h16.1 h16.2 0 rfl, rowR.cell (hS13.rd 0).1 z_Tile h16.1 h16.2 1 rfl, rowR.cell (hS13.rd 0).1 z_Tile h16.1 h16.2 2 rfl, rowR.cell (hS13.rd 0).1 z_Tile h16.1 h16.2 3 rfl, trivial⟩ ?_
    refine WL.new hS13 5 [] (fun g => (pt g)) (.cells #[(iv 0), (iv 0), (iv 0), (iv 0)] 37 (0, 0)) [] (fun fb g => by kernel_rfl) trivial (fun g17 w18 hS19 => ?_)
    refine ⟨trivial, ?_⟩
    refine WL.store hS19 0 rfl [(0, (iv ((rdD p0 x8 z_Tile).N))), (1, (iv ((rdD p0 x8 z_Tile).E))), (2, (iv ((rdD p0 x8 z_Tile).S))), (3, (iv ((rdD p0 x8 z_Tile).W)))] #[(iv ((rdD p0 x8 z_Tile).N)), (iv ((rdD p0 x8 z_Tile).E)), (iv ((rdD p0 x8 z_Tile).S)), (iv ((rdD p0 x8 z_Tile).W))] (fun fb => by kernel_rfl) (by kernel_rfl) rfl [1] (by decide) (by decide) (fun w20 hS21 => ?_)
    refine ⟨trivial, ?_⟩
    refine WL.done rfl (WX.next (WC.seq (WC.seq (WC.region ?_))))
    refine seg 2 [.v (iv ((rdD p0 x8 z_Tile).N)), .v (iv ((rdD p0 x8 z_Tile).E)), .v (iv ((rdD p0 x8 z_Tile).S)), .v (iv ((rdD p0 x8 z_Tile).W))] [3, 5, 10, 11, 12, 16, 17] [(3, (.map (some g4))), (5, (pt g17)), (10, (sv Aa p0 ca)), (11, (iv (p0.length : Int))), (12, (iv x8)), (16, (.map (some g4))), (17, (.agg #[(iv ((rdD p0 x8 z_Tile).N)), (iv ((rdD p0 x8 z_Tile).E)), (iv ((rdD p0 x8 z_Tile).S)), (iv ((rdD p0 x8 z_Tile).W))]))] [.cell ⟨g17, 0, none⟩ (iv ((rdD p0 x8 z_Tile).N)), .cell ⟨g17, 1, none⟩ (iv ((rdD p0 x8 z_Tile).E)), .cell ⟨g17, 2, none⟩ (iv ((rdD p0 x8 z_Tile).S)), .cell ⟨g17, 3, none⟩ (iv ((rdD p0 x8 z_Tile).W))] (fun fb => by kernel_rfl) rfl ⟨hS21.cell 0 rfl 0 rfl, hS21.cell 0 rfl 1 rfl, hS21.cell 0 rfl 2 rfl, hS21.cell 0 rfl 3 rfl, trivial⟩ ?_
    refine WL.lookup (hS21.own 1).1 (rdD p0 x8 z_Tile) (d := 18) (c := false) (t := 66) (kT := 37) (eT := 4) (z := false) (kE := (aggI ints_Tile)) (vE := vB) (l := l7) (bv (mget (rdD p0 x8 z_Tile) false l7)) (fun fb => by kernel_rfl) tile_Valid_key37 (by kernel_rfl) (fun _ => by kernel_rfl) rfl ?_
    refine ⟨trivial, ?_⟩
    refine seg 4 [] [3, 5, 10, 11, 12, 19] [(3, (.map (some g4))), (5, (pt g17)), (10, (sv Aa p0 ca)), (11, (iv (p0.length : Int))), (12, (iv x8)), (19, (bv (mget (rdD p0 x8 z_Tile) false l7)))] [] (fun fb => by kernel_rfl) rfl trivial ?_
    obtain ⟨x23, hx24, hl14⟩ := bind_some hl14
    refine WL.cutW (T := Bool) 16 (fun t => [(3, (.map (some g4))), (5, (pt g17)), (10, (sv Aa p0 ca)), (11, (iv (p0.length : Int))), (12, (iv x8)), (31, (bv t))]) (fun t w1 => (St NoS w w1 [rowR enc_Tile Aa ca p0] [blk g4 (mapObj (aggI ints_Tile) vB l7), blk g17 (.cells #[(iv ((rdD p0 x8 z_Tile).N)), (iv ((rdD p0 x8 z_Tile).E)), (iv ((rdD p0 x8 z_Tile).S)), (iv ((rdD p0 x8 z_Tile).W))] 37 (0, 0))] ∧ x23 = t) ∧ CellsOK [] w1) (fun K => ?_) ?_
    ·
     rcases br_some hx24 with ⟨h25, hx24⟩ | ⟨h25, hx24⟩
     ·
      refine WL.setB 19 h25 rfl ?_
      refine seg 16 [] [3, 5, 10, 11, 12, 31] [(3, (.map (some g4))), (5, (pt g17)), (10, (sv Aa p0 ca)), (11, (iv (p0.length : Int))), (12, (iv x8)), (31, (bv true))] [] (fun fb => by kernel_rfl) rfl trivial ?_
      injection hx24 with hx24
      exact WL.to K true [3, 5, 10, 11, 12, 31] rfl ⟨⟨(hS21.subR [0]).sub [1, 0] (by decide), hx24.symm⟩, trivial⟩
     refine WL.setB 19 h25 rfl ?_
     refine seg 12 [.v (iv ((rdD p0 x8 z_Tile).N)), .v (iv ((rdD p0 x8 z_Tile).E)), .v (iv ((rdD p0 x8 z_Tile).S)), .v (iv ((rdD p0 x8 z_Tile).W))] [3, 5, 10, 11, 12, 19, 21, 23, 25, 27] [(3, (.map (some g4))), (5, (pt g17)), (10, (sv Aa p0 ca)), (11, (iv (p0.length : Int))), (12, (iv x8)), (19, (bv false)), (21, (iv ((rdD p0 x8 z_Tile).N))), (23, (iv ((rdD p0 x8 z_Tile).E))), (25, (iv ((rdD p0 x8 z_Tile).S))), (27, (iv ((rdD p0 x8 z_Tile).W)))] [.cell ⟨g17, 0, none⟩ (iv ((rdD p0 x8 z_Tile).N)), .cell ⟨g17, 1, none⟩ (iv ((rdD p0 x8 z_Tile).E)), .cell ⟨g17, 2, none⟩ (iv ((rdD p0 x8 z_Tile).S)), .cell ⟨g17, 3, none⟩ (iv ((rdD p0 x8 z_Tile).W))] (fun fb => by kernel_rfl) rfl ⟨hS21.cell 0 rfl 0 rfl, hS21.cell 0 rfl 1 rfl, hS21.cell 0 rfl 2 rfl, hS21.cell 0 rfl 3 rfl, trivial⟩ ?_
     refine WL.new hS21 28 [] (fun g => (.slice (some ⟨g, 0, none⟩) 4 4)) (.cells #[(iv ((rdD p0 x8 z_Tile).N)), (iv ((rdD p0 x8 z_Tile).E)), (iv ((rdD p0 x8 z_Tile).S)), (iv ((rdD p0 x8 z_Tile).W))] 3 (0, 0)) [] (fun fb g => by kernel_rfl) trivial (fun g26 w27 hS28 => ?_)
     refine ⟨trivial, ?_⟩
     have hS29 := hS.go w27 [rowO 3 encInt (some ⟨g26, 0, none⟩) 4 [(rdD p0 x8 z_Tile).N, (rdD p0 x8 z_Tile).E, (rdD p0 x8 z_Tile).S, (rdD p0 x8 z_Tile).W], blk g17 (.cells #[(iv ((rdD p0 x8 z_Tile).N)), (iv ((rdD p0 x8 z_Tile).E)), (iv ((rdD p0 x8 z_Tile).S)), (iv ((rdD p0 x8 z_Tile).W))] 37 (0, 0)), blk g4 (mapObj (aggI ints_Tile) vB l7)] (hS28.map1 0 _ (fun h => rowO.ofBlk h rfl (Nat.le_of_ble_eq_true (by kernel_rfl))) (fun _ h => by obtain ⟨_, h1, h2⟩ := h; injection h1 with h1; subst h1; exact h2) [1, 2] (by decide) (by decide))
     obtain ⟨t30, ht31, hx24⟩ := bind_some hx24
     refine WL.call (some 29) 34 #[(sv (some ⟨g26, 0, none⟩) [(rdD p0 x8 z_Tile).N, (rdD p0 x8 z_Tile).E, (rdD p0 x8 z_Tile).S, (rdD p0 x8 z_Tile).W] 4)] (fun fb => by kernel_rfl) (tile_colour_calls _ [(rdD p0 x8 z_Tile).N, (rdD p0 x8 z_Tile).E, (rdD p0 x8 z_Tile).S, (rdD p0 x8 z_Tile).W] (some ⟨g26, 0, none⟩) 4 t30 _ (hS29.ow 0).ofO ht31) (fun v w32 hR33 => ?_)
     obtain ⟨rfl, hk_⟩ := hR33
     have hS34 := hS29.keepN hk_
     refine ⟨trivial, ?_⟩
     refine seg 16 [] [3, 5, 10, 11, 12, 31] [(3, (.map (some g4))), (5, (pt g17)), (10, (sv Aa p0 ca)), (11, (iv (p0.length : Int))), (12, (iv x8)), (31, (bv (!t30)))] [] (fun fb => by kernel_rfl) rfl trivial ?_
     injection hx24 with hx24
     exact WL.to K (!t30) [3, 5, 10, 11, 12, 31] rfl ⟨⟨(hS34.subR [0]).sub [2, 1] (by decide), hx24.symm⟩, trivial⟩
    rintro y35 w38 ⟨⟨hS39, hq36⟩, hF40⟩
    subst hq36
    refine WL.done rfl (WX.next ?_)
    rcases br_some hl14 with ⟨h41, hl14⟩ | ⟨h41, hl14⟩
    ·refine WC.condT2 (fun fb => by kernel_rfl) h41 ?_
     refine WC.seq (WC.region ?_)
     refine seg 1 [] [2] [(2, (bv false))] [] (fun fb => by kernel_rfl) rfl trivial ?_
     refine WL.done rfl (WX.next ?_)
     refine WC.ret ?_
     injection hl14 with hl14
     subst hl14
     injection hf with hf
     subst hf
     exact WX.thenR (WX.blockR (WX.thenR (WX.thenR (WX.blockR (WX.thenR (WX.ret_ [] (bv false) [] (fun fb => by kernel_rfl) trivial ⟨_, rfl, rfl, hS39.keep⟩))))))
    refine WC.condF2 (fun fb => by kernel_rfl) h41 ?_
    refine WC.skip (WX.next (WC.region ?_))
    refine seg 2 [.v (iv ((rdD p0 x8 z_Tile).N)), .v (iv ((rdD p0 x8 z_Tile).E)), .v (iv ((rdD p0 x8 z_Tile).S)), .v (iv ((rdD p0 x8 z_Tile).W))] [3, 10, 11, 12, 32, 33] [(3, (.map (some g4))), (10, (sv Aa p0 ca)), (11, (iv (p0.length : Int))), (12, (iv x8)), (32, (.map (some g4))), (33, (.agg #[(iv ((rdD p0 x8 z_Tile).N)), (iv ((rdD p0 x8 z_Tile).E)), (iv ((rdD p0 x8 z_Tile).S)), (iv ((rdD p0 x8 z_Tile).W))]))] [.cell ⟨g17, 0, none⟩ (iv ((rdD p0 x8 z_Tile).N)), .cell ⟨g17, 1, none⟩ (iv ((rdD p0 x8 z_Tile).E)), .cell ⟨g17, 2, none⟩ (iv ((rdD p0 x8 z_Tile).S)), .cell ⟨g17, 3, none⟩ (iv ((rdD p0 x8 z_Tile).W))] (fun fb => by kernel_rfl) rfl ⟨hS39.cell 1 rfl 0 rfl, hS39.cell 1 rfl 1 rfl, hS39.cell 1 rfl 2 rfl, hS39.cell 1 rfl 3 rfl, trivial⟩ ?_
    refine WL.mapput hS39 0 (t := 66) (kT := 37) (eT := 4) (kE := (aggI ints_Tile)) (vE := vB) (l := l7) rfl (rdD p0 x8 z_Tile) true (fun fb => by kernel_rfl) tile_Valid_key37 (by kernel_rfl) [1] (by decide) (by decide) (fun w42 hS43 => ?_)
    refine ⟨trivial, ?_⟩
    refine WL.done rfl ?_
    refine WX.blockN (WX.next ?_)
    refine WC.region ?_
    refine seg 2 [] [3, 10, 11, 12] [(3, (.map (some g4))), (10, (sv Aa p0 ca)), (11, (iv (p0.length : Int))), (12, (iv (w64 (x8 + 1))))] [] (fun fb => by kernel_rfl) rfl trivial ?_
    refine WL.done rfl ?_
    exact WX.again k11 (Nat.lt_succ_self _) (mput (rdD p0 x8 z_Tile) true l7, w64 (x8 + 1)) [3, 10, 11, 12] rfl ⟨(hS43.subR [0]).sub [0] (by decide), hl14⟩
   refine WC.condF2 (fun fb => by kernel_rfl) h15 ?_
   refine WC.exit ?_
   injection hl14 with hl14
   exact WX.thenX (WX.thenX (WX.blockHere (WX.to Kx9 () [] rfl ⟨(hS13.subR [0]).sub [] (by decide), hl14.symm⟩)))
 rintro y47 w44 ⟨hS45, hq46⟩
 subst hq46
 have hf := sum_inr hf
 refine WX.next (WC.seq (WC.region ?_))
 refine seg 1 [] [2] [(2, (bv true))] [] (fun fb => by kernel_rfl) rfl trivial ?_
 refine WL.done rfl (WX.next ?_)
 refine WC.ret ?_
 injection hf with hf
 subst hf
 exact WX.ret_ [] (bv true) [] (fun fb => by kernel_rfl) trivial ⟨_, rfl, rfl, hS45.keep⟩
theorem tile_write_calls (k : Nat) (p0 : List Tile) (Aa : Option Addr) (ca : Nat) (r : ByteArray) (w : World) (hR0 : RO NoS w (rowR enc_Tile Aa ca p0)) (hf : tile_write k p0 = some r) :
  CallsR Tryd.prog 28 #[(sv Aa p0 ca)] w (fun v w' => v = (.string r) ∧ Keeps NoS w w') := by
 have hS : St NoS w w [rowR enc_Tile Aa ca p0] [] := St.init (ro_cons hR0 (ro_nil _ _))
 refine enter 41 Tryd.func28 rfl Tryd.ntmps28 rfl ?_
 unfold tile_write at hf
 refine WC.seq (WC.region ?_)
 refine seg 1 [] [0] [(0, (sv Aa p0 ca))] [] (fun fb => by kernel_rfl) rfl trivial ?_
 refine WL.done rfl (WX.next (WC.seq (WC.region ?_)))
 refine seg 1 [] [0, 3] [(0, (sv Aa p0 ca)), (3, (.slice none 0 0))] [] (fun fb => by kernel_rfl) rfl trivial ?_
 refine WL.done rfl (WX.next (WC.seq (WC.seq (WC.region ?_))))
 refine seg 3 [] [3, 9, 10, 11] [(3, (.slice none 0 0)), (9, (sv Aa p0 ca)), (10, (iv (p0.length : Int))), (11, (iv 0))] [] (fun fb => by kernel_rfl) rfl trivial ?_
 refine WL.done rfl (WX.next ?_)
 have hS3 := hS.nilrow 9 encStr
 obtain ⟨x10, hx11, hf⟩ := bind_some hf
 refine WC.cutN (T := (List ByteArray) × (Option Addr) × Nat) (fun t => [(3, (sv t.2.1 t.1 t.2.2))]) (fun t w1 => St NoS w w1 [rowR enc_Tile Aa ca p0] [rowO 9 encStr t.2.1 t.2.2 t.1] ∧ x10 = t.1) (fun Kx10 => ?_) ?_
 ·
  refine WC.block ?_
  refine WC.loop (T := ((List ByteArray) × Int) × (Option Addr) × Nat) (fun t => [(3, (sv t.2.1 t.1.1 t.2.2)), (9, (sv Aa p0 ca)), (10, (iv (p0.length : Int))), (11, (iv t.1.2))]) (fun n t w1 => St NoS w w1 [rowR enc_Tile Aa ca p0] [rowO 9 encStr t.2.1 t.2.2 t.1.1] ∧ tile_write.l0 n t.1.1 t.1.2 p0 = some x10) k ((([] : List ByteArray), 0), none, 0) [3, 9, 10, 11] rfl ⟨(hS3.subR [0]).sub [0] (by decide), hx11⟩ ?_
  rintro k12 ⟨⟨l6, x7⟩, A4, c5⟩ w13 ⟨hS14, hl15⟩
  cases k12 with
  | zero => rw [tile_write.l0] at hl15; cases hl15
  | succ k12 =>
   rw [tile_write.l0] at hl15
   refine WC.seq (WC.region ?_)
   refine seg 1 [] [3, 9, 10, 11, 12] [(3, (sv A4 l6 c5)), (9, (sv Aa p0 ca)), (10, (iv (p0.length : Int))), (11, (iv x7)), (12, (bv (decide (x7 < (p0.length : Int)))))] [] (fun fb => by kernel_rfl) rfl trivial ?_
   refine WL.done rfl (WX.next (WC.seq ?_))
   rcases br_some hl15 with ⟨h16, hl15⟩ | ⟨h16, hl15⟩
   ·refine WC.condT2 (fun fb => by kernel_rfl) h16 ?_
    refine WC.skip (WX.next (WC.seq (WC.block (WC.seq (WC.region ?_)))))
    obtain ⟨h17, hl15⟩ := as_some hl15
    refine seg 2 [.v (iv ((rdD p0 x7 z_Tile).N)), .v (iv ((rdD p0 x7 z_Tile).E)), .v (iv ((rdD p0 x7 z_Tile).S)), .v (iv ((rdD p0 x7 z_Tile).W))] [3, 9, 10, 11, 14] [(3, (sv A4 l6 c5)), (9, (sv Aa p0 ca)), (10, (iv (p0.length : Int))), (11, (iv x7)), (14, (.agg #[(iv ((rdD p0 x7 z_Tile).N)), (iv ((rdD p0 x7 z_Tile).E)), (iv ((rdD p0 x7 z_Tile).S)), (iv ((rdD p0 x7 z_Tile).W))]))] [.idx Aa x7 p0.length, .cell ((adr Aa).add ((x7).toNat * 4)) (iv ((rdD p0 x7 z_Tile).N)), .cell (((adr Aa).add ((x7).toNat * 4)).add 1) (iv ((rdD p0 x7 z_Tile).E)), .cell (((adr Aa).add ((x7).toNat * 4)).add 2) (iv ((rdD p0 x7 z_Tile).S)), .cell (((adr Aa).add ((x7).toNat * 4)).add 3) (iv ((rdD p0 x7 z_Tile).W))] (fun fb => by kernel_rfl) rfl ⟨rowR.adr (hS14.rd 0).1 h17.1 h17.2, rowR.cell (hS14.rd 0).1 z_Tile h17.1 h17.2 0 rfl, rowR.cell (hS14.rd 0).1 z_Tile h17.1 h17.2 1 rfl, rowR.cell (hS14.rd 0).1 z_Tile h17.1 h17.2 2 rfl, rowR.cell (hS14.rd 0).1 z_Tile h17.1 h17.2 3 rfl, trivial⟩ ?_
    refine WL.new hS14 5 [] (fun g => (pt g)) (.cells #[(iv 0), (iv 0), (iv 0), (iv 0)] 37 (0, 0)) [] (fun fb g => by kernel_rfl) trivial (fun g18 w19 hS20 => ?_)
    refine ⟨trivial, ?_⟩
    refine WL.store hS20 0 rfl [(0, (iv ((rdD p0 x7 z_Tile).N))), (1, (iv ((rdD p0 x7 z_Tile).E))), (2, (iv ((rdD p0 x7 z_Tile).S))), (3, (iv ((rdD p0 x7 z_Tile).W)))] #[(iv ((rdD p0 x7 z_Tile).N)), (iv ((rdD p0 x7 z_Tile).E)), (iv ((rdD p0 x7 z_Tile).S)), (iv ((rdD p0 x7 z_Tile).W))] (fun fb => by kernel_rfl) (by kernel_rfl) rfl [1] (by decide) (by decide) (fun w21 hS22 => ?_)
    refine ⟨trivial, ?_⟩
    refine WL.done rfl (WX.next (WC.seq (WC.region ?_)))
    refine seg 1 [] [3, 5, 6, 9, 10, 11] [(3, (sv A4 l6 c5)), (5, (pt g18)), (6, (.slice none 0 0)), (9, (sv Aa p0 ca)), (10, (iv (p0.length : Int))), (11, (iv x7))] [] (fun fb => by kernel_rfl) rfl trivial ?_
    refine WL.done rfl (WX.next (WC.seq (WC.seq (WC.region ?_))))
    refine seg 10 [.v (iv ((rdD p0 x7 z_Tile).N)), .v (iv ((rdD p0 x7 z_Tile).E)), .v (iv ((rdD p0 x7 z_Tile).S)), .v (iv ((rdD p0 x7 z_Tile).W))] [3, 6, 9, 10, 11, 23, 24] [(3, (sv A4 l6 c5)), (6, (.slice none 0 0)), (9, (sv Aa p0 ca)), (10, (iv (p0.length : Int))), (11, (iv x7)), (23, (.agg #[(iv ((rdD p0 x7 z_Tile).N)), (iv ((rdD p0 x7 z_Tile).E)), (iv ((rdD p0 x7 z_Tile).S)), (iv ((rdD p0 x7 z_Tile).W))])), (24, (iv 0))] [.cell ⟨g18, 0, none⟩ (iv ((rdD p0 x7 z_Tile).N)), .cell ⟨g18, 1, none⟩ (iv ((rdD p0 x7 z_Tile).E)), .cell ⟨g18, 2, none⟩ (iv ((rdD p0 x7 z_Tile).S)), .cell ⟨g18, 3, none⟩ (iv ((rdD p0 x7 z_Tile).W))] (fun fb => by kernel_rfl) rfl ⟨hS22.cell 0 rfl 0 rfl, hS22.cell 0 rfl 1 rfl, hS22.cell 0 rfl 2 rfl, hS22.cell 0 rfl 3 rfl, trivial⟩ ?_
    refine WL.done rfl (WX.next ?_)
    have hS23 := hS22.nilrow 9 encStr
    obtain ⟨x31, hx32, hl15⟩ := bind_some hl15
    refine WC.cutN (T := (List ByteArray) × (Option Addr) × Nat) (fun t => [(3, (sv A4 l6 c5)), (6, (sv t.2.1 t.1 t.2.2)), (9, (sv Aa p0 ca)), (10, (iv (p0.length : Int))), (11, (iv x7))]) (fun t w1 => St NoS w w1 [rowR enc_Tile Aa ca p0] [rowO 9 encStr A4 c5 l6, rowO 9 encStr t.2.1 t.2.2 t.1] ∧ x31 = t.1) (fun Kx31 => ?_) ?_
    ·
     refine WC.block ?_
     refine WC.loop (T := ((List ByteArray) × Int) × (Option Addr) × Nat) (fun t => [(3, (sv A4 l6 c5)), (6, (sv t.2.1 t.1.1 t.2.2)), (9, (sv Aa p0 ca)), (10, (iv (p0.length : Int))), (11, (iv x7)), (23, (.agg #[(iv ((rdD p0 x7 z_Tile).N)), (iv ((rdD p0 x7 z_Tile).E)), (iv ((rdD p0 x7 z_Tile).S)), (iv ((rdD p0 x7 z_Tile).W))])), (24, (iv t.1.2))]) (fun n t w1 => St NoS w w1 [rowR enc_Tile Aa ca p0] [rowO 9 encStr A4 c5 l6, rowO 9 encStr t.2.1 t.2.2 t.1.1] ∧ tile_write.l1 n t.1.1 t.1.2 p0 x7 = some x31) k12 ((([] : List ByteArray), 0), none, 0) [3, 6, 9, 10, 11, 23, 24] rfl ⟨(hS23.subR [0]).sub [2, 0] (by decide), hx32⟩ ?_
     rintro k33 ⟨⟨l26, x27⟩, A24, c25⟩ w34 ⟨hS35, hl36⟩
     cases k33 with
     | zero => rw [tile_write.l1] at hl36; cases hl36
     | succ k33 =>
      rw [tile_write.l1] at hl36
      refine WC.seq (WC.region ?_)
      refine seg 1 [] [3, 6, 9, 10, 11, 23, 24, 25] [(3, (sv A4 l6 c5)), (6, (sv A24 l26 c25)), (9, (sv Aa p0 ca)), (10, (iv (p0.length : Int))), (11, (iv x7)), (23, (.agg #[(iv ((rdD p0 x7 z_Tile).N)), (iv ((rdD p0 x7 z_Tile).E)), (iv ((rdD p0 x7 z_Tile).S)), (iv ((rdD p0 x7 z_Tile).W))])), (24, (iv x27)), (25, (bv (decide (x27 < 4))))] [] (fun fb => by kernel_rfl) rfl trivial ?_
      refine WL.done rfl (WX.next (WC.seq ?_))
      rcases br_some hl36 with ⟨h37, hl36⟩ | ⟨h37, hl36⟩
      ·refine WC.condT2 (fun fb => by kernel_rfl) h37 ?_
       refine WC.skip (WX.next (WC.seq (WC.block (WC.seq (WC.region ?_)))))
       rcases br_some hl36 with ⟨h38, hl36⟩ | ⟨h38, hl36⟩
       ·
        refine WL.setI 24 (eq_of_beq h38) rfl ?_
        refine seg 1 [] [3, 6, 9, 10, 11, 23, 24, 26] [(3, (sv A4 l6 c5)), (6, (sv A24 l26 c25)), (9, (sv Aa p0 ca)), (10, (iv (p0.length : Int))), (11, (iv x7)), (23, (.agg #[(iv ((rdD p0 x7 z_Tile).N)), (iv ((rdD p0 x7 z_Tile).E)), (iv ((rdD p0 x7 z_Tile).S)), (iv ((rdD p0 x7 z_Tile).W))])), (24, (iv 0)), (26, (iv ((rdD p0 x7 z_Tile).N)))] [] (fun fb => by kernel_rfl) rfl trivial ?_
        refine WL.setI 24 (eq_of_beq h38).symm rfl ?_
        refine seg 2 [] [3, 6, 8, 9, 10, 11, 23, 24] [(3, (sv A4 l6 c5)), (6, (sv A24 l26 c25)), (8, (iv ((rdD p0 x7 z_Tile).N))), (9, (sv Aa p0 ca)), (10, (iv (p0.length : Int))), (11, (iv x7)), (23, (.agg #[(iv ((rdD p0 x7 z_Tile).N)), (iv ((rdD p0 x7 z_Tile).E)), (iv ((rdD p0 x7 z_Tile).S)), (iv ((rdD p0 x7 z_Tile).W))])), (24, (iv x27))] [] (fun fb => by kernel_rfl) rfl trivial ?_
        refine WL.done rfl (WX.next (WC.region ?_))
        refine seg 2 [] [3, 9, 10, 11, 23, 24, 27, 28] [(3, (sv A4 l6 c5)), (9, (sv Aa p0 ca)), (10, (iv (p0.length : Int))), (11, (iv x7)), (23, (.agg #[(iv ((rdD p0 x7 z_Tile).N)), (iv ((rdD p0 x7 z_Tile).E)), (iv ((rdD p0 x7 z_Tile).S)), (iv ((rdD p0 x7 z_Tile).W))])), (24, (iv x27)), (27, (sv A24 l26 c25)), (28, (iv ((rdD p0 x7 z_Tile).N)))] [] (fun fb => by kernel_rfl) rfl trivial ?_
        obtain ⟨t42, ht43, hl36⟩ := bind_some hl36
        refine WL.call (some 29) 41 #[(iv ((rdD p0 x7 z_Tile).N))] (fun fb => by kernel_rfl) (itoa_calls Tryd.strconv_Itoa_small ((rdD p0 x7 z_Tile).N) t42 _ ht43) (fun v w40 hR39 => ?_)
        obtain ⟨rfl, hk_⟩ := hR39
        have hS41 := hS35.keepN hk_
        refine ⟨trivial, ?_⟩
        refine WL.new hS41 30 [] (fun g => (.slice (some ⟨g, 0, none⟩) 1 1)) (.cells #[(.string t42)] 9 (0, 0)) [] (fun fb g => by kernel_rfl) trivial (fun g44 w45 hS46 => ?_)
        refine ⟨trivial, ?_⟩
        have hS47 := hS.go w45 [rowO 9 encStr (some ⟨g44, 0, none⟩) 1 [t42], rowO 9 encStr A4 c5 l6, rowO 9 encStr A24 c25 l26] (hS46.map1 0 _ (fun h => rowO.ofBlk h rfl (Nat.le_of_ble_eq_true (by kernel_rfl))) (fun _ h => by obtain ⟨_, h1, h2⟩ := h; injection h1 with h1; subst h1; exact h2) [1, 2] (by decide) (by decide))
        obtain ⟨h48, hl36⟩ := as_some hl36
        refine WL.append hS47 2 (d := 31) (tS := 50) (z := (.string ByteArray.empty)) (bytes := 16) (c2 := 1) rfl (fun fb => by kernel_rfl) (rowO.rd (hS47.own 0).1) (by kernel_rfl) (by kernel_rfl) rfl (by decide) h48 (by decide) [0, 1] (by decide) (by decide) (fun A49 c50 w51 hS52 => ?_)
        refine ⟨trivial, ?_⟩
        refine seg 6 [] [3, 6, 9, 10, 11, 23, 24] [(3, (sv A4 l6 c5)), (6, (sv A49 (l26 ++ [t42]) c50)), (9, (sv Aa p0 ca)), (10, (iv (p0.length : Int))), (11, (iv x7)), (23, (.agg #[(iv ((rdD p0 x7 z_Tile).N)), (iv ((rdD p0 x7 z_Tile).E)), (iv ((rdD p0 x7 z_Tile).S)), (iv ((rdD p0 x7 z_Tile).W))])), (24, (iv x27))] [] (fun fb => by kernel_rfl) rfl trivial ?_
        refine WL.done rfl ?_
        refine WX.blockN (WX.next ?_)
        refine WC.region ?_
        refine seg 2 [] [3, 6, 9, 10, 11, 23, 24] [(3, (sv A4 l6 c5)), (6, (sv A49 (l26 ++ [t42]) c50)), (9, (sv Aa p0 ca)), (10, (iv (p0.length : Int))), (11, (iv x7)), (23, (.agg #[(iv ((rdD p0 x7 z_Tile).N)), (iv ((rdD p0 x7 z_Tile).E)), (iv ((rdD p0 x7 z_Tile).S)), (iv ((rdD p0 x7 z_Tile).W))])), (24, (iv (w64 (x27 + 1))))] [] (fun fb => by kernel_rfl) rfl trivial ?_
        refine WL.done rfl ?_
        exact WX.again k33 (Nat.lt_succ_self _) ((l26 ++ [t42], w64 (x27 + 1)), A49, c50) [3, 6, 9, 10, 11, 23, 24] rfl ⟨(hS52.subR [0]).sub [2, 0] (by decide), hl36⟩
       rcases br_some hl36 with ⟨h53, hl36⟩ | ⟨h53, hl36⟩
       ·
        refine WL.setI 24 (eq_of_beq h53) rfl ?_
        refine seg 1 [] [3, 6, 9, 10, 11, 23, 24, 26] [(3, (sv A4 l6 c5)), (6, (sv A24 l26 c25)), (9, (sv Aa p0 ca)), (10, (iv (p0.length : Int))), (11, (iv x7)), (23, (.agg #[(iv ((rdD p0 x7 z_Tile).N)), (iv ((rdD p0 x7 z_Tile).E)), (iv ((rdD p0 x7 z_Tile).S)), (iv ((rdD p0 x7 z_Tile).W))])), (24, (iv 1)), (26, (iv ((rdD p0 x7 z_Tile).E)))] [] (fun fb => by kernel_rfl) rfl trivial ?_
        refine WL.setI 24 (eq_of_beq h53).symm rfl ?_
        refine seg 2 [] [3, 6, 8, 9, 10, 11, 23, 24] [(3, (sv A4 l6 c5)), (6, (sv A24 l26 c25)), (8, (iv ((rdD p0 x7 z_Tile).E))), (9, (sv Aa p0 ca)), (10, (iv (p0.length : Int))), (11, (iv x7)), (23, (.agg #[(iv ((rdD p0 x7 z_Tile).N)), (iv ((rdD p0 x7 z_Tile).E)), (iv ((rdD p0 x7 z_Tile).S)), (iv ((rdD p0 x7 z_Tile).W))])), (24, (iv x27))] [] (fun fb => by kernel_rfl) rfl trivial ?_
        refine WL.done rfl (WX.next (WC.region ?_))
        refine seg 2 [] [3, 9, 10, 11, 23, 24, 27, 28] [(3, (sv A4 l6 c5)), (9, (sv Aa p0 ca)), (10, (iv (p0.length : Int))), (11, (iv x7)), (23, (.agg #[(iv ((rdD p0 x7 z_Tile).N)), (iv ((rdD p0 x7 z_Tile).E)), (iv ((rdD p0 x7 z_Tile).S)), (iv ((rdD p0 x7 z_Tile).W))])), (24, (iv x27)), (27, (sv A24 l26 c25)), (28, (iv ((rdD p0 x7 z_Tile).E)))] [] (fun fb => by kernel_rfl) rfl trivial ?_
        obtain ⟨t57, ht58, hl36⟩ := bind_some hl36
        refine WL.call (some 29) 41 #[(iv ((rdD p0 x7 z_Tile).E))] (fun fb => by kernel_rfl) (itoa_calls Tryd.strconv_Itoa_small ((rdD p0 x7 z_Tile).E) t57 _ ht58) (fun v w55 hR54 => ?_)
        obtain ⟨rfl, hk_⟩ := hR54
        have hS56 := hS35.keepN hk_
        refine ⟨trivial, ?_⟩
        refine WL.new hS56 30 [] (fun g => (.slice (some ⟨g, 0, none⟩) 1 1)) (.cells #[(.string t57)] 9 (0, 0)) [] (fun fb g => by kernel_rfl) trivial (fun g59 w60 hS61 => ?_)
        refine ⟨trivial, ?_⟩
        have hS62 := hS.go w60 [rowO 9 encStr (some ⟨g59, 0, none⟩) 1 [t57], rowO 9 encStr A4 c5 l6, rowO 9 encStr A24 c25 l26] (hS61.map1 0 _ (fun h => rowO.ofBlk h rfl (Nat.le_of_ble_eq_true (by kernel_rfl))) (fun _ h => by obtain ⟨_, h1, h2⟩ := h; injection h1 with h1; subst h1; exact h2) [1, 2] (by decide) (by decide))
        obtain ⟨h63, hl36⟩ := as_some hl36
        refine WL.append hS62 2 (d := 31) (tS := 50) (z := (.string ByteArray.empty)) (bytes := 16) (c2 := 1) rfl (fun fb => by kernel_rfl) (rowO.rd (hS62.own 0).1) (by kernel_rfl) (by kernel_rfl) rfl (by decide) h63 (by decide) [0, 1] (by decide) (by decide) (fun A65 c66 w67 hS68 => ?_)
        refine ⟨trivial, ?_⟩
        refine seg 6 [] [3, 6, 9, 10, 11, 23, 24] [(3, (sv A4 l6 c5)), (6, (sv A65 (l26 ++ [t57]) c66)), (9, (sv Aa p0 ca)), (10, (iv (p0.length : Int))), (11, (iv x7)), (23, (.agg #[(iv ((rdD p0 x7 z_Tile).N)), (iv ((rdD p0 x7 z_Tile).E)), (iv ((rdD p0 x7 z_Tile).S)), (iv ((rdD p0 x7 z_Tile).W))])), (24, (iv x27))] [] (fun fb => by kernel_rfl) rfl trivial ?_
        refine WL.done rfl ?_
        refine WX.blockN (WX.next ?_)
        refine WC.region ?_
        refine seg 2 [] [3, 6, 9, 10, 11, 23, 24] [(3, (sv A4 l6 c5)), (6, (sv A65 (l26 ++ [t57]) c66)), (9, (sv Aa p0 ca)), (10, (iv (p0.length : Int))), (11, (iv x7)), (23, (.agg #[(iv ((rdD p0 x7 z_Tile).N)), (iv ((rdD p0 x7 z_Tile).E)), (iv ((rdD p0 x7 z_Tile).S)), (iv ((rdD p0 x7 z_Tile).W))])), (24, (iv (w64 (x27 + 1))))] [] (fun fb => by kernel_rfl) rfl trivial ?_
        refine WL.done rfl ?_
        exact WX.again k33 (Nat.lt_succ_self _) ((l26 ++ [t57], w64 (x27 + 1)), A65, c66) [3, 6, 9, 10, 11, 23, 24] rfl ⟨(hS68.subR [0]).sub [2, 0] (by decide), hl36⟩
       rcases br_some hl36 with ⟨h69, hl36⟩ | ⟨h69, hl36⟩
       ·
        refine WL.setI 24 (eq_of_beq h69) rfl ?_
        refine seg 1 [] [3, 6, 9, 10, 11, 23, 24, 26] [(3, (sv A4 l6 c5)), (6, (sv A24 l26 c25)), (9, (sv Aa p0 ca)), (10, (iv (p0.length : Int))), (11, (iv x7)), (23, (.agg #[(iv ((rdD p0 x7 z_Tile).N)), (iv ((rdD p0 x7 z_Tile).E)), (iv ((rdD p0 x7 z_Tile).S)), (iv ((rdD p0 x7 z_Tile).W))])), (24, (iv 2)), (26, (iv ((rdD p0 x7 z_Tile).S)))] [] (fun fb => by kernel_rfl) rfl trivial ?_
        refine WL.setI 24 (eq_of_beq h69).symm rfl ?_
        refine seg 2 [] [3, 6, 8, 9, 10, 11, 23, 24] [(3, (sv A4 l6 c5)), (6, (sv A24 l26 c25)), (8, (iv ((rdD p0 x7 z_Tile).S))), (9, (sv Aa p0 ca)), (10, (iv (p0.length : Int))), (11, (iv x7)), (23, (.agg #[(iv ((rdD p0 x7 z_Tile).N)), (iv ((rdD p0 x7 z_Tile).E)), (iv ((rdD p0 x7 z_Tile).S)), (iv ((rdD p0 x7 z_Tile).W))])), (24, (iv x27))] [] (fun fb => by kernel_rfl) rfl trivial ?_
        refine WL.done rfl (WX.next (WC.region ?_))
        refine seg 2 [] [3, 9, 10, 11, 23, 24, 27, 28] [(3, (sv A4 l6 c5)), (9, (sv Aa p0 ca)), (10, (iv (p0.length : Int))), (11, (iv x7)), (23, (.agg #[(iv ((rdD p0 x7 z_Tile).N)), (iv ((rdD p0 x7 z_Tile).E)), (iv ((rdD p0 x7 z_Tile).S)), (iv ((rdD p0 x7 z_Tile).W))])), (24, (iv x27)), (27, (sv A24 l26 c25)), (28, (iv ((rdD p0 x7 z_Tile).S)))] [] (fun fb => by kernel_rfl) rfl trivial ?_
        obtain ⟨t73, ht74, hl36⟩ := bind_some hl36
        refine WL.call (some 29) 41 #[(iv ((rdD p0 x7 z_Tile).S))] (fun fb => by kernel_rfl) (itoa_calls Tryd.strconv_Itoa_small ((rdD p0 x7 z_Tile).S) t73 _ ht74) (fun v w71 hR70 => ?_)
        obtain ⟨rfl, hk_⟩ := hR70
        have hS72 := hS35.keepN hk_
        refine ⟨trivial, ?_⟩
        refine WL.new hS72 30 [] (fun g => (.slice (some ⟨g, 0, none⟩) 1 1)) (.cells #[(.string t73)] 9 (0, 0)) [] (fun fb g => by kernel_rfl) trivial (fun g75 w76 hS77 => ?_)
        refine ⟨trivial, ?_⟩
        have hS78 := hS.go w76 [rowO 9 encStr (some ⟨g75, 0, none⟩) 1 [t73], rowO 9 encStr A4 c5 l6, rowO 9 encStr A24 c25 l26] (hS77.map1 0 _ (fun h => rowO.ofBlk h rfl (Nat.le_of_ble_eq_true (by kernel_rfl))) (fun _ h => by obtain ⟨_, h1, h2⟩ := h; injection h1 with h1; subst h1; exact h2) [1, 2] (by decide) (by decide))
        obtain ⟨h79, hl36⟩ := as_some hl36
        refine WL.append hS78 2 (d := 31) (tS := 50) (z := (.string ByteArray.empty)) (bytes := 16) (c2 := 1) rfl (fun fb => by kernel_rfl) (rowO.rd (hS78.own 0).1) (by kernel_rfl) (by kernel_rfl) rfl (by decide) h79 (by decide) [0, 1] (by decide) (by decide) (fun A80 c81 w82 hS83 => ?_)
        refine ⟨trivial, ?_⟩
        refine seg 6 [] [3, 6, 9, 10, 11, 23, 24] [(3, (sv A4 l6 c5)), (6, (sv A80 (l26 ++ [t73]) c81)), (9, (sv Aa p0 ca)), (10, (iv (p0.length : Int))), (11, (iv x7)), (23, (.agg #[(iv ((rdD p0 x7 z_Tile).N)), (iv ((rdD p0 x7 z_Tile).E)), (iv ((rdD p0 x7 z_Tile).S)), (iv ((rdD p0 x7 z_Tile).W))])), (24, (iv x27))] [] (fun fb => by kernel_rfl) rfl trivial ?_
        refine WL.done rfl ?_
        refine WX.blockN (WX.next ?_)
        refine WC.region ?_
        refine seg 2 [] [3, 6, 9, 10, 11, 23, 24] [(3, (sv A4 l6 c5)), (6, (sv A80 (l26 ++ [t73]) c81)), (9, (sv Aa p0 ca)), (10, (iv (p0.length : Int))), (11, (iv x7)), (23, (.agg #[(iv ((rdD p0 x7 z_Tile).N)), (iv ((rdD p0 x7 z_Tile).E)), (iv ((rdD p0 x7 z_Tile).S)), (iv ((rdD p0 x7 z_Tile).W))])), (24, (iv (w64 (x27 + 1))))] [] (fun fb => by kernel_rfl) rfl trivial ?_
        refine WL.done rfl ?_
        exact WX.again k33 (Nat.lt_succ_self _) ((l26 ++ [t73], w64 (x27 + 1)), A80, c81) [3, 6, 9, 10, 11, 23, 24] rfl ⟨(hS83.subR [0]).sub [2, 0] (by decide), hl36⟩
       rcases br_some hl36 with ⟨h84, hl36⟩ | ⟨h84, hl36⟩
       ·
        refine WL.setI 24 (eq_of_beq h84) rfl ?_
        refine seg 1 [] [3, 6, 9, 10, 11, 23, 24, 26] [(3, (sv A4 l6 c5)), (6, (sv A24 l26 c25)), (9, (sv Aa p0 ca)), (10, (iv (p0.length : Int))), (11, (iv x7)), (23, (.agg #[(iv ((rdD p0 x7 z_Tile).N)), (iv ((rdD p0 x7 z_Tile).E)), (iv ((rdD p0 x7 z_Tile).S)), (iv ((rdD p0 x7 z_Tile).W))])), (24, (iv 3)), (26, (iv ((rdD p0 x7 z_Tile).W)))] [] (fun fb => by kernel_rfl) rfl trivial ?_
        refine WL.setI 24 (eq_of_beq h84).symm rfl ?_
        refine seg 2 [] [3, 6, 8, 9, 10, 11, 23, 24] [(3, (sv A4 l6 c5)), (6, (sv A24 l26 c25)), (8, (iv ((rdD p0 x7 z_Tile).W))), (9, (sv Aa p0 ca)), (10, (iv (p0.length : Int))), (11, (iv x7)), (23, (.agg #[(iv ((rdD p0 x7 z_Tile).N)), (iv ((rdD p0 x7 z_Tile).E)), (iv ((rdD p0 x7 z_Tile).S)), (iv ((rdD p0 x7 z_Tile).W))])), (24, (iv x27))] [] (fun fb => by kernel_rfl) rfl trivial ?_
        refine WL.done rfl (WX.next (WC.region ?_))
        refine seg 2 [] [3, 9, 10, 11, 23, 24, 27, 28] [(3, (sv A4 l6 c5)), (9, (sv Aa p0 ca)), (10, (iv (p0.length : Int))), (11, (iv x7)), (23, (.agg #[(iv ((rdD p0 x7 z_Tile).N)), (iv ((rdD p0 x7 z_Tile).E)), (iv ((rdD p0 x7 z_Tile).S)), (iv ((rdD p0 x7 z_Tile).W))])), (24, (iv x27)), (27, (sv A24 l26 c25)), (28, (iv ((rdD p0 x7 z_Tile).W)))] [] (fun fb => by kernel_rfl) rfl trivial ?_
        obtain ⟨t88, ht89, hl36⟩ := bind_some hl36
        refine WL.call (some 29) 41 #[(iv ((rdD p0 x7 z_Tile).W))] (fun fb => by kernel_rfl) (itoa_calls Tryd.strconv_Itoa_small ((rdD p0 x7 z_Tile).W) t88 _ ht89) (fun v w86 hR85 => ?_)
        obtain ⟨rfl, hk_⟩ := hR85
        have hS87 := hS35.keepN hk_
        refine ⟨trivial, ?_⟩
        refine WL.new hS87 30 [] (fun g => (.slice (some ⟨g, 0, none⟩) 1 1)) (.cells #[(.string t88)] 9 (0, 0)) [] (fun fb g => by kernel_rfl) trivial (fun g90 w91 hS92 => ?_)
        refine ⟨trivial, ?_⟩
        have hS93 := hS.go w91 [rowO 9 encStr (some ⟨g90, 0, none⟩) 1 [t88], rowO 9 encStr A4 c5 l6, rowO 9 encStr A24 c25 l26] (hS92.map1 0 _ (fun h => rowO.ofBlk h rfl (Nat.le_of_ble_eq_true (by kernel_rfl))) (fun _ h => by obtain ⟨_, h1, h2⟩ := h; injection h1 with h1; subst h1; exact h2) [1, 2] (by decide) (by decide))
        obtain ⟨h94, hl36⟩ := as_some hl36
        refine WL.append hS93 2 (d := 31) (tS := 50) (z := (.string ByteArray.empty)) (bytes := 16) (c2 := 1) rfl (fun fb => by kernel_rfl) (rowO.rd (hS93.own 0).1) (by kernel_rfl) (by kernel_rfl) rfl (by decide) h94 (by decide) [0, 1] (by decide) (by decide) (fun A95 c96 w97 hS98 => ?_)
        refine ⟨trivial, ?_⟩
        refine seg 6 [] [3, 6, 9, 10, 11, 23, 24] [(3, (sv A4 l6 c5)), (6, (sv A95 (l26 ++ [t88]) c96)), (9, (sv Aa p0 ca)), (10, (iv (p0.length : Int))), (11, (iv x7)), (23, (.agg #[(iv ((rdD p0 x7 z_Tile).N)), (iv ((rdD p0 x7 z_Tile).E)), (iv ((rdD p0 x7 z_Tile).S)), (iv ((rdD p0 x7 z_Tile).W))])), (24, (iv x27))] [] (fun fb => by kernel_rfl) rfl trivial ?_
        refine WL.done rfl ?_
        refine WX.blockN (WX.next ?_)
        refine WC.region ?_
        refine seg 2 [] [3, 6, 9, 10, 11, 23, 24] [(3, (sv A4 l6 c5)), (6, (sv A95 (l26 ++ [t88]) c96)), (9, (sv Aa p0 ca)), (10, (iv (p0.length : Int))), (11, (iv x7)), (23, (.agg #[(iv ((rdD p0 x7 z_Tile).N)), (iv ((rdD p0 x7 z_Tile).E)), (iv ((rdD p0 x7 z_Tile).S)), (iv ((rdD p0 x7 z_Tile).W))])), (24, (iv (w64 (x27 + 1))))] [] (fun fb => by kernel_rfl) rfl trivial ?_
        refine WL.done rfl ?_
        exact WX.again k33 (Nat.lt_succ_self _) ((l26 ++ [t88], w64 (x27 + 1)), A95, c96) [3, 6, 9, 10, 11, 23, 24] rfl ⟨(hS98.subR [0]).sub [2, 0] (by decide), hl36⟩
       cases hl36
      refine WC.condF2 (fun fb => by kernel_rfl) h37 ?_
      refine WC.exit ?_
      injection hl36 with hl36
      exact WX.thenX (WX.thenX (WX.blockHere (WX.to Kx31 (l26, A24, c25) [3, 6, 9, 10, 11] rfl ⟨(hS35.subR [0]).sub [0, 1] (by decide), hl36.symm⟩)))
    rintro ⟨y102, A29, c30⟩ w99 ⟨hS100, hq101⟩
    subst hq101
    refine WX.next (WC.region ?_)
    refine seg 2 [] [9, 10, 11, 33, 34] [(9, (sv Aa p0 ca)), (10, (iv (p0.length : Int))), (11, (iv x7)), (33, (sv A4 l6 c5)), (34, (sv A29 x31 c30))] [] (fun fb => by kernel_rfl) rfl trivial ?_
    obtain ⟨t106, ht107, hl15⟩ := bind_some hl15
    refine WL.call (some 35) 42 #[(sv A29 x31 c30), (.string (⟨#[46]⟩ : ByteArray))] (fun fb => by kernel_rfl) (join_calls Tryd.strings_Join Tryd.strings_Join_none x31 (⟨#[46]⟩ : ByteArray) A29 c30 t106 _ (hS100.ow 1) ht107) (fun v w104 hR103 => ?_)
    obtain ⟨rfl, hk_⟩ := hR103
    have hS105 := hS100.keepN hk_
    refine ⟨trivial, ?_⟩
    refine WL.new hS105 36 [] (fun g => (.slice (some ⟨g, 0, none⟩) 1 1)) (.cells #[(.string t106)] 9 (0, 0)) [] (fun fb g => by kernel_rfl) trivial (fun g108 w109 hS110 => ?_)
    refine ⟨trivial, ?_⟩
    have hS111 := hS.go w109 [rowO 9 encStr (some ⟨g108, 0, none⟩) 1 [t106], rowO 9 encStr A4 c5 l6, rowO 9 encStr A29 c30 x31] (hS110.map1 0 _ (fun h => rowO.ofBlk h rfl (Nat.le_of_ble_eq_true (by kernel_rfl))) (fun _ h => by obtain ⟨_, h1, h2⟩ := h; injection h1 with h1; subst h1; exact h2) [1, 2] (by decide) (by decide))
    obtain ⟨h112, hl15⟩ := as_some hl15
    refine WL.append hS111 1 (d := 37) (tS := 50) (z := (.string ByteArray.empty)) (bytes := 16) (c2 := 1) rfl (fun fb => by kernel_rfl) (rowO.rd (hS111.own 0).1) (by kernel_rfl) (by kernel_rfl) rfl (by decide) h112 (by decide) [0, 2] (by decide) (by decide) (fun A113 c114 w115 hS116 => ?_)
    refine ⟨trivial, ?_⟩
    refine seg 6 [] [3, 9, 10, 11] [(3, (sv A113 (l6 ++ [t106]) c114)), (9, (sv Aa p0 ca)), (10, (iv (p0.length : Int))), (11, (iv x7))] [] (fun fb => by kernel_rfl) rfl trivial ?_
    refine WL.done rfl ?_
    refine WX.blockN (WX.next ?_)
    refine WC.region ?_
    refine seg 2 [] [3, 9, 10, 11] [(3, (sv A113 (l6 ++ [t106]) c114)), (9, (sv Aa p0 ca)), (10, (iv (p0.length : Int))), (11, (iv (w64 (x7 + 1))))] [] (fun fb => by kernel_rfl) rfl trivial ?_
    refine WL.done rfl ?_
    exact WX.again k12 (Nat.lt_succ_self _) ((l6 ++ [t106], w64 (x7 + 1)), A113, c114) [3, 9, 10, 11] rfl ⟨(hS116.subR [0]).sub [0] (by decide), hl15⟩
   refine WC.condF2 (fun fb => by kernel_rfl) h16 ?_
   refine WC.exit ?_
   injection hl15 with hl15
   exact WX.thenX (WX.thenX (WX.blockHere (WX.to Kx10 (l6, A4, c5) [3] rfl ⟨(hS14.subR [0]).sub [0] (by decide), hl15.symm⟩)))
 rintro ⟨y120, A8, c9⟩ w117 ⟨hS118, hq119⟩
 subst hq119
 refine WX.next (WC.seq (WC.region ?_))
 refine seg 1 [] [39] [(39, (sv A8 x10 c9))] [] (fun fb => by kernel_rfl) rfl trivial ?_
 obtain ⟨t124, ht125, hf⟩ := bind_some hf
 refine WL.call (some 40) 42 #[(sv A8 x10 c9), (.string (⟨#[32]⟩ : ByteArray))] (fun fb => by kernel_rfl) (join_calls Tryd.strings_Join Tryd.strings_Join_none x10 (⟨#[32]⟩ : ByteArray) A8 c9 t124 _ (hS118.ow 0) ht125) (fun v w122 hR121 => ?_)
 obtain ⟨rfl, hk_⟩ := hR121
 have hS123 := hS118.keepN hk_
 refine ⟨trivial, ?_⟩
 refine seg 3 [] [2] [(2, (.string t124))] [] (fun fb => by kernel_rfl) rfl trivial ?_
 refine WL.done rfl (WX.next ?_)
 refine WC.ret ?_
 injection hf with hf
 subst hf
 exact WX.ret_ [] (.string t124) [] (fun fb => by kernel_rfl) trivial ⟨_, rfl, rfl, hS123.keep⟩
theorem tile_Parse_calls (k : Nat) (p0 : ByteArray) (mG : Int) (r : (List Tile) × Int) (w : World) (hR0 : RO NoS w (cel ⟨2, 0, none⟩ (iv mG))) (hf : tile_Parse k p0 = some r) :
  CallsR Tryd.prog 16 #[(.string p0)] w (fun v w' => ∃ (A1_ : Option Addr), ∃ (c1_ : Nat), v = (.tuple #[(sv A1_ r.1 c1_), (iv r.2)]) ∧ St NoS w w' [] [rowO 37 enc_Tile A1_ c1_ r.1]) := by
 have hS : St NoS w w [cel ⟨2, 0, none⟩ (iv mG)] [] := St.init (ro_cons hR0 (ro_nil _ _))
 refine enter 76 Tryd.func16 rfl Tryd.ntmps16 rfl ?_
 unfold tile_Parse at hf
 refine WC.seq (WC.region ?_)
 refine seg 2 [] [0] [(0, (.string p0))] [] (fun fb => by kernel_rfl) rfl trivial ?_
 refine WL.done rfl (WX.next (WC.seq (WC.region ?_)))
 refine seg 1 [] [0, 4] [(0, (.string p0)), (4, (.slice none 0 0))] [] (fun fb => by kernel_rfl) rfl trivial ?_
 refine WL.done rfl (WX.next (WC.seq (WC.seq (WC.region ?_))))
 refine seg 1 [] [0, 4, 13] [(0, (.string p0)), (4, (.slice none 0 0)), (13, (.string p0))] [] (fun fb => by kernel_rfl) rfl trivial ?_
 refine seg 2 [] [0, 4, 14] [(0, (.string p0)), (4, (.slice none 0 0)), (14, (bv (p0.toList == (⟨#[]⟩ : ByteArray).toList)))] [] (fun fb => by kernel_rfl) rfl trivial ?_
 refine WL.setB 14 (strEq_raw p0 (⟨#[]⟩ : ByteArray)) rfl ?_
 refine WL.done rfl (WX.next ?_)
 rcases br_some hf with ⟨h3, hf⟩ | ⟨h3, hf⟩
 ·refine WC.condT2 (fun fb => by kernel_rfl) h3 ?_
  refine WC.seq (WC.region ?_)
  refine seg 2 [] [2, 3] [(2, (.slice none 0 0)), (3, (iv 0))] [] (fun fb => by kernel_rfl) rfl trivial ?_
  refine WL.done rfl (WX.next ?_)
  refine WC.ret ?_
  have hS4 := hS.nilrow 37 enc_Tile
  injection hf with hf
  subst hf
  exact WX.thenR (WX.ret_ [] (.tuple #[(sv none ([] : List Tile) 0), (iv 0)]) [] (fun fb => by kernel_rfl) trivial ⟨_, rfl, none, 0, rfl, (hS4.sub [0] (by decide)).noR⟩)
 refine WC.condF2 (fun fb => by kernel_rfl) h3 ?_
 refine WC.skip (WX.next (WC.seq (WC.seq (WC.region ?_))))
 refine seg 3 [] [0, 4, 17] [(0, (.string p0)), (4, (.slice none 0 0)), (17, (bv (decide ((p0.size : Int) > 16000))))] [] (fun fb => by kernel_rfl) rfl trivial ?_
 refine WL.done rfl (WX.next ?_)
 rcases br_some hf with ⟨h5, hf⟩ | ⟨h5, hf⟩
 ·refine WC.condT2 (fun fb => by kernel_rfl) h5 ?_
  refine WC.seq (WC.region ?_)
  refine seg 2 [] [2, 3] [(2, (.slice none 0 0)), (3, (iv 3))] [] (fun fb => by kernel_rfl) rfl trivial ?_
  refine WL.done rfl (WX.next ?_)
  refine WC.ret ?_
  have hS6 := hS.nilrow 37 enc_Tile
  injection hf with hf
  subst hf
  exact WX.thenR (WX.ret_ [] (.tuple #[(sv none ([] : List Tile) 0), (iv 3)]) [] (fun fb => by kernel_rfl) trivial ⟨_, rfl, none, 0, rfl, (hS6.sub [0] (by decide)).noR⟩)
 refine WC.condF2 (fun fb => by kernel_rfl) h5 ?_
 refine WC.skip (WX.next (WC.seq (WC.seq (WC.region ?_))))
 refine seg 1 [] [0, 4, 18] [(0, (.string p0)), (4, (.slice none 0 0)), (18, (.string p0))] [] (fun fb => by kernel_rfl) rfl trivial ?_
 obtain ⟨h10, hf⟩ := as_some hf
 refine WL.call (some 19) 26 #[(.string p0), (.string (⟨#[32]⟩ : ByteArray))] (fun fb => by kernel_rfl) (split_calls Tryd.strings_Split p0 (⟨#[32]⟩ : ByteArray) mG _ (hS.rd 0) h10) (fun v w8 hR7 => ?_)
 obtain ⟨A11, c12, rfl, hk_⟩ := hR7
 have hS9 := hS.go w8 [rowO 9 encStr A11 c12 (splitP p0 (⟨#[32]⟩ : ByteArray))] (hS.call hk_ [] [] (fun g hg => hg.elim) (by simp) (by decide))
 refine ⟨trivial, ?_⟩
 refine seg 4 [] [0, 4, 19, 20, 21] [(0, (.string p0)), (4, (.slice none 0 0)), (19, (sv A11 (splitP p0 (⟨#[32]⟩ : ByteArray)) c12)), (20, (iv ((splitP p0 (⟨#[32]⟩ : ByteArray)).length : Int))), (21, (iv 0))] [] (fun fb => by kernel_rfl) rfl trivial ?_
 refine WL.done rfl (WX.next ?_)
 have hS13 := hS9.nilrow 37 enc_Tile
 obtain ⟨x21, hx22, hf⟩ := bind_some hf
 refine WC.cutN (T := (List Tile) × (Option Addr) × Nat) (fun t => [(0, (.string p0)), (4, (sv t.2.1 t.1 t.2.2))]) (fun t w1 => St NoS w w1 [cel ⟨2, 0, none⟩ (iv mG)] [rowO 37 enc_Tile t.2.1 t.2.2 t.1] ∧ x21 = .inr t.1) (fun Kx21 => ?_) ?_
 ·
  refine WC.block ?_
  refine WC.loop (T := ((List Tile) × Int) × (Option Addr) × Nat) (fun t => [(0, (.string p0)), (4, (sv t.2.1 t.1.1 t.2.2)), (19, (sv A11 (splitP p0 (⟨#[32]⟩ : ByteArray)) c12)), (20, (iv ((splitP p0 (⟨#[32]⟩ : ByteArray)).length : Int))), (21, (iv t.1.2))]) (fun n t w1 => St NoS w w1 [cel ⟨2, 0, none⟩ (iv mG)] [rowO 37 enc_Tile t.2.1 t.2.2 t.1.1, rowO 9 encStr A11 c12 (splitP p0 (⟨#[32]⟩ : ByteArray))] ∧ tile_Parse.l0 n t.1.1 t.1.2 p0 = some x21) k ((([] : List Tile), 0), none, 0) [0, 4, 19, 20, 21] rfl ⟨(hS13.subR [0]).sub [0, 1] (by decide), hx22⟩ ?_
  rintro k23 ⟨⟨l17, x18⟩, A14, c15⟩ w24 ⟨hS25, hl26⟩
  cases k23 with
  | zero => rw [tile_Parse.l0] at hl26; cases hl26
  | succ k23 =>
   rw [tile_Parse.l0] at hl26
   refine WC.seq (WC.region ?_)
   refine seg 1 [] [0, 4, 19, 20, 21, 22] [(0, (.string p0)), (4, (sv A14 l17 c15)), (19, (sv A11 (splitP p0 (⟨#[32]⟩ : ByteArray)) c12)), (20, (iv ((splitP p0 (⟨#[32]⟩ : ByteArray)).length : Int))), (21, (iv x18)), (22, (bv (decide (x18 < ((splitP p0 (⟨#[32]⟩ : ByteArray)).length : Int)))))] [] (fun fb => by kernel_rfl) rfl trivial ?_
   refine WL.done rfl (WX.next (WC.seq ?_))
   rcases br_some hl26 with ⟨h27, hl26⟩ | ⟨h27, hl26⟩
   ·refine WC.condT2 (fun fb => by kernel_rfl) h27 ?_
    refine WC.skip (WX.next (WC.seq (WC.block (WC.seq (WC.region ?_)))))
    obtain ⟨h28, hl26⟩ := as_some hl26
    refine seg 3 [.v (.string (rdD (splitP p0 (⟨#[32]⟩ : ByteArray)) x18 ByteArray.empty))] [0, 4, 6, 19, 20, 21] [(0, (.string p0)), (4, (sv A14 l17 c15)), (6, (.string (rdD (splitP p0 (⟨#[32]⟩ : ByteArray)) x18 ByteArray.empty))), (19, (sv A11 (splitP p0 (⟨#[32]⟩ : ByteArray)) c12)), (20, (iv ((splitP p0 (⟨#[32]⟩ : ByteArray)).length : Int))), (21, (iv x18))] [.idx A11 x18 (splitP p0 (⟨#[32]⟩ : ByteArray)).length, .cell ((adr A11).add ((x18).toNat * 1)) (.string (rdD (splitP p0 (⟨#[32]⟩ : ByteArray)) x18 ByteArray.empty))] (fun fb => by kernel_rfl) rfl ⟨rowR.adr (rowO.rd (hS25.own 1).1) h28.1 h28.2, rowR.cell (rowO.rd (hS25.own 1).1) ByteArray.empty h28.1 h28.2 0 rfl, trivial⟩ ?_
    refine WL.done rfl (WX.next (WC.seq (WC.region ?_)))
    refine seg 1 [] [0, 4, 19, 20, 21, 25] [(0, (.string p0)), (4, (sv A14 l17 c15)), (19, (sv A11 (splitP p0 (⟨#[32]⟩ : ByteArray)) c12)), (20, (iv ((splitP p0 (⟨#[32]⟩ : ByteArray)).length : Int))), (21, (iv x18)), (25, (.string (rdD (splitP p0 (⟨#[32]⟩ : ByteArray)) x18 ByteArray.empty)))] [] (fun fb => by kernel_rfl) rfl trivial ?_
    obtain ⟨h32, hl26⟩ := as_some hl26
    refine WL.call (some 26) 26 #[(.string (rdD (splitP p0 (⟨#[32]⟩ : ByteArray)) x18 ByteArray.empty)), (.string (⟨#[46]⟩ : ByteArray))] (fun fb => by kernel_rfl) (split_calls Tryd.strings_Split (rdD (splitP p0 (⟨#[32]⟩ : ByteArray)) x18 ByteArray.empty) (⟨#[46]⟩ : ByteArray) mG _ (hS25.rd 0) h32) (fun v w30 hR29 => ?_)
    obtain ⟨A33, c34, rfl, hk_⟩ := hR29
    have hS31 := hS9.go w30 [rowO 9 encStr A33 c34 (splitP (rdD (splitP p0 (⟨#[32]⟩ : ByteArray)) x18 ByteArray.empty) (⟨#[46]⟩ : ByteArray)), rowO 37 enc_Tile A14 c15 l17, rowO 9 encStr A11 c12 (splitP p0 (⟨#[32]⟩ : ByteArray))] (hS25.call hk_ [] [0, 1] (fun g hg => hg.elim) (by simp) (by decide))
    refine ⟨trivial, ?_⟩
    refine seg 3 [] [0, 4, 7, 19, 20, 21] [(0, (.string p0)), (4, (sv A14 l17 c15)), (7, (sv A33 (splitP (rdD (splitP p0 (⟨#[32]⟩ : ByteArray)) x18 ByteArray.empty) (⟨#[46]⟩ : ByteArray)) c34)), (19, (sv A11 (splitP p0 (⟨#[32]⟩ : ByteArray)) c12)), (20, (iv ((splitP p0 (⟨#[32]⟩ : ByteArray)).length : Int))), (21, (iv x18))] [] (fun fb => by kernel_rfl) rfl trivial ?_
    refine WL.done rfl (WX.next (WC.seq (WC.seq (WC.region ?_))))
    refine seg 4 [] [0, 4, 7, 19, 20, 21, 30] [(0, (.string p0)), (4, (sv A14 l17 c15)), (7, (sv A33 (splitP (rdD (splitP p0 (⟨#[32]⟩ : ByteArray)) x18 ByteArray.empty) (⟨#[46]⟩ : ByteArray)) c34)), (19, (sv A11 (splitP p0 (⟨#[32]⟩ : ByteArray)) c12)), (20, (iv ((splitP p0 (⟨#[32]⟩ : ByteArray)).length : Int))), (21, (iv x18)), (30, (bv (((splitP (rdD (splitP p0 (⟨#[32]⟩ : ByteArray)) x18 ByteArray.empty) (⟨#[46]⟩ : ByteArray)).length : Int) != 4)))] [] (fun fb => by kernel_rfl) rfl trivial ?_
    refine WL.cutV (T := Bool) 8 (fun t => [(34, (bv t)), (0, (.string p0)), (4, (sv A14 l17 c15)), (7, (sv A33 (splitP (rdD (splitP p0 (⟨#[32]⟩ : ByteArray)) x18 ByteArray.empty) (⟨#[46]⟩ : ByteArray)) c34)), (19, (sv A11 (splitP p0 (⟨#[32]⟩ : ByteArray)) c12)), (20, (iv ((splitP p0 (⟨#[32]⟩ : ByteArray)).length : Int))), (21, (iv x18))]) (fun t => ((((splitP (rdD (splitP p0 (⟨#[32]⟩ : ByteArray)) x18 ByteArray.empty) (⟨#[46]⟩ : ByteArray)).length : Int) != 4) || (decide ((l17.length : Int) > 1000))) = t) (fun K => ?_) ?_
    ·
     rcases Bool.eq_false_or_eq_true (((splitP (rdD (splitP p0 (⟨#[32]⟩ : ByteArray)) x18 ByteArray.empty) (⟨#[46]⟩ : ByteArray)).length : Int) != 4) with h35 | h35
     ·
      refine WL.setB 30 h35 rfl ?_
      refine seg 8 [] [0, 4, 7, 19, 20, 21, 34] [(0, (.string p0)), (4, (sv A14 l17 c15)), (7, (sv A33 (splitP (rdD (splitP p0 (⟨#[32]⟩ : ByteArray)) x18 ByteArray.empty) (⟨#[46]⟩ : ByteArray)) c34)), (19, (sv A11 (splitP p0 (⟨#[32]⟩ : ByteArray)) c12)), (20, (iv ((splitP p0 (⟨#[32]⟩ : ByteArray)).length : Int))), (21, (iv x18)), (34, (bv true))] [] (fun fb => by kernel_rfl) rfl trivial ?_
      exact WL.toV K true [34, 0, 4, 7, 19, 20, 21] rfl (by first | (rw [h35]; done) | (rw [h35]; rfl))
     refine WL.setB 30 h35 rfl ?_
     refine seg 8 [] [0, 4, 7, 19, 20, 21, 34] [(0, (.string p0)), (4, (sv A14 l17 c15)), (7, (sv A33 (splitP (rdD (splitP p0 (⟨#[32]⟩ : ByteArray)) x18 ByteArray.empty) (⟨#[46]⟩ : ByteArray)) c34)), (19, (sv A11 (splitP p0 (⟨#[32]⟩ : ByteArray)) c12)), (20, (iv ((splitP p0 (⟨#[32]⟩ : ByteArray)).length : Int))), (21, (iv x18)), (34, (bv (decide ((l17.length : Int) > 1000))))] [] (fun fb => by kernel_rfl) rfl trivial ?_
     exact WL.toV K (decide ((l17.length : Int) > 1000)) [34, 0, 4, 7, 19, 20, 21] rfl (by first | (rw [h35]; done) | (rw [h35]; rfl))
    rintro b36 rfl
    refine WL.done rfl (WX.next ?_)
    rcases br_some hl26 with ⟨h37, hl26⟩ | ⟨h37, hl26⟩
    ·refine WC.condT2 (fun fb => by kernel_rfl) h37 ?_
     refine WC.seq (WC.region ?_)
     refine seg 2 [] [2, 3] [(2, (.slice none 0 0)), (3, (iv 3))] [] (fun fb => by kernel_rfl) rfl trivial ?_
     refine WL.done rfl (WX.next ?_)
     refine WC.ret ?_
     have hS38 := hS31.nilrow 37 enc_Tile
     injection hl26 with hl26
     subst hl26
     injection hf with hf
     subst hf
     exact WX.thenR (WX.blockR (WX.thenR (WX.thenR (WX.blockR (WX.thenR (WX.ret_ [] (.tuple #[(sv none ([] : List Tile) 0), (iv 3)]) [] (fun fb => by kernel_rfl) trivial ⟨_, rfl, none, 0, rfl, (hS38.sub [0] (by decide)).noR⟩))))))
    refine WC.condF2 (fun fb => by kernel_rfl) h37 ?_
    refine WC.skip (WX.next (WC.seq (WC.region ?_)))
    refine WL.new hS31 8 [] (fun g => (pt g)) (.cells #[(iv 0), (iv 0), (iv 0), (iv 0)] 52 (0, 0)) [] (fun fb g => by kernel_rfl) trivial (fun g39 w40 hS41 => ?_)
    refine ⟨trivial, ?_⟩
    refine WL.done rfl (WX.next (WC.seq (WC.seq (WC.region ?_))))
    refine seg 3 [] [0, 4, 8, 19, 20, 21, 35, 36, 37] [(0, (.string p0)), (4, (sv A14 l17 c15)), (8, (pt g39)), (19, (sv A11 (splitP p0 (⟨#[32]⟩ : ByteArray)) c12)), (20, (iv ((splitP p0 (⟨#[32]⟩ : ByteArray)).length : Int))), (21, (iv x18)), (35, (sv A33 (splitP (rdD (splitP p0 (⟨#[32]⟩ : ByteArray)) x18 ByteArray.empty) (⟨#[46]⟩ : ByteArray)) c34)), (36, (iv ((splitP (rdD (splitP p0 (⟨#[32]⟩ : ByteArray)) x18 ByteArray.empty) (⟨#[46]⟩ : ByteArray)).length : Int))), (37, (iv 0))] [] (fun fb => by kernel_rfl) rfl trivial ?_
    refine WL.done rfl (WX.next ?_)
    obtain ⟨x47, hx48, hl26⟩ := bind_some hl26
    refine WC.cutN (T := Int × Int × Int × Int) (fun t => [(0, (.string p0)), (4, (sv A14 l17 c15)), (8, (pt g39)), (19, (sv A11 (splitP p0 (⟨#[32]⟩ : ByteArray)) c12)), (20, (iv ((splitP p0 (⟨#[32]⟩ : ByteArray)).length : Int))), (21, (iv x18))]) (fun t w1 => St NoS w w1 [cel ⟨2, 0, none⟩ (iv mG)] [rowO 37 enc_Tile A14 c15 l17, blk g39 (.cells #[(iv t.1), (iv t.2.1), (iv t.2.2.1), (iv t.2.2.2)] 52 (0, 0)), rowO 9 encStr A11 c12 (splitP p0 (⟨#[32]⟩ : ByteArray))] ∧ x47 = t) (fun Kx47 => ?_) ?_
    ·
     refine WC.block ?_
     refine WC.loop (T := Int × Int × Int × Int × Int) (fun t => [(0, (.string p0)), (4, (sv A14 l17 c15)), (8, (pt g39)), (19, (sv A11 (splitP p0 (⟨#[32]⟩ : ByteArray)) c12)), (20, (iv ((splitP p0 (⟨#[32]⟩ : ByteArray)).length : Int))), (21, (iv x18)), (35, (sv A33 (splitP (rdD (splitP p0 (⟨#[32]⟩ : ByteArray)) x18 ByteArray.empty) (⟨#[46]⟩ : ByteArray)) c34)), (36, (iv ((splitP (rdD (splitP p0 (⟨#[32]⟩ : ByteArray)) x18 ByteArray.empty) (⟨#[46]⟩ : ByteArray)).length : Int))), (37, (iv t.2.2.2.2))]) (fun n t w1 => St NoS w w1 [cel ⟨2, 0, none⟩ (iv mG)] [rowO 37 enc_Tile A14 c15 l17, blk g39 (.cells #[(iv t.1), (iv t.2.1), (iv t.2.2.1), (iv t.2.2.2.1)] 52 (0, 0)), rowO 9 encStr A11 c12 (splitP p0 (⟨#[32]⟩ : ByteArray)), rowO 9 encStr A33 c34 (splitP (rdD (splitP p0 (⟨#[32]⟩ : ByteArray)) x18 ByteArray.empty) (⟨#[46]⟩ : ByteArray))] ∧ tile_Parse.l1 n t.1 t.2.1 t.2.2.1 t.2.2.2.1 t.2.2.2.2 p0 x18 = some x47) k23 (0, 0, 0, 0, 0) [0, 4, 8, 19, 20, 21, 35, 36, 37] rfl ⟨(hS41.subR [0]).sub [2, 0, 3, 1] (by decide), hx48⟩ ?_
     rintro k49 ⟨x42, x43, x44, x45, x46⟩ w50 ⟨hS51, hl52⟩
     cases k49 with
     | zero => rw [tile_Parse.l1] at hl52; cases hl52
     | succ k49 =>
      rw [tile_Parse.l1] at hl52
      refine WC.seq (WC.region ?_)
      refine seg 1 [] [0, 4, 8, 19, 20, 21, 35, 36, 37, 38] [(0, (.string p0)), (4, (sv A14 l17 c15)), (8, (pt g39)), (19, (sv A11 (splitP p0 (⟨#[32]⟩ : ByteArray)) c12)), (20, (iv ((splitP p0 (⟨#[32]⟩ : ByteArray)).length : Int))), (21, (iv x18)), (35, (sv A33 (splitP (rdD (splitP p0 (⟨#[32]⟩ : ByteArray)) x18 ByteArray.empty) (⟨#[46]⟩ : ByteArray)) c34)), (36, (iv ((splitP (rdD (splitP p0 (⟨#[32]⟩ : ByteArray)) x18 ByteArray.empty) (⟨#[46]⟩ : ByteArray)).length : Int))), (37, (iv x46)), (38, (bv (decide (x46 < ((splitP (rdD (splitP p0 (⟨#[32]⟩ : ByteArray)) x18 ByteArray.empty) (⟨#[46]⟩ : ByteArray)).length : Int)))))] [] (fun fb => by kernel_rfl) rfl trivial ?_
      refine WL.done rfl (WX.next (WC.seq ?_))
      rcases br_some hl52 with ⟨h53, hl52⟩ | ⟨h53, hl52⟩
      ·refine WC.condT2 (fun fb => by kernel_rfl) h53 ?_
       refine WC.skip (WX.next (WC.seq (WC.block (WC.seq (WC.region ?_)))))
       refine seg 1 [] [0, 4, 8, 19, 20, 21, 35, 36, 37, 39] [(0, (.string p0)), (4, (sv A14 l17 c15)), (8, (pt g39)), (19, (sv A11 (splitP p0 (⟨#[32]⟩ : ByteArray)) c12)), (20, (iv ((splitP p0 (⟨#[32]⟩ : ByteArray)).length : Int))), (21, (iv x18)), (35, (sv A33 (splitP (rdD (splitP p0 (⟨#[32]⟩ : ByteArray)) x18 ByteArray.empty) (⟨#[46]⟩ : ByteArray)) c34)), (36, (iv ((splitP (rdD (splitP p0 (⟨#[32]⟩ : ByteArray)) x18 ByteArray.empty) (⟨#[46]⟩ : ByteArray)).length : Int))), (37, (iv x46)), (39, (iv x46))] [] (fun fb => by kernel_rfl) rfl trivial ?_
       obtain ⟨h54, hl52⟩ := as_some hl52
       refine seg 5 [.v (.string (rdD (splitP (rdD (splitP p0 (⟨#[32]⟩ : ByteArray)) x18 ByteArray.empty) (⟨#[46]⟩ : ByteArray)) x46 ByteArray.empty))] [0, 4, 8, 9, 10, 19, 20, 21, 35, 36, 37] [(0, (.string p0)), (4, (sv A14 l17 c15)), (8, (pt g39)), (9, (iv x46)), (10, (.string (rdD (splitP (rdD (splitP p0 (⟨#[32]⟩ : ByteArray)) x18 ByteArray.empty) (⟨#[46]⟩ : ByteArray)) x46 ByteArray.empty))), (19, (sv A11 (splitP p0 (⟨#[32]⟩ : ByteArray)) c12)), (20, (iv ((splitP p0 (⟨#[32]⟩ : ByteArray)).length : Int))), (21, (iv x18)), (35, (sv A33 (splitP (rdD (splitP p0 (⟨#[32]⟩ : ByteArray)) x18 ByteArray.empty) (⟨#[46]⟩ : ByteArray)) c34)), (36, (iv ((splitP (rdD (splitP p0 (⟨#[32]⟩ : ByteArray)) x18 ByteArray.empty) (⟨#[46]⟩ : ByteArray)).length : Int))), (37, (iv x46))] [.idx A33 x46 (splitP (rdD (splitP p0 (⟨#[32]⟩ : ByteArray)) x18 ByteArray.empty) (⟨#[46]⟩ : ByteArray)).length, .cell ((adr A33).add ((x46).toNat * 1)) (.string (rdD (splitP (rdD (splitP p0 (⟨#[32]⟩ : ByteArray)) x18 ByteArray.empty) (⟨#[46]⟩ : ByteArray)) x46 ByteArray.empty))] (fun fb => by kernel_rfl) rfl ⟨rowR.adr (rowO.rd (hS51.own 3).1) h54.1 h54.2, rowR.cell (rowO.rd (hS51.own 3).1) ByteArray.empty h54.1 h54.2 0 rfl, trivial⟩ ?_
       refine WL.done rfl (WX.next (WC.seq (WC.region ?_)))
       refine seg 1 [] [0, 4, 8, 9, 19, 20, 21, 35, 36, 37, 43] [(0, (.string p0)), (4, (sv A14 l17 c15)), (8, (pt g39)), (9, (iv x46)), (19, (sv A11 (splitP p0 (⟨#[32]⟩ : ByteArray)) c12)), (20, (iv ((splitP p0 (⟨#[32]⟩ : ByteArray)).length : Int))), (21, (iv x18)), (35, (sv A33 (splitP (rdD (splitP p0 (⟨#[32]⟩ : ByteArray)) x18 ByteArray.empty) (⟨#[46]⟩ : ByteArray)) c34)), (36, (iv ((splitP (rdD (splitP p0 (⟨#[32]⟩ : ByteArray)) x18 ByteArray.empty) (⟨#[46]⟩ : ByteArray)).length : Int))), (37, (iv x46)), (43, (.string (rdD (splitP (rdD (splitP p0 (⟨#[32]⟩ : ByteArray)) x18 ByteArray.empty) (⟨#[46]⟩ : ByteArray)) x46 ByteArray.empty)))] [] (fun fb => by kernel_rfl) rfl trivial ?_
       obtain ⟨t58, ht59, hl52⟩ := bind_some hl52
       refine WL.call (some 44) 27 #[(.string (rdD (splitP (rdD (splitP p0 (⟨#[32]⟩ : ByteArray)) x18 ByteArray.empty) (⟨#[46]⟩ : ByteArray)) x46 ByteArray.empty))] (fun fb => by kernel_rfl) (atoi_calls Tryd.strconv_Atoi_ok (rdD (splitP (rdD (splitP p0 (⟨#[32]⟩ : ByteArray)) x18 ByteArray.empty) (⟨#[46]⟩ : ByteArray)) x46 ByteArray.empty) t58 _ ht59) (fun v w56 hR55 => ?_)
       obtain ⟨rfl, hk_⟩ := hR55
       have hS57 := hS51.keepN hk_
       refine ⟨trivial, ?_⟩
       refine seg 7 [] [0, 4, 8, 9, 11, 12, 19, 20, 21, 35, 36, 37] [(0, (.string p0)), (4, (sv A14 l17 c15)), (8, (pt g39)), (9, (iv x46)), (11, (iv t58)), (12, .nilIface), (19, (sv A11 (splitP p0 (⟨#[32]⟩ : ByteArray)) c12)), (20, (iv ((splitP p0 (⟨#[32]⟩ : ByteArray)).length : Int))), (21, (iv x18)), (35, (sv A33 (splitP (rdD (splitP p0 (⟨#[32]⟩ : ByteArray)) x18 ByteArray.empty) (⟨#[46]⟩ : ByteArray)) c34)), (36, (iv ((splitP (rdD (splitP p0 (⟨#[32]⟩ : ByteArray)) x18 ByteArray.empty) (⟨#[46]⟩ : ByteArray)).length : Int))), (37, (iv x46))] [] (fun fb => by kernel_rfl) rfl trivial ?_
       refine WL.done rfl (WX.next (WC.seq (WC.seq (WC.region ?_))))
       refine seg 2 [] [0, 4, 8, 9, 11, 19, 20, 21, 35, 36, 37, 48] [(0, (.string p0)), (4, (sv A14 l17 c15)), (8, (pt g39)), (9, (iv x46)), (11, (iv t58)), (19, (sv A11 (splitP p0 (⟨#[32]⟩ : ByteArray)) c12)), (20, (iv ((splitP p0 (⟨#[32]⟩ : ByteArray)).length : Int))), (21, (iv x18)), (35, (sv A33 (splitP (rdD (splitP p0 (⟨#[32]⟩ : ByteArray)) x18 ByteArray.empty) (⟨#[46]⟩ : ByteArray)) c34)), (36, (iv ((splitP (rdD (splitP p0 (⟨#[32]⟩ : ByteArray)) x18 ByteArray.empty) (⟨#[46]⟩ : ByteArray)).length : Int))), (37, (iv x46)), (48, (bv false))] [] (fun fb => by kernel_rfl) rfl trivial ?_
       refine WL.done rfl (WX.next ?_)
       refine WC.condF (fun fb => by kernel_rfl) ?_
       refine WC.skip (WX.next (WC.region ?_))
       refine seg 2 [] [0, 4, 8, 19, 20, 21, 35, 36, 37, 49, 50] [(0, (.string p0)), (4, (sv A14 l17 c15)), (8, (pt g39)), (19, (sv A11 (splitP p0 (⟨#[32]⟩ : ByteArray)) c12)), (20, (iv ((splitP p0 (⟨#[32]⟩ : ByteArray)).length : Int))), (21, (iv x18)), (35, (sv A33 (splitP (rdD (splitP p0 (⟨#[32]⟩ : ByteArray)) x18 ByteArray.empty) (⟨#[46]⟩ : ByteArray)) c34)), (36, (iv ((splitP (rdD (splitP p0 (⟨#[32]⟩ : ByteArray)) x18 ByteArray.empty) (⟨#[46]⟩ : ByteArray)).length : Int))), (37, (iv x46)), (49, (iv x46)), (50, (iv t58))] [] (fun fb => by kernel_rfl) rfl trivial ?_
       rcases br_some hl52 with ⟨h60, hl52⟩ | ⟨h60, hl52⟩
       ·
        refine WL.setI 49 (eq_of_beq h60) rfl ?_
        refine seg 3 [] [0, 4, 8, 19, 20, 21, 35, 36, 37, 50, 51] [(0, (.string p0)), (4, (sv A14 l17 c15)), (8, (pt g39)), (19, (sv A11 (splitP p0 (⟨#[32]⟩ : ByteArray)) c12)), (20, (iv ((splitP p0 (⟨#[32]⟩ : ByteArray)).length : Int))), (21, (iv x18)), (35, (sv A33 (splitP (rdD (splitP p0 (⟨#[32]⟩ : ByteArray)) x18 ByteArray.empty) (⟨#[46]⟩ : ByteArray)) c34)), (36, (iv ((splitP (rdD (splitP p0 (⟨#[32]⟩ : ByteArray)) x18 ByteArray.empty) (⟨#[46]⟩ : ByteArray)).length : Int))), (37, (iv x46)), (50, (iv t58)), (51, (pt g39))] [] (fun fb => by kernel_rfl) rfl trivial ?_
        refine WL.store hS57 1 rfl [(0, (iv t58))] #[(iv t58), (iv x43), (iv x44), (iv x45)] (fun fb => by kernel_rfl) (by kernel_rfl) rfl [0, 2, 3] (by decide) (by decide) (fun w61 hS62 => ?_)
        refine ⟨trivial, ?_⟩
        refine WL.done rfl ?_
        refine WX.blockN (WX.next ?_)
        refine WC.region ?_
        refine seg 2 [] [0, 4, 8, 19, 20, 21, 35, 36, 37] [(0, (.string p0)), (4, (sv A14 l17 c15)), (8, (pt g39)), (19, (sv A11 (splitP p0 (⟨#[32]⟩ : ByteArray)) c12)), (20, (iv ((splitP p0 (⟨#[32]⟩ : ByteArray)).length : Int))), (21, (iv x18)), (35, (sv A33 (splitP (rdD (splitP p0 (⟨#[32]⟩ : ByteArray)) x18 ByteArray.empty) (⟨#[46]⟩ : ByteArray)) c34)), (36, (iv ((splitP (rdD (splitP p0 (⟨#[32]⟩ : ByteArray)) x18 ByteArray.empty) (⟨#[46]⟩ : ByteArray)).length : Int))), (37, (iv (w64 (x46 + 1))))] [] (fun fb => by kernel_rfl) rfl trivial ?_
        refine WL.done rfl ?_
        exact WX.again k49 (Nat.lt_succ_self _) (t58, x43, x44, x45, w64 (x46 + 1)) [0, 4, 8, 19, 20, 21, 35, 36, 37] rfl ⟨(hS62.subR [0]).sub [1, 0, 2, 3] (by decide), hl52⟩
       rcases br_some hl52 with ⟨h63, hl52⟩ | ⟨h63, hl52⟩
       ·
        refine WL.setI 49 (eq_of_beq h63) rfl ?_
        refine seg 3 [] [0, 4, 8, 19, 20, 21, 35, 36, 37, 50, 51] [(0, (.string p0)), (4, (sv A14 l17 c15)), (8, (pt g39)), (19, (sv A11 (splitP p0 (⟨#[32]⟩ : ByteArray)) c12)), (20, (iv ((splitP p0 (⟨#[32]⟩ : ByteArray)).length : Int))), (21, (iv x18)), (35, (sv A33 (splitP (rdD (splitP p0 (⟨#[32]⟩ : ByteArray)) x18 ByteArray.empty) (⟨#[46]⟩ : ByteArray)) c34)), (36, (iv ((splitP (rdD (splitP p0 (⟨#[32]⟩ : ByteArray)) x18 ByteArray.empty) (⟨#[46]⟩ : ByteArray)).length : Int))), (37, (iv x46)), (50, (iv t58)), (51, (.pointer (some ⟨g39, 1, none⟩)))] [] (fun fb => by kernel_rfl) rfl trivial ?_
        refine WL.store hS57 1 rfl [(1, (iv t58))] #[(iv x42), (iv t58), (iv x44), (iv x45)] (fun fb => by kernel_rfl) (by kernel_rfl) rfl [0, 2, 3] (by decide) (by decide) (fun w65 hS66 => ?_)
        refine ⟨trivial, ?_⟩
        refine WL.done rfl ?_
        refine WX.blockN (WX.next ?_)
        refine WC.region ?_
        refine seg 2 [] [0, 4, 8, 19, 20, 21, 35, 36, 37] [(0, (.string p0)), (4, (sv A14 l17 c15)), (8, (pt g39)), (19, (sv A11 (splitP p0 (⟨#[32]⟩ : ByteArray)) c12)), (20, (iv ((splitP p0 (⟨#[32]⟩ : ByteArray)).length : Int))), (21, (iv x18)), (35, (sv A33 (splitP (rdD (splitP p0 (⟨#[32]⟩ : ByteArray)) x18 ByteArray.empty) (⟨#[46]⟩ : ByteArray)) c34)), (36, (iv ((splitP (rdD (splitP p0 (⟨#[32]⟩ : ByteArray)) x18 ByteArray.empty) (⟨#[46]⟩ : ByteArray)).length : Int))), (37, (iv (w64 (x46 + 1))))] [] (fun fb => by kernel_rfl) rfl trivial ?_
        refine WL.done rfl ?_
        exact WX.again k49 (Nat.lt_succ_self _) (x42, t58, x44, x45, w64 (x46 + 1)) [0, 4, 8, 19, 20, 21, 35, 36, 37] rfl ⟨(hS66.subR [0]).sub [1, 0, 2, 3] (by decide), hl52⟩
       rcases br_some hl52 with ⟨h67, hl52⟩ | ⟨h67, hl52⟩
       ·
        refine WL.setI 49 (eq_of_beq h67) rfl ?_
        refine seg 3 [] [0, 4, 8, 19, 20, 21, 35, 36, 37, 50, 51] [(0, (.string p0)), (4, (sv A14 l17 c15)), (8, (pt g39)), (19, (sv A11 (splitP p0 (⟨#[32]⟩ : ByteArray)) c12)), (20, (iv ((splitP p0 (⟨#[32]⟩ : ByteArray)).length : Int))), (21, (iv x18)), (35, (sv A33 (splitP (rdD (splitP p0 (⟨#[32]⟩ : ByteArray)) x18 ByteArray.empty) (⟨#[46]⟩ : ByteArray)) c34)), (36, (iv ((splitP (rdD (splitP p0 (⟨#[32]⟩ : ByteArray)) x18 ByteArray.empty) (⟨#[46]⟩ : ByteArray)).length : Int))), (37, (iv x46)), (50, (iv t58)), (51, (.pointer (some ⟨g39, 2, none⟩)))] [] (fun fb => by kernel_rfl) rfl trivial ?_
        refine WL.store hS57 1 rfl [(2, (iv t58))] #[(iv x42), (iv x43), (iv t58), (iv x45)] (fun fb => by kernel_rfl) (by kernel_rfl) rfl [0, 2, 3] (by decide) (by decide) (fun w68 hS69 => ?_)
        refine ⟨trivial, ?_⟩
        refine WL.done rfl ?_
        refine WX.blockN (WX.next ?_)
        refine WC.region ?_
        refine seg 2 [] [0, 4, 8, 19, 20, 21, 35, 36, 37] [(0, (.string p0)), (4, (sv A14 l17 c15)), (8, (pt g39)), (19, (sv A11 (splitP p0 (⟨#[32]⟩ : ByteArray)) c12)), (20, (iv ((splitP p0 (⟨#[32]⟩ : ByteArray)).length : Int))), (21, (iv x18)), (35, (sv A33 (splitP (rdD (splitP p0 (⟨#[32]⟩ : ByteArray)) x18 ByteArray.empty) (⟨#[46]⟩ : ByteArray)) c34)), (36, (iv ((splitP (rdD (splitP p0 (⟨#[32]⟩ : ByteArray)) x18 ByteArray.empty) (⟨#[46]⟩ : ByteArray)).length : Int))), (37, (iv (w64 (x46 + 1))))] [] (fun fb => by kernel_rfl) rfl trivial ?_
        refine WL.done rfl ?_
        exact WX.again k49 (Nat.lt_succ_self _) (x42, x43, t58, x45, w64 (x46 + 1)) [0, 4, 8, 19, 20, 21, 35, 36, 37] rfl ⟨(hS69.subR [0]).sub [1, 0, 2, 3] (by decide), hl52⟩
       rcases br_some hl52 with ⟨h70, hl52⟩ | ⟨h70, hl52⟩
       ·
        refine WL.setI 49 (eq_of_beq h70) rfl ?_
        refine seg 3 [] [0, 4, 8, 19, 20, 21, 35, 36, 37, 50, 51] [(0, (.string p0)), (4, (sv A14 l17 c15)), (8, (pt g39)), (19, (sv A11 (splitP p0 (⟨#[32]⟩ : ByteArray)) c12)), (20, (iv ((splitP p0 (⟨#[32]⟩ : ByteArray)).length : Int))), (21, (iv x18)), (35, (sv A33 (splitP (rdD (splitP p0 (⟨#[32]⟩ : ByteArray)) x18 ByteArray.empty) (⟨#[46]⟩ : ByteArray)) c34)), (36, (iv ((splitP (rdD (splitP p0 (⟨#[32]⟩ : ByteArray)) x18 ByteArray.empty) (⟨#[46]⟩ : ByteArray)).length : Int))), (37, (iv x46)), (50, (iv t58)), (51, (.pointer (some ⟨g39, 3, none⟩)))] [] (fun fb => by kernel_rfl) rfl trivial ?_
        refine WL.store hS57 1 rfl [(3, (iv t58))] #[(iv x42), (iv x43), (iv x44), (iv t58)] (fun fb => by kernel_rfl) (by kernel_rfl) rfl [0, 2, 3] (by decide) (by decide) (fun w71 hS72 => ?_)
        refine ⟨trivial, ?_⟩
        refine WL.done rfl ?_
        refine WX.blockN (WX.next ?_)
        refine WC.region ?_
        refine seg 2 [] [0, 4, 8, 19, 20, 21, 35, 36, 37] [(0, (.string p0)), (4, (sv A14 l17 c15)), (8, (pt g39)), (19, (sv A11 (splitP p0 (⟨#[32]⟩ : ByteArray)) c12)), (20, (iv ((splitP p0 (⟨#[32]⟩ : ByteArray)).length : Int))), (21, (iv x18)), (35, (sv A33 (splitP (rdD (splitP p0 (⟨#[32]⟩ : ByteArray)) x18 ByteArray.empty) (⟨#[46]⟩ : ByteArray)) c34)), (36, (iv ((splitP (rdD (splitP p0 (⟨#[32]⟩ : ByteArray)) x18 ByteArray.empty) (⟨#[46]⟩ : ByteArray)).length : Int))), (37, (iv (w64 (x46 + 1))))] [] (fun fb => by kernel_rfl) rfl trivial ?_
        refine WL.done rfl ?_
        exact WX.again k49 (Nat.lt_succ_self _) (x42, x43, x44, t58, w64 (x46 + 1)) [0, 4, 8, 19, 20, 21, 35, 36, 37] rfl ⟨(hS72.subR [0]).sub [1, 0, 2, 3] (by decide), hl52⟩
       cases hl52
      refine WC.condF2 (fun fb => by kernel_rfl) h53 ?_
      refine WC.exit ?_
      injection hl52 with hl52
      exact WX.thenX (WX.thenX (WX.blockHere (WX.to Kx47 (x42, x43, x44, x45) [0, 4, 8, 19, 20, 21] rfl ⟨(hS51.subR [0]).sub [0, 1, 2] (by decide), hl52.symm⟩)))
    rintro y76 w73 ⟨hS74, hq75⟩
    subst hq75
    refine WX.next (WC.region ?_)
    refine seg 10 [.v (iv x47.1), .v (iv x47.2.1), .v (iv x47.2.2.1), .v (iv x47.2.2.2)] [0, 19, 20, 21, 53, 62] [(0, (.string p0)), (19, (sv A11 (splitP p0 (⟨#[32]⟩ : ByteArray)) c12)), (20, (iv ((splitP p0 (⟨#[32]⟩ : ByteArray)).length : Int))), (21, (iv x18)), (53, (sv A14 l17 c15)), (62, (.agg #[(iv x47.1), (iv x47.2.1), (iv x47.2.2.1), (iv x47.2.2.2)]))] [.cell ⟨g39, 0, none⟩ (iv x47.1), .cell ⟨g39, 1, none⟩ (iv x47.2.1), .cell ⟨g39, 2, none⟩ (iv x47.2.2.1), .cell ⟨g39, 3, none⟩ (iv x47.2.2.2)] (fun fb => by kernel_rfl) rfl ⟨hS74.cell 1 rfl 0 rfl, hS74.cell 1 rfl 1 rfl, hS74.cell 1 rfl 2 rfl, hS74.cell 1 rfl 3 rfl, trivial⟩ ?_
    refine WL.new hS74 63 [] (fun g => (.slice (some ⟨g, 0, none⟩) 1 1)) (.cells #[(iv x47.1), (iv x47.2.1), (iv x47.2.2.1), (iv x47.2.2.2)] 37 (0, 0)) [] (fun fb g => by kernel_rfl) trivial (fun g77 w78 hS79 => ?_)
    refine ⟨trivial, ?_⟩
    have hS80 := hS31.go w78 [rowO 37 enc_Tile (some ⟨g77, 0, none⟩) 1 [(Tile.mk x47.1 x47.2.1 x47.2.2.1 x47.2.2.2)], rowO 37 enc_Tile A14 c15 l17, blk g39 (.cells #[(iv x47.1), (iv x47.2.1), (iv x47.2.2.1), (iv x47.2.2.2)] 52 (0, 0)), rowO 9 encStr A11 c12 (splitP p0 (⟨#[32]⟩ : ByteArray))] (hS79.map1 0 _ (fun h => rowO.ofBlk h rfl (Nat.le_of_ble_eq_true (by kernel_rfl))) (fun _ h => by obtain ⟨_, h1, h2⟩ := h; injection h1 with h1; subst h1; exact h2) [1, 2, 3] (by decide) (by decide))
    obtain ⟨h81, hl26⟩ := as_some hl26
    refine WL.append hS80 1 (d := 64) (tS := 22) (z := (.agg #[(iv 0), (iv 0), (iv 0), (iv 0)])) (bytes := 32) (c2 := 1) rfl (fun fb => by kernel_rfl) (rowO.rd (hS80.own 0).1) (by kernel_rfl) (by kernel_rfl) rfl (by decide) h81 (by decide) [0, 2, 3] (by decide) (by decide) (fun A82 c83 w84 hS85 => ?_)
    refine ⟨trivial, ?_⟩
    refine seg 13 [] [0, 4, 19, 20, 21] [(0, (.string p0)), (4, (sv A82 (l17 ++ [(Tile.mk x47.1 x47.2.1 x47.2.2.1 x47.2.2.2)]) c83)), (19, (sv A11 (splitP p0 (⟨#[32]⟩ : ByteArray)) c12)), (20, (iv ((splitP p0 (⟨#[32]⟩ : ByteArray)).length : Int))), (21, (iv x18))] [] (fun fb => by kernel_rfl) rfl trivial ?_
    refine WL.done rfl ?_
    refine WX.blockN (WX.next ?_)
    refine WC.region ?_
    refine seg 2 [] [0, 4, 19, 20, 21] [(0, (.string p0)), (4, (sv A82 (l17 ++ [(Tile.mk x47.1 x47.2.1 x47.2.2.1 x47.2.2.2)]) c83)), (19, (sv A11 (splitP p0 (⟨#[32]⟩ : ByteArray)) c12)), (20, (iv ((splitP p0 (⟨#[32]⟩ : ByteArray)).length : Int))), (21, (iv (w64 (x18 + 1))))] [] (fun fb => by kernel_rfl) rfl trivial ?_
    refine WL.done rfl ?_
    exact WX.again k23 (Nat.lt_succ_self _) ((l17 ++ [(Tile.mk x47.1 x47.2.1 x47.2.2.1 x47.2.2.2)], w64 (x18 + 1)), A82, c83) [0, 4, 19, 20, 21] rfl ⟨(hS85.subR [0]).sub [0, 3] (by decide), hl26⟩
   refine WC.condF2 (fun fb => by kernel_rfl) h27 ?_
   refine WC.exit ?_
   injection hl26 with hl26
   exact WX.thenX (WX.thenX (WX.blockHere (WX.to Kx21 (l17, A14, c15) [0, 4] rfl ⟨(hS25.subR [0]).sub [0] (by decide), hl26.symm⟩)))
 rintro ⟨y89, A19, c20⟩ w86 ⟨hS87, hq88⟩
 subst hq88
 have hf := sum_inr hf
 refine WX.next (WC.seq (WC.seq (WC.region ?_)))
 refine seg 1 [] [0, 4, 66] [(0, (.string p0)), (4, (sv A19 y89 c20)), (66, (sv A19 y89 c20))] [] (fun fb => by kernel_rfl) rfl trivial ?_
 obtain ⟨t90, ht91, hf⟩ := bind_some hf
 refine WL.call (some 67) 22 #[(sv A19 y89 c20)] (fun fb => by kernel_rfl) (tile_Valid_calls _ y89 A19 c20 t90 _ (hS87.ow 0).ofO ht91) (fun v w92 hR93 => ?_)
 obtain ⟨rfl, hk_⟩ := hR93
 have hS94 := hS87.keepN hk_
 refine ⟨trivial, ?_⟩
 refine seg 4 [] [0, 4, 69] [(0, (.string p0)), (4, (sv A19 y89 c20)), (69, (bv (!t90)))] [] (fun fb => by kernel_rfl) rfl trivial ?_
 obtain ⟨x95, hx96, hf⟩ := bind_some hf
 refine WL.cutW (T := Bool) 9 (fun t => [(4, (sv A19 y89 c20)), (74, (bv t))]) (fun t w1 => (St NoS w w1 [cel ⟨2, 0, none⟩ (iv mG)] [rowO 37 enc_Tile A19 c20 y89] ∧ x95 = t) ∧ CellsOK [] w1) (fun K => ?_) ?_
 ·
  rcases br_some hx96 with ⟨h97, hx96⟩ | ⟨h97, hx96⟩
  ·
   refine WL.setB 69 h97 rfl ?_
   refine seg 9 [] [4, 74] [(4, (sv A19 y89 c20)), (74, (bv true))] [] (fun fb => by kernel_rfl) rfl trivial ?_
   injection hx96 with hx96
   exact WL.to K true [4, 74] rfl ⟨⟨(hS94.subR [0]).sub [0] (by decide), hx96.symm⟩, trivial⟩
  refine WL.setB 69 h97 rfl ?_
  refine seg 5 [] [0, 4, 69, 70] [(0, (.string p0)), (4, (sv A19 y89 c20)), (69, (bv false)), (70, (sv A19 y89 c20))] [] (fun fb => by kernel_rfl) rfl trivial ?_
  obtain ⟨t98, ht99, hx96⟩ := bind_some hx96
  refine WL.call (some 71) 28 #[(sv A19 y89 c20)] (fun fb => by kernel_rfl) (tile_write_calls _ y89 A19 c20 t98 _ (hS94.ow 0).ofO ht99) (fun v w100 hR101 => ?_)
  obtain ⟨rfl, hk_⟩ := hR101
  have hS102 := hS94.keepN hk_
  refine ⟨trivial, ?_⟩
  refine seg 7 [] [4, 69, 71, 72] [(4, (sv A19 y89 c20)), (69, (bv false)), (71, (.string t98)), (72, (.string p0))] [] (fun fb => by kernel_rfl) rfl trivial ?_
  refine seg 8 [] [4, 69, 73] [(4, (sv A19 y89 c20)), (69, (bv false)), (73, (bv (!(t98.toList == p0.toList))))] [] (fun fb => by kernel_rfl) rfl trivial ?_
  refine WL.setB 73 (congrArg not (strEq_raw t98 p0)) rfl ?_
  refine seg 9 [] [4, 74] [(4, (sv A19 y89 c20)), (74, (bv (!(strEq t98 p0))))] [] (fun fb => by kernel_rfl) rfl trivial ?_
  injection hx96 with hx96
  exact WL.to K (!(strEq t98 p0)) [4, 74] rfl ⟨⟨(hS102.subR [0]).sub [0] (by decide), hx96.symm⟩, trivial⟩
 rintro y103 w105 ⟨⟨hS106, hq104⟩, hF107⟩
 subst hq104
 refine WL.done rfl (WX.next ?_)
 rcases br_some hf with ⟨h108, hf⟩ | ⟨h108, hf⟩
 ·refine WC.condT2 (fun fb => by kernel_rfl) h108 ?_
  refine WC.seq (WC.region ?_)
  refine seg 2 [] [2, 3] [(2, (.slice none 0 0)), (3, (iv 3))] [] (fun fb => by kernel_rfl) rfl trivial ?_
  refine WL.done rfl (WX.next ?_)
  refine WC.ret ?_
  have hS109 := hS106.nilrow 37 enc_Tile
  injection hf with hf
  subst hf
  exact WX.thenR (WX.ret_ [] (.tuple #[(sv none ([] : List Tile) 0), (iv 3)]) [] (fun fb => by kernel_rfl) trivial ⟨_, rfl, none, 0, rfl, (hS109.sub [0] (by decide)).noR⟩)
 refine WC.condF2 (fun fb => by kernel_rfl) h108 ?_
 refine WC.skip (WX.next (WC.seq (WC.region ?_)))
 refine seg 3 [] [2, 3] [(2, (sv A19 y89 c20)), (3, (iv 0))] [] (fun fb => by kernel_rfl) rfl trivial ?_
 refine WL.done rfl (WX.next ?_)
 refine WC.ret ?_
 injection hf with hf
 subst hf
 exact WX.ret_ [] (.tuple #[(sv A19 y89 c20), (iv 0)]) [] (fun fb => by kernel_rfl) trivial ⟨_, rfl, A19, c20, rfl, (hS106.sub [0] (by decide)).noR⟩
theorem rows_Few_calls (k : Nat) (p0 : List Tile) (p1 : Int) (Aa : Option Addr) (ca : Nat) (r : Bool) (w : World) (hR0 : RO NoS w (rowR enc_Tile Aa ca p0)) (hf : rows_Few k p0 p1 = some r) :
  CallsR Tryd.prog 23 #[(sv Aa p0 ca), (iv p1)] w (fun v w' => v = (bv r) ∧ Keeps NoS w w') := by
 have hS : St NoS w w [rowR enc_Tile Aa ca p0] [] := St.init (ro_cons hR0 (ro_nil _ _))
 refine enter 17 Tryd.func23 rfl Tryd.ntmps23 rfl ?_
 unfold rows_Few at hf
 refine WC.seq (WC.region ?_)
 refine seg 1 [] [0, 1] [(0, (sv Aa p0 ca)), (1, (iv p1))] [] (fun fb => by kernel_rfl) rfl trivial ?_
 refine WL.done rfl (WX.next (WC.seq (WC.region ?_)))
 refine seg 1 [] [0, 1, 5] [(0, (sv Aa p0 ca)), (1, (iv p1)), (5, (iv 1))] [] (fun fb => by kernel_rfl) rfl trivial ?_
 refine WL.done rfl (WX.next (WC.seq (WC.seq (WC.region ?_))))
 refine seg 2 [] [0, 5, 6, 7] [(0, (sv Aa p0 ca)), (5, (iv 1)), (6, (iv p1)), (7, (iv 0))] [] (fun fb => by kernel_rfl) rfl trivial ?_
 refine WL.done rfl (WX.next ?_)
 obtain ⟨x5, hx6, hf⟩ := bind_some hf
 refine WC.cutN (T := Unit) (fun t => []) (fun t w1 => St NoS w w1 [rowR enc_Tile Aa ca p0] [] ∧ x5 = .inr t) (fun Kx5 => ?_) ?_
 ·
  refine WC.block ?_
  refine WC.loop (T := Int × Int) (fun t => [(0, (sv Aa p0 ca)), (5, (iv t.1)), (6, (iv p1)), (7, (iv t.2))]) (fun n t w1 => St NoS w w1 [rowR enc_Tile Aa ca p0] [] ∧ rows_Few.l0 n t.1 t.2 p0 p1 = some x5) k (1, 0) [0, 5, 6, 7] rfl ⟨(hS.subR [0]).sub [] (by decide), hx6⟩ ?_
  rintro k7 ⟨x3, x4⟩ w8 ⟨hS9, hl10⟩
  cases k7 with
  | zero => rw [rows_Few.l0] at hl10; cases hl10
  | succ k7 =>
   rw [rows_Few.l0] at hl10
   refine WC.seq (WC.region ?_)
   refine seg 1 [] [0, 5, 6, 7, 8] [(0, (sv Aa p0 ca)), (5, (iv x3)), (6, (iv p1)), (7, (iv x4)), (8, (bv (decide (x4 < p1))))] [] (fun fb => by kernel_rfl) rfl trivial ?_
   refine WL.done rfl (WX.next (WC.seq ?_))
   rcases br_some hl10 with ⟨h11, hl10⟩ | ⟨h11, hl10⟩
   ·refine WC.condT2 (fun fb => by kernel_rfl) h11 ?_
    refine WC.skip (WX.next (WC.seq (WC.block (WC.seq (WC.region ?_)))))
    refine seg 6 [] [0, 5, 6, 7] [(0, (sv Aa p0 ca)), (5, (iv (w64 (x3 * (maxI (p0.length : Int) 1))))), (6, (iv p1)), (7, (iv x4))] [] (fun fb => by kernel_rfl) rfl trivial ?_
    refine WL.done rfl (WX.next (WC.seq (WC.region ?_)))
    refine seg 2 [] [0, 5, 6, 7, 15] [(0, (sv Aa p0 ca)), (5, (iv (w64 (x3 * (maxI (p0.length : Int) 1))))), (6, (iv p1)), (7, (iv x4)), (15, (bv (decide (w64 (x3 * (maxI (p0.length : Int) 1)) > 5000))))] [] (fun fb => by kernel_rfl) rfl trivial ?_
    refine WL.done rfl (WX.next ?_)
    rcases br_some hl10 with ⟨h12, hl10⟩ | ⟨h12, hl10⟩
    ·refine WC.condT2 (fun fb => by kernel_rfl) h12 ?_
     refine WC.seq (WC.region ?_)
     refine seg 1 [] [4] [(4, (bv false))] [] (fun fb => by kernel_rfl) rfl trivial ?_
     refine WL.done rfl (WX.next ?_)
     refine WC.ret ?_
     injection hl10 with hl10
     subst hl10
     injection hf with hf
     subst hf
     exact WX.blockR (WX.thenR (WX.thenR (WX.blockR (WX.thenR (WX.ret_ [] (bv false) [] (fun fb => by kernel_rfl) trivial ⟨_, rfl, rfl, hS9.keep⟩)))))
    refine WC.condF2 (fun fb => by kernel_rfl) h12 ?_
    refine WC.skip ?_
    refine WX.blockN (WX.next ?_)
    refine WC.region ?_
    refine seg 2 [] [0, 5, 6, 7] [(0, (sv Aa p0 ca)), (5, (iv (w64 (x3 * (maxI (p0.length : Int) 1))))), (6, (iv p1)), (7, (iv (w64 (x4 + 1))))] [] (fun fb => by kernel_rfl) rfl trivial ?_
    refine WL.done rfl ?_
    exact WX.again k7 (Nat.lt_succ_self _) (w64 (x3 * (maxI (p0.length : Int) 1)), w64 (x4 + 1)) [0, 5, 6, 7] rfl ⟨(hS9.subR [0]).sub [] (by decide), hl10⟩
   refine WC.condF2 (fun fb => by kernel_rfl) h11 ?_
   refine WC.exit ?_
   injection hl10 with hl10
   exact WX.thenX (WX.thenX (WX.blockHere (WX.to Kx5 () [] rfl ⟨(hS9.subR [0]).sub [] (by decide), hl10.symm⟩)))
 rintro y16 w13 ⟨hS14, hq15⟩
 subst hq15
 have hf := sum_inr hf
 refine WX.next (WC.seq (WC.region ?_))
 refine seg 1 [] [4] [(4, (bv true))] [] (fun fb => by kernel_rfl) rfl trivial ?_
 refine WL.done rfl (WX.next ?_)
 refine WC.ret ?_
 injection hf with hf
 subst hf
 exact WX.ret_ [] (bv true) [] (fun fb => by kernel_rfl) trivial ⟨_, rfl, rfl, hS14.keep⟩
theorem square_check_calls (k : Nat) (p0 : List Tile) (p1 : Int) (Aa : Option Addr) (ca : Nat) (r : Int) (w : World) (hR0 : RO NoS w (rowR enc_Tile Aa ca p0)) (hf : square_check k p0 p1 = some r) :
  CallsR Tryd.prog 18 #[(sv Aa p0 ca), (iv p1)] w (fun v w' => v = (iv r) ∧ Keeps NoS w w') := by
 have hS : St NoS w w [rowR enc_Tile Aa ca p0] [] := St.init (ro_cons hR0 (ro_nil _ _))
 refine enter 21 Tryd.func18 rfl Tryd.ntmps18 rfl ?_
 unfold square_check at hf
 refine WC.seq (WC.region ?_)
 refine seg 1 [] [0, 1] [(0, (sv Aa p0 ca)), (1, (iv p1))] [] (fun fb => by kernel_rfl) rfl trivial ?_
 refine WL.done rfl (WX.next (WC.seq (WC.block (WC.seq (WC.region ?_)))))
 refine seg 1 [] [0, 1, 6] [(0, (sv Aa p0 ca)), (1, (iv p1)), (6, (sv Aa p0 ca))] [] (fun fb => by kernel_rfl) rfl trivial ?_
 obtain ⟨t3, ht4, hf⟩ := bind_some hf
 refine WL.call (some 7) 22 #[(sv Aa p0 ca)] (fun fb => by kernel_rfl) (tile_Valid_calls _ p0 Aa ca t3 _ (hS.rd 0) ht4) (fun v w5 hR6 => ?_)
 obtain ⟨rfl, hk_⟩ := hR6
 have hS7 := hS.keepN hk_
 refine ⟨trivial, ?_⟩
 refine seg 4 [] [0, 1, 5] [(0, (sv Aa p0 ca)), (1, (iv p1)), (5, (bv (!t3)))] [] (fun fb => by kernel_rfl) rfl trivial ?_
 refine WL.done rfl (WX.next ?_)
 rcases br_some hf with ⟨h8, hf⟩ | ⟨h8, hf⟩
 ·refine WC.condT2 (fun fb => by kernel_rfl) h8 ?_
  refine WC.seq (WC.region ?_)
  refine seg 1 [] [4] [(4, (iv 1))] [] (fun fb => by kernel_rfl) rfl trivial ?_
  refine WL.done rfl (WX.next ?_)
  refine WC.ret ?_
  injection hf with hf
  subst hf
  exact WX.blockR (WX.thenR (WX.ret_ [] (iv 1) [] (fun fb => by kernel_rfl) trivial ⟨_, rfl, rfl, hS7.keep⟩))
 refine WC.condF2 (fun fb => by kernel_rfl) h8 ?_
 refine WC.seq (WC.region ?_)
 refine seg 3 [] [0, 1, 12] [(0, (sv Aa p0 ca)), (1, (iv p1)), (12, (bv (decide (p1 < 1))))] [] (fun fb => by kernel_rfl) rfl trivial ?_
 refine WL.cutV (T := Bool) 6 (fun t => [(15, (bv t)), (0, (sv Aa p0 ca)), (1, (iv p1))]) (fun t => ((decide (p1 < 1)) || (decide (p1 > 8))) = t) (fun K => ?_) ?_
 ·
  rcases Bool.eq_false_or_eq_true (decide (p1 < 1)) with h9 | h9
  ·
   refine WL.setB 12 h9 rfl ?_
   refine seg 6 [] [0, 1, 15] [(0, (sv Aa p0 ca)), (1, (iv p1)), (15, (bv true))] [] (fun fb => by kernel_rfl) rfl trivial ?_
   exact WL.toV K true [15, 0, 1] rfl (by first | (rw [h9]; done) | (rw [h9]; rfl))
  refine WL.setB 12 h9 rfl ?_
  refine seg 6 [] [0, 1, 15] [(0, (sv Aa p0 ca)), (1, (iv p1)), (15, (bv (decide (p1 > 8))))] [] (fun fb => by kernel_rfl) rfl trivial ?_
  exact WL.toV K (decide (p1 > 8)) [15, 0, 1] rfl (by first | (rw [h9]; done) | (rw [h9]; rfl))
 rintro b10 rfl
 refine seg 7 [] [0, 1, 9] [(0, (sv Aa p0 ca)), (1, (iv p1)), (9, (bv ((decide (p1 < 1)) || (decide (p1 > 8)))))] [] (fun fb => by kernel_rfl) rfl trivial ?_
 refine WL.done rfl (WX.next ?_)
 rcases br_some hf with ⟨h11, hf⟩ | ⟨h11, hf⟩
 ·refine WC.condT2 (fun fb => by kernel_rfl) h11 ?_
  refine WC.seq (WC.region ?_)
  refine seg 1 [] [4] [(4, (iv 2))] [] (fun fb => by kernel_rfl) rfl trivial ?_
  refine WL.done rfl (WX.next ?_)
  refine WC.ret ?_
  injection hf with hf
  subst hf
  exact WX.blockR (WX.thenR (WX.ret_ [] (iv 2) [] (fun fb => by kernel_rfl) trivial ⟨_, rfl, rfl, hS7.keep⟩))
 refine WC.condF2 (fun fb => by kernel_rfl) h11 ?_
 refine WC.seq (WC.region ?_)
 refine seg 2 [] [17, 18] [(17, (sv Aa p0 ca)), (18, (iv p1))] [] (fun fb => by kernel_rfl) rfl trivial ?_
 obtain ⟨t12, ht13, hf⟩ := bind_some hf
 refine WL.call (some 19) 23 #[(sv Aa p0 ca), (iv p1)] (fun fb => by kernel_rfl) (rows_Few_calls _ p0 p1 Aa ca t12 _ (hS7.rd 0) ht13) (fun v w14 hR15 => ?_)
 obtain ⟨rfl, hk_⟩ := hR15
 have hS16 := hS7.keepN hk_
 refine ⟨trivial, ?_⟩
 refine seg 5 [] [16] [(16, (bv (!t12)))] [] (fun fb => by kernel_rfl) rfl trivial ?_
 refine WL.done rfl (WX.next ?_)
 rcases br_some hf with ⟨h17, hf⟩ | ⟨h17, hf⟩
 ·refine WC.condT2 (fun fb => by kernel_rfl) h17 ?_
  refine WC.seq (WC.region ?_)
  refine seg 1 [] [4] [(4, (iv 4))] [] (fun fb => by kernel_rfl) rfl trivial ?_
  refine WL.done rfl (WX.next ?_)
  refine WC.ret ?_
  injection hf with hf
  subst hf
  exact WX.blockR (WX.thenR (WX.ret_ [] (iv 4) [] (fun fb => by kernel_rfl) trivial ⟨_, rfl, rfl, hS16.keep⟩))
 refine WC.condF2 (fun fb => by kernel_rfl) h17 ?_
 refine WC.skip ?_
 refine WX.blockN (WX.next ?_)
 refine WC.seq (WC.region ?_)
 refine seg 1 [] [4] [(4, (iv 0))] [] (fun fb => by kernel_rfl) rfl trivial ?_
 refine WL.done rfl (WX.next ?_)
 refine WC.ret ?_
 injection hf with hf
 subst hf
 exact WX.ret_ [] (iv 0) [] (fun fb => by kernel_rfl) trivial ⟨_, rfl, rfl, hS16.keep⟩
theorem square_filled_calls (p0 : List Tile) (p1 : Int) (Aa : Option Addr) (ca : Nat) (r : Unit) (w : World) (hR0 : RO NoS w (rowR enc_Tile Aa ca p0)) (hf : square_filled p0 p1 = some r) :
  CallsR Tryd.prog 29 #[(sv Aa p0 ca), (iv p1)] w (fun v w' => ∃ (g1_ : Nat), ∃ (g2_ : Nat), v = (.func (.func 43) #[] #[(pt g1_), (pt g2_)]) ∧ St NoS w w' [] [blk g1_ (.cells #[(iv p1)] 3 (0, 0)), blk g2_ (.cells #[(sv Aa p0 ca)] 22 (0, 0))]) := by
 have hS : St NoS w w [rowR enc_Tile Aa ca p0] [] := St.init (ro_cons hR0 (ro_nil _ _))
 refine enter 6 Tryd.func29 rfl Tryd.ntmps29 rfl ?_
 unfold square_filled at hf
 refine WC.seq (WC.region ?_)
 refine WL.new hS 2 [] (fun g => (pt g)) (.cells #[(sv Aa p0 ca)] 22 (0, 0)) [] (fun fb g => by kernel_rfl) trivial (fun g3 w4 hS5 => ?_)
 refine ⟨trivial, ?_⟩
 refine WL.new hS5 3 [] (fun g => (pt g)) (.cells #[(iv p1)] 3 (0, 0)) [] (fun fb g => by kernel_rfl) trivial (fun g6 w7 hS8 => ?_)
 refine ⟨trivial, ?_⟩
 refine seg 3 [] [2, 3] [(2, (pt g3)), (3, (pt g6))] [] (fun fb => by kernel_rfl) rfl trivial ?_
 refine WL.done rfl (WX.next (WC.seq (WC.region ?_)))
 refine seg 2 [] [4] [(4, (.func (.func 43) #[] #[(pt g6), (pt g3)]))] [] (fun fb => by kernel_rfl) rfl trivial ?_
 refine WL.done rfl (WX.next ?_)
 refine WC.ret ?_
 injection hf with hf
 subst hf
 exact WX.ret_ [] (.func (.func 43) #[] #[(pt g6), (pt g3)]) [] (fun fb => by kernel_rfl) trivial ⟨_, rfl, g6, g3, rfl, (hS8.sub [0, 1] (by decide)).noR⟩
theorem rows_rowOf_calls (k : Nat) (p0 : List Tile) (p1 : List Int) (Aa : Option Addr) (ca : Nat) (Ab : Option Addr) (cb : Nat) (r : Row) (w : World) (hR0 : RO NoS w (rowR enc_Tile Aa ca p0)) (hR1 : RO NoS w (rowR encInt Ab cb p1)) (hf : rows_rowOf k p0 p1 = some r) :
  CallsR Tryd.prog 64 #[(sv Aa p0 ca), (sv Ab p1 cb)] w (fun v w' => ∃ (A1_ : Option Addr), ∃ (c1_ : Nat), v = (.agg #[(sv A1_ r.Cells c1_), (iv r.South.e0), (iv r.South.e1), (iv r.South.e2), (iv r.South.e3), (iv r.South.e4), (iv r.South.e5), (iv r.South.e6), (iv r.South.e7), (iv r.North.e0), (iv r.North.e1), (iv r.North.e2), (iv r.North.e3), (iv r.North.e4), (iv r.North.e5), (iv r.North.e6), (iv r.North.e7), (iv r.West), (iv r.East)]) ∧ St NoS w w' [] [rowO 3 encInt A1_ c1_ r.Cells]) := by
 have hS : St NoS w w [rowR enc_Tile Aa ca p0, rowR encInt Ab cb p1] [] := St.init (ro_cons hR0 (ro_cons hR1 (ro_nil _ _)))
 refine enter 55 Tryd.func64 rfl Tryd.ntmps64 rfl ?_
 unfold rows_rowOf at hf
 refine WC.seq (WC.region ?_)
 refine WL.new hS 4 [] (fun g => (pt g)) (.cells #[(.slice none 0 0), (iv 0), (iv 0), (iv 0), (iv 0), (iv 0), (iv 0), (iv 0), (iv 0), (iv 0), (iv 0), (iv 0), (iv 0), (iv 0), (iv 0), (iv 0), (iv 0), (iv 0), (iv 0)] 74 (0, 0)) [] (fun fb g => by kernel_rfl) trivial (fun g9 w10 hS11 => ?_)
 refine ⟨trivial, ?_⟩
 refine WL.done rfl (WX.next (WC.seq (WC.region ?_)))
 refine seg 1 [] [0, 1, 4, 8] [(0, (sv Aa p0 ca)), (1, (sv Ab p1 cb)), (4, (pt g9)), (8, (sv Ab p1 cb))] [] (fun fb => by kernel_rfl) rfl trivial ?_
 have hS12 := hS11.nilrow 3 encInt
 obtain ⟨h13, hf⟩ := as_some hf
 refine WL.append hS12 0 (d := 9) (tS := 23) (z := (iv 0)) (bytes := 8) (c2 := cb) rfl (fun fb => by kernel_rfl) (hS12.rd 1).1 (by kernel_rfl) (by kernel_rfl) rfl (by decide) h13 (by decide) [1] (by decide) (by decide) (fun A14 c15 w16 hS17 => ?_)
 refine ⟨trivial, ?_⟩
 refine seg 3 [] [0, 1, 4, 10] [(0, (sv Aa p0 ca)), (1, (sv Ab p1 cb)), (4, (pt g9)), (10, (.agg #[(sv A14 (([] : List Int) ++ p1) c15), (iv 0), (iv 0), (iv 0), (iv 0), (iv 0), (iv 0), (iv 0), (iv 0), (iv 0), (iv 0), (iv 0), (iv 0), (iv 0), (iv 0), (iv 0), (iv 0), (iv 0), (iv 0)]))] [] (fun fb => by kernel_rfl) rfl trivial ?_
 refine WL.new hS17 5 [] (fun g => (pt g)) (.cells #[(.slice none 0 0), (iv 0), (iv 0), (iv 0), (iv 0), (iv 0), (iv 0), (iv 0), (iv 0), (iv 0), (iv 0), (iv 0), (iv 0), (iv 0), (iv 0), (iv 0), (iv 0), (iv 0), (iv 0)] 74 (0, 0)) [] (fun fb g => by kernel_rfl) trivial (fun g18 w19 hS20 => ?_)
 refine ⟨trivial, ?_⟩
 refine WL.store hS20 0 rfl [(0, (sv A14 (([] : List Int) ++ p1) c15)), (1, (iv 0)), (2, (iv 0)), (3, (iv 0)), (4, (iv 0)), (5, (iv 0)), (6, (iv 0)), (7, (iv 0)), (8, (iv 0)), (9, (iv 0)), (10, (iv 0)), (11, (iv 0)), (12, (iv 0)), (13, (iv 0)), (14, (iv 0)), (15, (iv 0)), (16, (iv 0)), (17, (iv 0)), (18, (iv 0))] #[(sv A14 (([] : List Int) ++ p1) c15), (iv 0), (iv 0), (iv 0), (iv 0), (iv 0), (iv 0), (iv 0), (iv 0), (iv 0), (iv 0), (iv 0), (iv 0), (iv 0), (iv 0), (iv 0), (iv 0), (iv 0), (iv 0)] (fun fb => by kernel_rfl) (by kernel_rfl) (by kernel_rfl) [1, 2] (by decide) (by decide) (fun w21 hS22 => ?_)
 refine ⟨trivial, ?_⟩
 refine WL.done rfl (WX.next (WC.seq (WC.seq (WC.region ?_))))
 refine seg 3 [] [0, 1, 4, 5, 11, 12, 13] [(0, (sv Aa p0 ca)), (1, (sv Ab p1 cb)), (4, (pt g9)), (5, (pt g18)), (11, (sv Ab p1 cb)), (12, (iv (p1.length : Int))), (13, (iv 0))] [] (fun fb => by kernel_rfl) rfl trivial ?_
 refine WL.done rfl (WX.next ?_)
 obtain ⟨x26, hx27, hf⟩ := bind_some hf
 refine WC.cutN (T := A8_Int × A8_Int) (fun t => [(0, (sv Aa p0 ca)), (1, (sv Ab p1 cb)), (4, (pt g9)), (5, (pt g18))]) (fun t w1 => St NoS w w1 [rowR enc_Tile Aa ca p0, rowR encInt Ab cb p1] [blk g9 (.cells #[(.slice none 0 0), (iv 0), (iv 0), (iv 0), (iv 0), (iv 0), (iv 0), (iv 0), (iv 0), (iv 0), (iv 0), (iv 0), (iv 0), (iv 0), (iv 0), (iv 0), (iv 0), (iv 0), (iv 0)] 74 (0, 0)), blk g18 (.cells #[(sv A14 (([] : List Int) ++ p1) c15), (iv t.1.e0), (iv t.1.e1), (iv t.1.e2), (iv t.1.e3), (iv t.1.e4), (iv t.1.e5), (iv t.1.e6), (iv t.1.e7), (iv t.2.e0), (iv t.2.e1), (iv t.2.e2), (iv t.2.e3), (iv t.2.e4), (iv t.2.e5), (iv t.2.e6), (iv t.2.e7), (iv 0), (iv 0)] 74 (0, 0)), rowO 3 encInt A14 c15 (([] : List Int) ++ p1)] ∧ x26 = t) (fun Kx26 => ?_) ?_
 ·
  refine WC.block ?_
  refine WC.loop (T := A8_Int × A8_Int × Int) (fun t => [(0, (sv Aa p0 ca)), (1, (sv Ab p1 cb)), (4, (pt g9)), (5, (pt g18)), (11, (sv Ab p1 cb)), (12, (iv (p1.length : Int))), (13, (iv t.2.2))]) (fun n t w1 => St NoS w w1 [rowR enc_Tile Aa ca p0, rowR encInt Ab cb p1] [blk g9 (.cells #[(.slice none 0 0), (iv 0), (iv 0), (iv 0), (iv 0), (iv 0), (iv 0), (iv 0), (iv 0), (iv 0), (iv 0), (iv 0), (iv 0), (iv 0), (iv 0), (iv 0), (iv 0), (iv 0), (iv 0)] 74 (0, 0)), blk g18 (.cells #[(sv A14 (([] : List Int) ++ p1) c15), (iv t.1.e0), (iv t.1.e1), (iv t.1.e2), (iv t.1.e3), (iv t.1.e4), (iv t.1.e5), (iv t.1.e6), (iv t.1.e7), (iv t.2.1.e0), (iv t.2.1.e1), (iv t.2.1.e2), (iv t.2.1.e3), (iv t.2.1.e4), (iv t.2.1.e5), (iv t.2.1.e6), (iv t.2.1.e7), (iv 0), (iv 0)] 74 (0, 0)), rowO 3 encInt A14 c15 (([] : List Int) ++ p1)] ∧ rows_rowOf.l0 n t.1 t.2.1 t.2.2 p0 p1 = some x26) k ((A8_Int.mk 0 0 0 0 0 0 0 0), (A8_Int.mk 0 0 0 0 0 0 0 0), 0) [0, 1, 4, 5, 11, 12, 13] rfl ⟨(hS22.subR [0, 1]).sub [2, 0, 1] (by decide), hx27⟩ ?_
  rintro k28 ⟨a23, a24, x25⟩ w29 ⟨hS30, hl31⟩
  cases k28 with
  | zero => rw [rows_rowOf.l0] at hl31; cases hl31
  | succ k28 =>
   rw [rows_rowOf.l0] at hl31
   refine WC.seq (WC.region ?_)
   refine seg 1 [] [0, 1, 4, 5, 11, 12, 13, 14] [(0, (sv Aa p0 ca)), (1, (sv Ab p1 cb)), (4, (pt g9)), (5, (pt g18)), (11, (sv Ab p1 cb)), (12, (iv (p1.length : Int))), (13, (iv x25)), (14, (bv (decide (x25 < (p1.length : Int)))))] [] (fun fb => by kernel_rfl) rfl trivial ?_
   refine WL.done rfl (WX.next (WC.seq ?_))
   rcases br_some hl31 with ⟨h32, hl31⟩ | ⟨h32, hl31⟩
   ·refine WC.condT2 (fun fb => by kernel_rfl) h32 ?_
    refine WC.skip (WX.next (WC.seq (WC.block (WC.seq (WC.region ?_)))))
    refine seg 1 [] [0, 1, 4, 5, 11, 12, 13, 15] [(0, (sv Aa p0 ca)), (1, (sv Ab p1 cb)), (4, (pt g9)), (5, (pt g18)), (11, (sv Ab p1 cb)), (12, (iv (p1.length : Int))), (13, (iv x25)), (15, (iv x25))] [] (fun fb => by kernel_rfl) rfl trivial ?_
    obtain ⟨h33, hl31⟩ := as_some hl31
    refine seg 5 [.v (iv (rdD p1 x25 0))] [0, 1, 4, 5, 6, 7, 11, 12, 13] [(0, (sv Aa p0 ca)), (1, (sv Ab p1 cb)), (4, (pt g9)), (5, (pt g18)), (6, (iv x25)), (7, (iv (rdD p1 x25 0))), (11, (sv Ab p1 cb)), (12, (iv (p1.length : Int))), (13, (iv x25))] [.idx Ab x25 p1.length, .cell ((adr Ab).add ((x25).toNat * 1)) (iv (rdD p1 x25 0))] (fun fb => by kernel_rfl) rfl ⟨rowR.adr (hS30.rd 1).1 h33.1 h33.2, rowR.cell (hS30.rd 1).1 0 h33.1 h33.2 0 rfl, trivial⟩ ?_
    refine WL.done rfl (WX.next ?_)
    obtain ⟨h36, hl31⟩ := as_some hl31
    obtain ⟨h37, hl31⟩ := as_some hl31
    refine WC.regionD ([(6, (((adr Aa).add (((rdD p1 x25 0)).toNat * 4)).add 2), (iv ((rdD p0 (rdD p1 x25 0) z_Tile).S))), (11, ((adr Aa).add (((rdD p1 x25 0)).toNat * 4)), (iv ((rdD p0 (rdD p1 x25 0) z_Tile).N)))], [0, 1, 2, 3, 4, 5, 6, 7, 8, 9, 10, 11, 12, 13, 15, 16], [[], [], [], [], [2, 3], [2, 3, 4], [2, 3, 4, 5], [], [], [7, 8], [7, 8, 9], [7, 8, 9, 10], [], [0, 2, 3, 4, 5, 6, 12], [0, 2, 3, 4, 5, 6, 12, 13], [], [0, 1, 2, 3, 4, 5, 6, 7, 8, 9, 10, 11, 12, 13, 14, 15], [0, 1, 2, 3, 4, 5, 6, 7, 8, 9, 10, 11, 12, 13, 14, 15, 16]]) [[0, 1, 2, 3, 4, 5, 6, 7, 8, 9, 10, 11, 12, 13, 15, 14, 16, 17]] (by kernel_rfl) (by kernel_rfl) (NoPanic.block (NoPanic.seq (NoPanic.seq (NoPanic.block (NoPanic.seq (NoPanic.body)))))) ?_
    have hS35 := hS30.drew
    revert hS35
    generalize World.drew w29 = w34
    intro hS35
    refine ⟨⟨rowR.cell (hS35.rd 0).1 z_Tile h36.1 h36.2 2 rfl, rowR.cell (hS35.rd 0).1 z_Tile h36.1 h36.2 0 rfl, trivial⟩, forallC ?_ (forallN)⟩
    refine segF 15 [.v (iv ((rdD p0 (rdD p1 x25 0) z_Tile).S)), .v (iv ((rdD p0 (rdD p1 x25 0) z_Tile).N))] [0, 1, 4, 5, 11, 12, 13, 19, 24, 29, 31, 32] [(0, (sv Aa p0 ca)), (1, (sv Ab p1 cb)), (4, (pt g9)), (5, (pt g18)), (11, (sv Ab p1 cb)), (12, (iv (p1.length : Int))), (13, (iv x25)), (19, (iv x25)), (24, (iv ((rdD p0 (rdD p1 x25 0) z_Tile).S))), (29, (iv ((rdD p0 (rdD p1 x25 0) z_Tile).N))), (31, (.pointer (some (flatA ⟨g18, 1, none⟩ (x25.toNat * 1))))), (32, (.pointer (some ⟨g18, 9, none⟩)))] [.idx Aa (rdD p1 x25 0) p0.length, .idx Aa (rdD p1 x25 0) p0.length, .idx (some ⟨0, 0, none⟩) x25 8] [0, 1] [(6, (((adr Aa).add (((rdD p1 x25 0)).toNat * 4)).add 2), (iv ((rdD p0 (rdD p1 x25 0) z_Tile).S))), (11, ((adr Aa).add (((rdD p1 x25 0)).toNat * 4)), (iv ((rdD p0 (rdD p1 x25 0) z_Tile).N)))] (fun fb => by kernel_rfl) rfl ⟨rowR.adr (hS35.rd 0).1 h36.1 h36.2, rowR.adr (hS35.rd 0).1 h36.1 h36.2, ⟨h37.1, h37.2, rfl⟩, trivial⟩ rfl ?_
    have h40 := (cases8 (Q := fun z_ => (([(1 + z_.toNat * 1, (iv ((rdD p0 (rdD p1 x25 0) z_Tile).S)))] : List (Nat × Value)).all fun p_ => Nat.blt p_.1 (#[(sv A14 (([] : List Int) ++ p1) c15), (iv a23.e0), (iv a23.e1), (iv a23.e2), (iv a23.e3), (iv a23.e4), (iv a23.e5), (iv a23.e6), (iv a23.e7), (iv a24.e0), (iv a24.e1), (iv a24.e2), (iv a24.e3), (iv a24.e4), (iv a24.e5), (iv a24.e6), (iv a24.e7), (iv 0), (iv 0)] : Array Value).size) = true) h37 (by kernel_rfl) (by kernel_rfl) (by kernel_rfl) (by kernel_rfl) (by kernel_rfl) (by kernel_rfl) (by kernel_rfl) (by kernel_rfl))
    have h41 := (cases8 (Q := fun z_ => wrc (#[(sv A14 (([] : List Int) ++ p1) c15), (iv a23.e0), (iv a23.e1), (iv a23.e2), (iv a23.e3), (iv a23.e4), (iv a23.e5), (iv a23.e6), (iv a23.e7), (iv a24.e0), (iv a24.e1), (iv a24.e2), (iv a24.e3), (iv a24.e4), (iv a24.e5), (iv a24.e6), (iv a24.e7), (iv 0), (iv 0)] : Array Value) [(1 + z_.toNat * 1, (iv ((rdD p0 (rdD p1 x25 0) z_Tile).S)))] = (#[(sv A14 (([] : List Int) ++ p1) c15), (iv ((A8_Int.set a23 z_ ((rdD p0 (rdD p1 x25 0) z_Tile).S)).e0)), (iv ((A8_Int.set a23 z_ ((rdD p0 (rdD p1 x25 0) z_Tile).S)).e1)), (iv ((A8_Int.set a23 z_ ((rdD p0 (rdD p1 x25 0) z_Tile).S)).e2)), (iv ((A8_Int.set a23 z_ ((rdD p0 (rdD p1 x25 0) z_Tile).S)).e3)), (iv ((A8_Int.set a23 z_ ((rdD p0 (rdD p1 x25 0) z_Tile).S)).e4)), (iv ((A8_Int.set a23 z_ ((rdD p0 (rdD p1 x25 0) z_Tile).S)).e5)), (iv ((A8_Int.set a23 z_ ((rdD p0 (rdD p1 x25 0) z_Tile).S)).e6)), (iv ((A8_Int.set a23 z_ ((rdD p0 (rdD p1 x25 0) z_Tile).S)).e7)), (iv a24.e0), (iv a24.e1), (iv a24.e2), (iv a24.e3), (iv a24.e4), (iv a24.e5), (iv a24.e6), (iv a24.e7), (iv 0), (iv 0)] : Array Value)) h37 (by kernel_rfl) (by kernel_rfl) (by kernel_rfl) (by kernel_rfl) (by kernel_rfl) (by kernel_rfl) (by kernel_rfl) (by kernel_rfl))
    refine WL.store hS35 1 rfl [(1 + x25.toNat * 1, (iv ((rdD p0 (rdD p1 x25 0) z_Tile).S)))] #[(sv A14 (([] : List Int) ++ p1) c15), (iv ((A8_Int.set a23 x25 ((rdD p0 (rdD p1 x25 0) z_Tile).S)).e0)), (iv ((A8_Int.set a23 x25 ((rdD p0 (rdD p1 x25 0) z_Tile).S)).e1)), (iv ((A8_Int.set a23 x25 ((rdD p0 (rdD p1 x25 0) z_Tile).S)).e2)), (iv ((A8_Int.set a23 x25 ((rdD p0 (rdD p1 x25 0) z_Tile).S)).e3)), (iv ((A8_Int.set a23 x25 ((rdD p0 (rdD p1 x25 0) z_Tile).S)).e4)), (iv ((A8_Int.set a23 x25 ((rdD p0 (rdD p1 x25 0) z_Tile).S)).e5)), (iv ((A8_Int.set a23 x25 ((rdD p0 (rdD p1 x25 0) z_Tile).S)).e6)), (iv ((A8_Int.set a23 x25 ((rdD p0 (rdD p1 x25 0) z_Tile).S)).e7)), (iv a24.e0), (iv a24.e1), (iv a24.e2), (iv a24.e3), (iv a24.e4), (iv a24.e5), (iv a24.e6), (iv a24.e7), (iv 0), (iv 0)] (fun fb => by kernel_rfl) h40 h41 [0, 2] (by decide) (by decide) (fun w38 hS39 => ?_)
    refine ⟨⟨rowR.cell (hS39.rd 0).1 z_Tile h36.1 h36.2 0 rfl, trivial⟩, ?_⟩
    refine seg 17 [] [0, 1, 4, 5, 11, 12, 13, 29, 33] [(0, (sv Aa p0 ca)), (1, (sv Ab p1 cb)), (4, (pt g9)), (5, (pt g18)), (11, (sv Ab p1 cb)), (12, (iv (p1.length : Int))), (13, (iv x25)), (29, (iv ((rdD p0 (rdD p1 x25 0) z_Tile).N))), (33, (.pointer (some (flatA ⟨g18, 9, none⟩ (x25.toNat * 1)))))] [.idx (some ⟨0, 0, none⟩) x25 8] (fun fb => by kernel_rfl) rfl ⟨⟨h37.1, h37.2, rfl⟩, trivial⟩ ?_
    have h44 := (cases8 (Q := fun z_ => (([(9 + z_.toNat * 1, (iv ((rdD p0 (rdD p1 x25 0) z_Tile).N)))] : List (Nat × Value)).all fun p_ => Nat.blt p_.1 (#[(sv A14 (([] : List Int) ++ p1) c15), (iv ((A8_Int.set a23 x25 ((rdD p0 (rdD p1 x25 0) z_Tile).S)).e0)), (iv ((A8_Int.set a23 x25 ((rdD p0 (rdD p1 x25 0) z_Tile).S)).e1)), (iv ((A8_Int.set a23 x25 ((rdD p0 (rdD p1 x25 0) z_Tile).S)).e2)), (iv ((A8_Int.set a23 x25 ((rdD p0 (rdD p1 x25 0) z_Tile).S)).e3)), (iv ((A8_Int.set a23 x25 ((rdD p0 (rdD p1 x25 0) z_Tile).S)).e4)), (iv ((A8_Int.set a23 x25 ((rdD p0 (rdD p1 x25 0) z_Tile).S)).e5)), (iv ((A8_Int.set a23 x25 ((rdD p0 (rdD p1 x25 0) z_Tile).S)).e6)), (iv ((A8_Int.set a23 x25 ((rdD p0 (rdD p1 x25 0) z_Tile).S)).e7)), (iv a24.e0), (iv a24.e1), (iv a24.e2), (iv a24.e3), (iv a24.e4), (iv a24.e5), (iv a24.e6), (iv a24.e7), (iv 0), (iv 0)] : Array Value).size) = true) h37 (by kernel_rfl) (by kernel_rfl) (by kernel_rfl) (by kernel_rfl) (by kernel_rfl) (by kernel_rfl) (by kernel_rfl) (by kernel_rfl))
    have h45 := (cases8 (Q := fun z_ => wrc (#[(sv A14 (([] : List Int) ++ p1) c15), (iv ((A8_Int.set a23 x25 ((rdD p0 (rdD p1 x25 0) z_Tile).S)).e0)), (iv ((A8_Int.set a23 x25 ((rdD p0 (rdD p1 x25 0) z_Tile).S)).e1)), (iv ((A8_Int.set a23 x25 ((rdD p0 (rdD p1 x25 0) z_Tile).S)).e2)), (iv ((A8_Int.set a23 x25 ((rdD p0 (rdD p1 x25 0) z_Tile).S)).e3)), (iv ((A8_Int.set a23 x25 ((rdD p0 (rdD p1 x25 0) z_Tile).S)).e4)), (iv ((A8_Int.set a23 x25 ((rdD p0 (rdD p1 x25 0) z_Tile).S)).e5)), (iv ((A8_Int.set a23 x25 ((rdD p0 (rdD p1 x25 0) z_Tile).S)).e6)), (iv ((A8_Int.set a23 x25 ((rdD p0 (rdD p1 x25 0) z_Tile).S)).e7)), (iv a24.e0), (iv a24.e1), (iv a24.e2), (iv a24.e3), (iv a24.e4), (iv a24.e5), (iv a24.e6), (iv a24.e7), (iv 0), (iv 0)] : Array Value) [(9 + z_.toNat * 1, (iv ((rdD p0 (rdD p1 x25 0) z_Tile).N)))] = (#[(sv A14 (([] : List Int) ++ p1) c15), (iv ((A8_Int.set a23 x25 ((rdD p0 (rdD p1 x25 0) z_Tile).S)).e0)), (iv ((A8_Int.set a23 x25 ((rdD p0 (rdD p1 x25 0) z_Tile).S)).e1)), (iv ((A8_Int.set a23 x25 ((rdD p0 (rdD p1 x25 0) z_Tile).S)).e2)), (iv ((A8_Int.set a23 x25 ((rdD p0 (rdD p1 x25 0) z_Tile).S)).e3)), (iv ((A8_Int.set a23 x25 ((rdD p0 (rdD p1 x25 0) z_Tile).S)).e4)), (iv ((A8_Int.set a23 x25 ((rdD p0 (rdD p1 x25 0) z_Tile).S)).e5)), (iv ((A8_Int.set a23 x25 ((rdD p0 (rdD p1 x25 0) z_Tile).S)).e6)), (iv ((A8_Int.set a23 x25 ((rdD p0 (rdD p1 x25 0) z_Tile).S)).e7)), (iv ((A8_Int.set a24 z_ ((rdD p0 (rdD p1 x25 0) z_Tile).N)).e0)), (iv ((A8_Int.set a24 z_ ((rdD p0 (rdD p1 x25 0) z_Tile).N)).e1)), (iv ((A8_Int.set a24 z_ ((rdD p0 (rdD p1 x25 0) z_Tile).N)).e2)), (iv ((A8_Int.set a24 z_ ((rdD p0 (rdD p1 x25 0) z_Tile).N)).e3)), (iv ((A8_Int.set a24 z_ ((rdD p0 (rdD p1 x25 0) z_Tile).N)).e4)), (iv ((A8_Int.set a24 z_ ((rdD p0 (rdD p1 x25 0) z_Tile).N)).e5)), (iv ((A8_Int.set a24 z_ ((rdD p0 (rdD p1 x25 0) z_Tile).N)).e6)), (iv ((A8_Int.set a24 z_ ((rdD p0 (rdD p1 x25 0) z_Tile).N)).e7)), (iv 0), (iv 0)] : Array Value)) h37 (by kernel_rfl) (by kernel_rfl) (by kernel_rfl) (by kernel_rfl) (by kernel_rfl) (by kernel_rfl) (by kernel_rfl) (by kernel_rfl))
    refine WL.store hS39 0 rfl [(9 + x25.toNat * 1, (iv ((rdD p0 (rdD p1 x25 0) z_Tile).N)))] #[(sv A14 (([] : List Int) ++ p1) c15), (iv ((A8_Int.set a23 x25 ((rdD p0 (rdD p1 x25 0) z_Tile).S)).e0)), (iv ((A8_Int.set a23 x25 ((rdD p0 (rdD p1 x25 0) z_Tile).S)).e1)), (iv ((A8_Int.set a23 x25 ((rdD p0 (rdD p1 x25 0) z_Tile).S)).e2)), (iv ((A8_Int.set a23 x25 ((rdD p0 (rdD p1 x25 0) z_Tile).S)).e3)), (iv ((A8_Int.set a23 x25 ((rdD p0 (rdD p1 x25 0) z_Tile).S)).e4)), (iv ((A8_Int.set a23 x25 ((rdD p0 (rdD p1 x25 0) z_Tile).S)).e5)), (iv ((A8_Int.set a23 x25 ((rdD p0 (rdD p1 x25 0) z_Tile).S)).e6)), (iv ((A8_Int.set a23 x25 ((rdD p0 (rdD p1 x25 0) z_Tile).S)).e7)), (iv ((A8_Int.set a24 x25 ((rdD p0 (rdD p1 x25 0) z_Tile).N)).e0)), (iv ((A8_Int.set a24 x25 ((rdD p0 (rdD p1 x25 0) z_Tile).N)).e1)), (iv ((A8_Int.set a24 x25 ((rdD p0 (rdD p1 x25 0) z_Tile).N)).e2)), (iv ((A8_Int.set a24 x25 ((rdD p0 (rdD p1 x25 0) z_Tile).N)).e3)), (iv ((A8_Int.set a24 x25 ((rdD p0 (rdD p1 x25 0) z_Tile).N)).e4)), (iv ((A8_Int.set a24 x25 ((rdD p0 (rdD p1 x25 0) z_Tile).N)).e5)), (iv ((A8_Int.set a24 x25 ((rdD p0 (rdD p1 x25 0) z_Tile).N)).e6)), (iv ((A8_Int.set a24 x25 ((rdD p0 (rdD p1 x25 0) z_Tile).N)).e7)), (iv 0), (iv 0)] (fun fb => by kernel_rfl) h44 h45 [1, 2] (by decide) (by decide) (fun w42 hS43 => ?_)
    refine ⟨trivial, ?_⟩
    refine WL.done rfl ?_
    refine WX.blockN (WX.next ?_)
    refine WC.region ?_
    refine seg 2 [] [0, 1, 4, 5, 11, 12, 13] [(0, (sv Aa p0 ca)), (1, (sv Ab p1 cb)), (4, (pt g9)), (5, (pt g18)), (11, (sv Ab p1 cb)), (12, (iv (p1.length : Int))), (13, (iv (w64 (x25 + 1))))] [] (fun fb => by kernel_rfl) rfl trivial ?_
    refine WL.done rfl ?_
    exact WX.again k28 (Nat.lt_succ_self _) ((A8_Int.set a23 x25 ((rdD p0 (rdD p1 x25 0) z_Tile).S)), (A8_Int.set a24 x25 ((rdD p0 (rdD p1 x25 0) z_Tile).N)), w64 (x25 + 1)) [0, 1, 4, 5, 11, 12, 13] rfl ⟨(hS43.subR [0, 1]).sub [1, 0, 2] (by decide), hl31⟩
   refine WC.condF2 (fun fb => by kernel_rfl) h32 ?_
   refine WC.exit ?_
   injection hl31 with hl31
   exact WX.thenX (WX.thenX (WX.blockHere (WX.to Kx26 (a23, a24) [0, 1, 4, 5] rfl ⟨(hS30.subR [0, 1]).sub [0, 1, 2] (by decide), hl31.symm⟩)))
 rintro y49 w46 ⟨hS47, hq48⟩
 subst hq48
 refine WX.next (WC.seq ?_)
 obtain ⟨h52, hf⟩ := as_some hf
 obtain ⟨h53, hf⟩ := as_some hf
 obtain ⟨h54, hf⟩ := as_some hf
 obtain ⟨h55, hf⟩ := as_some hf
 refine WC.regionD ([(3, ((adr Ab).add (((0 : Int)).toNat * 1)), (iv (rdD p1 (0 : Int) 0))), (6, (((adr Aa).add (((rdD p1 (0 : Int) 0)).toNat * 4)).add 3), (iv ((rdD p0 (rdD p1 (0 : Int) 0) z_Tile).W))), (13, ((adr Ab).add ((w64 ((p1.length : Int) - 1)).toNat * 1)), (iv (rdD p1 (w64 ((p1.length : Int) - 1)) 0))), (16, (((adr Aa).add (((rdD p1 (w64 ((p1.length : Int) - 1)) 0)).toNat * 4)).add 1), (iv ((rdD p0 (rdD p1 (w64 ((p1.length : Int) - 1)) 0) z_Tile).E)))], [0, 1, 2, 3, 4, 5, 6, 7, 8, 9, 10, 11, 12, 13, 14, 15, 16, 17, 19], [[], [], [1], [1, 2], [0, 1, 2, 3], [0, 1, 2, 3, 4], [0, 1, 2, 3, 4, 5], [], [], [], [9], [9, 10], [8, 9, 10, 11], [8, 9, 10, 11, 12], [7, 8, 9, 10, 11, 12, 13], [7, 8, 9, 10, 11, 12, 13, 14], [7, 8, 9, 10, 11, 12, 13, 14, 15], [0, 1, 2, 3, 4, 5, 6], [0, 1, 2, 3, 4, 5, 6, 17], [0, 1, 2, 3, 4, 5, 6, 7, 8, 9, 10, 11, 12, 13, 14, 15, 16, 17, 18], [0, 1, 2, 3, 4, 5, 6, 7, 8, 9, 10, 11, 12, 13, 14, 15, 16, 17, 18, 19]]) [[0, 1, 2, 3, 4, 5, 6, 7, 8, 9, 10, 11, 12, 13, 14, 15, 16, 17, 18, 19, 20]] (by kernel_rfl) (by kernel_rfl) (NoPanic.seq (NoPanic.body)) ?_
 have hS51 := hS47.drew
 revert hS51
 generalize World.drew w46 = w50
 intro hS51
 refine ⟨⟨rowR.cell (hS51.rd 1).1 0 h52.1 h52.2 0 rfl, rowR.cell (hS51.rd 0).1 z_Tile h53.1 h53.2 3 rfl, rowR.cell (hS51.rd 1).1 0 h54.1 h54.2 0 rfl, rowR.cell (hS51.rd 0).1 z_Tile h55.1 h55.2 1 rfl, trivial⟩, forallC ?_ (forallN)⟩
 refine segF 18 [.v (iv (rdD p1 (0 : Int) 0)), .v (iv ((rdD p0 (rdD p1 (0 : Int) 0) z_Tile).W)), .v (iv (rdD p1 (w64 ((p1.length : Int) - 1)) 0)), .v (iv ((rdD p0 (rdD p1 (w64 ((p1.length : Int) - 1)) 0) z_Tile).E))] [4, 5, 41, 51, 52] [(4, (pt g9)), (5, (pt g18)), (41, (iv ((rdD p0 (rdD p1 (0 : Int) 0) z_Tile).W))), (51, (iv ((rdD p0 (rdD p1 (w64 ((p1.length : Int) - 1)) 0) z_Tile).E))), (52, (.pointer (some ⟨g18, 17, none⟩)))] [.idx Ab (0 : Int) p1.length, .idx Aa (rdD p1 (0 : Int) 0) p0.length, .idx Ab (w64 ((p1.length : Int) - 1)) p1.length, .idx Aa (rdD p1 (w64 ((p1.length : Int) - 1)) 0) p0.length] [0, 1, 2, 3] [(3, ((adr Ab).add (((0 : Int)).toNat * 1)), (iv (rdD p1 (0 : Int) 0))), (6, (((adr Aa).add (((rdD p1 (0 : Int) 0)).toNat * 4)).add 3), (iv ((rdD p0 (rdD p1 (0 : Int) 0) z_Tile).W))), (13, ((adr Ab).add ((w64 ((p1.length : Int) - 1)).toNat * 1)), (iv (rdD p1 (w64 ((p1.length : Int) - 1)) 0))), (16, (((adr Aa).add (((rdD p1 (w64 ((p1.length : Int) - 1)) 0)).toNat * 4)).add 1), (iv ((rdD p0 (rdD p1 (w64 ((p1.length : Int) - 1)) 0) z_Tile).E)))] (fun fb => by kernel_rfl) rfl ⟨rowR.adr (hS51.rd 1).1 h52.1 h52.2, rowR.adr (hS51.rd 0).1 h53.1 h53.2, rowR.adr (hS51.rd 1).1 h54.1 h54.2, rowR.adr (hS51.rd 0).1 h55.1 h55.2, trivial⟩ rfl ?_
 refine WL.store hS51 1 rfl [(17, (iv ((rdD p0 (rdD p1 (0 : Int) 0) z_Tile).W)))] #[(sv A14 (([] : List Int) ++ p1) c15), (iv x26.1.e0), (iv x26.1.e1), (iv x26.1.e2), (iv x26.1.e3), (iv x26.1.e4), (iv x26.1.e5), (iv x26.1.e6), (iv x26.1.e7), (iv x26.2.e0), (iv x26.2.e1), (iv x26.2.e2), (iv x26.2.e3), (iv x26.2.e4), (iv x26.2.e5), (iv x26.2.e6), (iv x26.2.e7), (iv ((rdD p0 (rdD p1 (0 : Int) 0) z_Tile).W)), (iv 0)] (fun fb => by kernel_rfl) (by kernel_rfl) (by kernel_rfl) [0, 2] (by decide) (by decide) (fun w56 hS57 => ?_)
 refine ⟨⟨rowR.cell (hS57.rd 1).1 0 h54.1 h54.2 0 rfl, rowR.cell (hS57.rd 0).1 z_Tile h55.1 h55.2 1 rfl, trivial⟩, ?_⟩
 refine seg 20 [] [4, 5, 51, 53] [(4, (pt g9)), (5, (pt g18)), (51, (iv ((rdD p0 (rdD p1 (w64 ((p1.length : Int) - 1)) 0) z_Tile).E))), (53, (.pointer (some ⟨g18, 18, none⟩)))] [] (fun fb => by kernel_rfl) rfl trivial ?_
 refine WL.store hS57 0 rfl [(18, (iv ((rdD p0 (rdD p1 (w64 ((p1.length : Int) - 1)) 0) z_Tile).E)))] #[(sv A14 (([] : List Int) ++ p1) c15), (iv x26.1.e0), (iv x26.1.e1), (iv x26.1.e2), (iv x26.1.e3), (iv x26.1.e4), (iv x26.1.e5), (iv x26.1.e6), (iv x26.1.e7), (iv x26.2.e0), (iv x26.2.e1), (iv x26.2.e2), (iv x26.2.e3), (iv x26.2.e4), (iv x26.2.e5), (iv x26.2.e6), (iv x26.2.e7), (iv ((rdD p0 (rdD p1 (0 : Int) 0) z_Tile).W)), (iv ((rdD p0 (rdD p1 (w64 ((p1.length : Int) - 1)) 0) z_Tile).E))] (fun fb => by kernel_rfl) (by kernel_rfl) (by kernel_rfl) [1, 2] (by decide) (by decide) (fun w58 hS59 => ?_)
 refine ⟨trivial, ?_⟩
 refine WL.done rfl (WX.next (WC.seq (WC.region ?_)))
 refine seg 1 [.v (sv A14 (([] : List Int) ++ p1) c15), .v (iv x26.1.e0), .v (iv x26.1.e1), .v (iv x26.1.e2), .v (iv x26.1.e3), .v (iv x26.1.e4), .v (iv x26.1.e5), .v (iv x26.1.e6), .v (iv x26.1.e7), .v (iv x26.2.e0), .v (iv x26.2.e1), .v (iv x26.2.e2), .v (iv x26.2.e3), .v (iv x26.2.e4), .v (iv x26.2.e5), .v (iv x26.2.e6), .v (iv x26.2.e7), .v (iv ((rdD p0 (rdD p1 (0 : Int) 0) z_Tile).W)), .v (iv ((rdD p0 (rdD p1 (w64 ((p1.length : Int) - 1)) 0) z_Tile).E))] [4, 54] [(4, (pt g9)), (54, (.agg #[(sv A14 (([] : List Int) ++ p1) c15), (iv x26.1.e0), (iv x26.1.e1), (iv x26.1.e2), (iv x26.1.e3), (iv x26.1.e4), (iv x26.1.e5), (iv x26.1.e6), (iv x26.1.e7), (iv x26.2.e0), (iv x26.2.e1), (iv x26.2.e2), (iv x26.2.e3), (iv x26.2.e4), (iv x26.2.e5), (iv x26.2.e6), (iv x26.2.e7), (iv ((rdD p0 (rdD p1 (0 : Int) 0) z_Tile).W)), (iv ((rdD p0 (rdD p1 (w64 ((p1.length : Int) - 1)) 0) z_Tile).E))]))] [.cell ⟨g18, 0, none⟩ (sv A14 (([] : List Int) ++ p1) c15), .cell ⟨g18, 1, none⟩ (iv x26.1.e0), .cell ⟨g18, 2, none⟩ (iv x26.1.e1), .cell ⟨g18, 3, none⟩ (iv x26.1.e2), .cell ⟨g18, 4, none⟩ (iv x26.1.e3), .cell ⟨g18, 5, none⟩ (iv x26.1.e4), .cell ⟨g18, 6, none⟩ (iv x26.1.e5), .cell ⟨g18, 7, none⟩ (iv x26.1.e6), .cell ⟨g18, 8, none⟩ (iv x26.1.e7), .cell ⟨g18, 9, none⟩ (iv x26.2.e0), .cell ⟨g18, 10, none⟩ (iv x26.2.e1), .cell ⟨g18, 11, none⟩ (iv x26.2.e2), .cell ⟨g18, 12, none⟩ (iv x26.2.e3), .cell ⟨g18, 13, none⟩ (iv x26.2.e4), .cell ⟨g18, 14, none⟩ (iv x26.2.e5), .cell ⟨g18, 15, none⟩ (iv x26.2.e6), .cell ⟨g18, 16, none⟩ (iv x26.2.e7), .cell ⟨g18, 17, none⟩ (iv ((rdD p0 (rdD p1 (0 : Int) 0) z_Tile).W)), .cell ⟨g18, 18, none⟩ (iv ((rdD p0 (rdD p1 (w64 ((p1.length : Int) - 1)) 0) z_Tile).E))] (fun fb => by kernel_rfl) rfl ⟨hS59.cell 0 rfl 0 rfl, hS59.cell 0 rfl 1 rfl, hS59.cell 0 rfl 2 rfl, hS59.cell 0 rfl 3 rfl, hS59.cell 0 rfl 4 rfl, hS59.cell 0 rfl 5 rfl, hS59.cell 0 rfl 6 rfl, hS59.cell 0 rfl 7 rfl, hS59.cell 0 rfl 8 rfl, hS59.cell 0 rfl 9 rfl, hS59.cell 0 rfl 10 rfl, hS59.cell 0 rfl 11 rfl, hS59.cell 0 rfl 12 rfl, hS59.cell 0 rfl 13 rfl, hS59.cell 0 rfl 14 rfl, hS59.cell 0 rfl 15 rfl, hS59.cell 0 rfl 16 rfl, hS59.cell 0 rfl 17 rfl, hS59.cell 0 rfl 18 rfl, trivial⟩ ?_
 refine WL.store hS59 1 rfl [(0, (sv A14 (([] : List Int) ++ p1) c15)), (1, (iv x26.1.e0)), (2, (iv x26.1.e1)), (3, (iv x26.1.e2)), (4, (iv x26.1.e3)), (5, (iv x26.1.e4)), (6, (iv x26.1.e5)), (7, (iv x26.1.e6)), (8, (iv x26.1.e7)), (9, (iv x26.2.e0)), (10, (iv x26.2.e1)), (11, (iv x26.2.e2)), (12, (iv x26.2.e3)), (13, (iv x26.2.e4)), (14, (iv x26.2.e5)), (15, (iv x26.2.e6)), (16, (iv x26.2.e7)), (17, (iv ((rdD p0 (rdD p1 (0 : Int) 0) z_Tile).W))), (18, (iv ((rdD p0 (rdD p1 (w64 ((p1.length : Int) - 1)) 0) z_Tile).E)))] #[(sv A14 (([] : List Int) ++ p1) c15), (iv x26.1.e0), (iv x26.1.e1), (iv x26.1.e2), (iv x26.1.e3), (iv x26.1.e4), (iv x26.1.e5), (iv x26.1.e6), (iv x26.1.e7), (iv x26.2.e0), (iv x26.2.e1), (iv x26.2.e2), (iv x26.2.e3), (iv x26.2.e4), (iv x26.2.e5), (iv x26.2.e6), (iv x26.2.e7), (iv ((rdD p0 (rdD p1 (0 : Int) 0) z_Tile).W)), (iv ((rdD p0 (rdD p1 (w64 ((p1.length : Int) - 1)) 0) z_Tile).E))] (fun fb => by kernel_rfl) (by kernel_rfl) (by kernel_rfl) [0, 2] (by decide) (by decide) (fun w60 hS61 => ?_)
 refine ⟨trivial, ?_⟩
 refine WL.done rfl (WX.next ?_)
 refine WC.ret ?_
 injection hf with hf
 subst hf
 exact WX.ret_ [.v (sv A14 (([] : List Int) ++ p1) c15), .v (iv x26.1.e0), .v (iv x26.1.e1), .v (iv x26.1.e2), .v (iv x26.1.e3), .v (iv x26.1.e4), .v (iv x26.1.e5), .v (iv x26.1.e6), .v (iv x26.1.e7), .v (iv x26.2.e0), .v (iv x26.2.e1), .v (iv x26.2.e2), .v (iv x26.2.e3), .v (iv x26.2.e4), .v (iv x26.2.e5), .v (iv x26.2.e6), .v (iv x26.2.e7), .v (iv ((rdD p0 (rdD p1 (0 : Int) 0) z_Tile).W)), .v (iv ((rdD p0 (rdD p1 (w64 ((p1.length : Int) - 1)) 0) z_Tile).E))] (.agg #[(sv A14 (([] : List Int) ++ p1) c15), (iv x26.1.e0), (iv x26.1.e1), (iv x26.1.e2), (iv x26.1.e3), (iv x26.1.e4), (iv x26.1.e5), (iv x26.1.e6), (iv x26.1.e7), (iv x26.2.e0), (iv x26.2.e1), (iv x26.2.e2), (iv x26.2.e3), (iv x26.2.e4), (iv x26.2.e5), (iv x26.2.e6), (iv x26.2.e7), (iv ((rdD p0 (rdD p1 (0 : Int) 0) z_Tile).W)), (iv ((rdD p0 (rdD p1 (w64 ((p1.length : Int) - 1)) 0) z_Tile).E))]) [.cell ⟨g9, 0, none⟩ (sv A14 (([] : List Int) ++ p1) c15), .cell ⟨g9, 1, none⟩ (iv x26.1.e0), .cell ⟨g9, 2, none⟩ (iv x26.1.e1), .cell ⟨g9, 3, none⟩ (iv x26.1.e2), .cell ⟨g9, 4, none⟩ (iv x26.1.e3), .cell ⟨g9, 5, none⟩ (iv x26.1.e4), .cell ⟨g9, 6, none⟩ (iv x26.1.e5), .cell ⟨g9, 7, none⟩ (iv x26.1.e6), .cell ⟨g9, 8, none⟩ (iv x26.1.e7), .cell ⟨g9, 9, none⟩ (iv x26.2.e0), .cell ⟨g9, 10, none⟩ (iv x26.2.e1), .cell ⟨g9, 11, none⟩ (iv x26.2.e2), .cell ⟨g9, 12, none⟩ (iv x26.2.e3), .cell ⟨g9, 13, none⟩ (iv x26.2.e4), .cell ⟨g9, 14, none⟩ (iv x26.2.e5), .cell ⟨g9, 15, none⟩ (iv x26.2.e6), .cell ⟨g9, 16, none⟩ (iv x26.2.e7), .cell ⟨g9, 17, none⟩ (iv ((rdD p0 (rdD p1 (0 : Int) 0) z_Tile).W)), .cell ⟨g9, 18, none⟩ (iv ((rdD p0 (rdD p1 (w64 ((p1.length : Int) - 1)) 0) z_Tile).E))] (fun fb => by kernel_rfl) ⟨hS61.cell 0 rfl 0 rfl, hS61.cell 0 rfl 1 rfl, hS61.cell 0 rfl 2 rfl, hS61.cell 0 rfl 3 rfl, hS61.cell 0 rfl 4 rfl, hS61.cell 0 rfl 5 rfl, hS61.cell 0 rfl 6 rfl, hS61.cell 0 rfl 7 rfl, hS61.cell 0 rfl 8 rfl, hS61.cell 0 rfl 9 rfl, hS61.cell 0 rfl 10 rfl, hS61.cell 0 rfl 11 rfl, hS61.cell 0 rfl 12 rfl, hS61.cell 0 rfl 13 rfl, hS61.cell 0 rfl 14 rfl, hS61.cell 0 rfl 15 rfl, hS61.cell 0 rfl 16 rfl, hS61.cell 0 rfl 17 rfl, hS61.cell 0 rfl 18 rfl, trivial⟩ ⟨_, rfl, A14, c15, rfl, (hS61.sub [2] (by decide)).noR⟩
theorem rows_All_1_calls : ∀ (k : Nat) (p0 : Int) (f0 : Int) (f1 : List Row) (f2 : List Tile) (f3 : List Int) (ga : Nat) (gb : Nat) (Aa : Option Addr) (ca : Nat) (Ha : Nat → HF) (gc : Nat) (Ab : Option Addr) (cb : Nat) (gd : Nat) (Ac : Option Addr) (cc : Nat) (ge : Nat) (r : (List Row) × (List Int)) (w : World) (hR0 : RO (fpL [blk gb (.cells #[(sv Aa f1 ca)] 68 (0, 0)), rowO 74 encN_Row Aa ca (tag Ha f1), poolO [nestO subN_Row Ha f1], blk gd (.cells #[(sv Ac f3 cc)] 23 (0, 0)), rowO 3 encInt Ac cc f3]) w (blk ga (.cells #[(iv f0)] 3 (0, 0)))) (hR1 : RO (fpL [blk gb (.cells #[(sv Aa f1 ca)] 68 (0, 0)), rowO 74 encN_Row Aa ca (tag Ha f1), poolO [nestO subN_Row Ha f1], blk gd (.cells #[(sv Ac f3 cc)] 23 (0, 0)), rowO 3 encInt Ac cc f3]) w (blk gc (.cells #[(sv Ab f2 cb)] 22 (0, 0)))) (hR2 : RO (fpL [blk gb (.cells #[(sv Aa f1 ca)] 68 (0, 0)), rowO 74 encN_Row Aa ca (tag Ha f1), poolO [nestO subN_Row Ha f1], blk gd (.cells #[(sv Ac f3 cc)] 23 (0, 0)), rowO 3 encInt Ac cc f3]) w (rowR enc_Tile Ab cb f2)) (hR3 : RO (fpL [blk gb (.cells #[(sv Aa f1 ca)] 68 (0, 0)), rowO 74 encN_Row Aa ca (tag Ha f1), poolO [nestO subN_Row Ha f1], blk gd (.cells #[(sv Ac f3 cc)] 23 (0, 0)), rowO 3 encInt Ac cc f3]) w (blk ge (.cells #[(.func (.func 63) #[] #[(pt ga), (pt gb), (pt gc), (pt gd), (pt ge)])] 105 (0, 0)))) (hI : IoOK w [blk gb (.cells #[(sv Aa f1 ca)] 68 (0, 0)), rowO 74 encN_Row Aa ca (tag Ha f1), poolO [nestO subN_Row Ha f1], blk gd (.cells #[(sv Ac f3 cc)] 23 (0, 0)), rowO 3 encInt Ac cc f3]) (hf : rows_All_1 k p0 f0 f1 f2 f3 = some r),
  CallsR Tryd.prog 63 #[(iv p0), (pt ga), (pt gb), (pt gc), (pt gd), (pt ge)] w (fun v w' => ∃ (A1_ : Option Addr), ∃ (c1_ : Nat), ∃ (h1_ : Nat → HF), ∃ (A2_ : Option Addr), ∃ (c2_ : Nat), v = (.tuple #[]) ∧ St (fpL [blk gb (.cells #[(sv Aa f1 ca)] 68 (0, 0)), rowO 74 encN_Row Aa ca (tag Ha f1), poolO [nestO subN_Row Ha f1], blk gd (.cells #[(sv Ac f3 cc)] 23 (0, 0)), rowO 3 encInt Ac cc f3]) w w' [] [blk gb (.cells #[(sv A1_ r.1 c1_)] 68 (0, 0)), rowO 74 encN_Row A1_ c1_ (tag h1_ r.1), poolO [nestO subN_Row h1_ r.1], blk gd (.cells #[(sv A2_ r.2 c2_)] 23 (0, 0)), rowO 3 encInt A2_ c2_ r.2]) := by
 intro k
 induction k with
 | zero => intro p0 f0 f1 f2 f3 ga gb Aa ca Ha gc Ab cb gd Ac cc ge r w hR0 hR1 hR2 hR3 hI hf; rw [rows_All_1] at hf; cases hf
 | succ k ih_ =>
 intro p0 f0 f1 f2 f3 ga gb Aa ca Ha gc Ab cb gd Ac cc ge r w hR0 hR1 hR2 hR3 hI hf
 have hS : St (fpL [blk gb (.cells #[(sv Aa f1 ca)] 68 (0, 0)), rowO 74 encN_Row Aa ca (tag Ha f1), poolO [nestO subN_Row Ha f1], blk gd (.cells #[(sv Ac f3 cc)] 23 (0, 0)), rowO 3 encInt Ac cc f3]) w w [blk ga (.cells #[(iv f0)] 3 (0, 0)), blk gc (.cells #[(sv Ab f2 cb)] 22 (0, 0)), rowR enc_Tile Ab cb f2, blk ge (.cells #[(.func (.func 63) #[] #[(pt ga), (pt gb), (pt gc), (pt gd), (pt ge)])] 105 (0, 0))] [blk gb (.cells #[(sv Aa f1 ca)] 68 (0, 0)), rowO 74 encN_Row Aa ca (tag Ha f1), poolO [nestO subN_Row Ha f1], blk gd (.cells #[(sv Ac f3 cc)] 23 (0, 0)), rowO 3 encInt Ac cc f3] := St.initIO (ro_cons hR0 (ro_cons hR1 (ro_cons hR2 (ro_cons hR3 (ro_nil _ _))))) hI
 rw [rows_All_1] at hf
 generalize rows_All_1 k = rc_ at hf ih_
 refine enter 50 Tryd.func63 rfl Tryd.ntmps63 rfl ?_
 refine WC.seq (WC.seq (WC.region ?_))
 refine seg 3 [.v (iv f0)] [0, 2, 3, 4, 5, 11] [(0, (iv p0)), (2, (pt gb)), (3, (pt gc)), (4, (pt gd)), (5, (pt ge)), (11, (bv (p0 == f0)))] [.cell ⟨ga, 0, none⟩ (iv f0)] (fun fb => by kernel_rfl) rfl ⟨blk_cell (hS.rd 0).1 0 rfl, trivial⟩ ?_
 refine WL.done rfl (WX.next ?_)
 rcases br_some hf with ⟨h8, hf⟩ | ⟨h8, hf⟩
 ·refine WC.condT2 (fun fb => by kernel_rfl) h8 ?_
  refine WC.seq ?_
  refine WC.regionD ([(0, ⟨gb, 0, none⟩, (sv Aa f1 ca)), (1, ⟨gc, 0, none⟩, (sv Ab f2 cb)), (2, ⟨gd, 0, none⟩, (sv Ac f3 cc))], [0, 1, 2], [[], [], [], [1, 2], [1, 2, 3], [0, 1, 2, 3, 4], [0, 1, 2, 3, 4, 5]]) [[0, 1, 2, 3, 4, 5, 6]] (by kernel_rfl) (by kernel_rfl) (NoPanic.seq (NoPanic.seq (NoPanic.body))) ?_
  have hS10 := hS.drew
  revert hS10
  generalize World.drew w = w9
  intro hS10
  refine ⟨⟨hS10.cell 0 rfl 0 rfl, blk_cell (hS10.rd 1).1 0 rfl, hS10.cell 3 rfl 0 rfl, trivial⟩, forallC ?_ (forallN)⟩
  refine segF 3 [.v (sv Aa f1 ca), .v (sv Ab f2 cb), .v (sv Ac f3 cc)] [2, 4, 12, 13, 14] [(2, (pt gb)), (4, (pt gd)), (12, (sv Aa f1 ca)), (13, (sv Ab f2 cb)), (14, (sv Ac f3 cc))] [] [0, 1, 2] [(0, ⟨gb, 0, none⟩, (sv Aa f1 ca)), (1, ⟨gc, 0, none⟩, (sv Ab f2 cb)), (2, ⟨gd, 0, none⟩, (sv Ac f3 cc))] (fun fb => by kernel_rfl) rfl trivial rfl ?_
  obtain ⟨t11, ht12, hf⟩ := bind_some hf
  refine WL.call (some 15) 64 #[(sv Ab f2 cb), (sv Ac f3 cc)] (fun fb => by kernel_rfl) (rows_rowOf_calls _ f2 f3 Ab cb Ac cc t11 _ (hS10.rd 2) (hS10.ow 4).ofO ht12) (fun v w13 hR14 => ?_)
  obtain ⟨A16, c17, rfl, hk_⟩ := hR14
  have hS15 : St (fpL [blk gb (.cells #[(.slice Aa f1.length ca)] 68 (0, 0)), rowO 74 encN_Row Aa ca (tag Ha f1), poolO [nestO subN_Row Ha f1], blk gd (.cells #[(.slice Ac f3.length cc)] 23 (0, 0)), rowO 3 encInt Ac cc f3]) w w13 [blk ga (.cells #[(iv f0)] 3 (0, 0)), blk gc (.cells #[(.slice Ab f2.length cb)] 22 (0, 0)), rowR enc_Tile Ab cb f2, blk ge (.cells #[(.func (.func 63) #[] #[(pt ga), (pt gb), (pt gc), (pt gd), (pt ge)])] 105 (0, 0))] [rowO 3 encInt A16 c17 t11.Cells, blk gb (.cells #[(.slice Aa f1.length ca)] 68 (0, 0)), rowO 74 encN_Row Aa ca (tag Ha f1), poolO [nestO subN_Row Ha f1], blk gd (.cells #[(.slice Ac f3.length cc)] 23 (0, 0)), rowO 3 encInt Ac cc f3] := hS10.call hk_ [] [0, 1, 2, 3, 4] (fun g hg => hg.elim) (by simp) (by decide)
  refine ⟨⟨hS15.cell 1 rfl 0 rfl, trivial⟩, ?_⟩
  refine WL.new hS15 16 [] (fun g => (.slice (some ⟨g, 0, none⟩) 1 1)) (.cells #[(sv A16 t11.Cells c17), (iv t11.South.e0), (iv t11.South.e1), (iv t11.South.e2), (iv t11.South.e3), (iv t11.South.e4), (iv t11.South.e5), (iv t11.South.e6), (iv t11.South.e7), (iv t11.North.e0), (iv t11.North.e1), (iv t11.North.e2), (iv t11.North.e3), (iv t11.North.e4), (iv t11.North.e5), (iv t11.North.e6), (iv t11.North.e7), (iv t11.West), (iv t11.East)] 74 (0, 0)) [] (fun fb g => by kernel_rfl) trivial (fun g18 w19 hS20 => ?_)
  refine ⟨⟨hS20.cell 2 rfl 0 rfl, trivial⟩, ?_⟩
  have hS21 := hS.go w19 [rowO 74 encN_Row (some ⟨g18, 0, none⟩) 1 [((hd1 A16 c17), t11)], rowO 3 encInt A16 c17 t11.Cells, blk gb (.cells #[(sv Aa f1 ca)] 68 (0, 0)), rowO 74 encN_Row Aa ca (tag Ha f1), poolO [nestO subN_Row Ha f1], blk gd (.cells #[(sv Ac f3 cc)] 23 (0, 0)), rowO 3 encInt Ac cc f3] (hS20.map1 0 _ (fun h => rowO.ofBlk h rfl (Nat.le_of_ble_eq_true (by kernel_rfl))) (fun _ h => by obtain ⟨_, h1, h2⟩ := h; injection h1 with h1; subst h1; exact h2) [1, 2, 3, 4, 5, 6] (by decide) (by decide))
  obtain ⟨h22, hf⟩ := as_some hf
  refine WL.appendN hS21 3 (d := 17) (tS := 68) (z := (.agg #[(.slice none 0 0), (iv 0), (iv 0), (iv 0), (iv 0), (iv 0), (iv 0), (iv 0), (iv 0), (iv 0), (iv 0), (iv 0), (iv 0), (iv 0), (iv 0), (iv 0), (iv 0), (iv 0), (iv 0)])) (bytes := 168) (c2 := 1) (hx := (hd1 A16 c17)) (x := t11) rfl (fun fb => by kernel_rfl) (rowO.rd (hS21.own 0).1) (by kernel_rfl) (by kernel_rfl) rfl (by decide) h22 (by decide) [0, 1, 2, 4, 5, 6] (by decide) (by decide) (fun A23 c24 w25 hS26 => ?_)
  have hS27 := hS15.go w25 [poolO [nestO subN_Row (updH Ha f1.length (hd1 A16 c17)) (f1 ++ [t11])], rowO 74 encN_Row A23 c24 (tag (updH Ha f1.length (hd1 A16 c17)) (f1 ++ [t11])), rowO 74 encN_Row (some ⟨g18, 0, none⟩) 1 [((hd1 A16 c17), t11)], blk gb (.cells #[(.slice Aa f1.length ca)] 68 (0, 0)), blk gd (.cells #[(.slice Ac f3.length cc)] 23 (0, 0)), rowO 3 encInt Ac cc f3] (hS26.poolPush 4 rfl 0 (by simp) rfl (hd1 A16 c17) t11 (hS26.ow 2).ofO [2] (fun g hg => ⟨2, by simp, rowO.fpR (hS26.own 2).1 g hg⟩) _ rfl [0, 1, 3, 5, 6] (by decide) (by decide))
  refine ⟨trivial, ?_⟩
  refine WL.store hS27 3 rfl [(0, (sv A23 (f1 ++ [t11]) c24))] #[(sv A23 (f1 ++ [t11]) c24)] (fun fb => by kernel_rfl) (by kernel_rfl) rfl [0, 1, 2, 4, 5] (by decide) (by decide) (fun w28 hS29 => ?_)
  refine ⟨trivial, ?_⟩
  refine WL.done rfl (WX.next ?_)
  refine WC.ret ?_
  injection hf with hf
  subst hf
  exact WX.thenR (WX.ret_ [] (.tuple #[]) [] (fun fb => by kernel_rfl) trivial ⟨_, rfl, A23, c24, (updH Ha f1.length (hd1 A16 c17)), Ac, cc, rfl, (hS29.sub [0, 2, 1, 4, 5] (by decide)).noR⟩)
 refine WC.condF2 (fun fb => by kernel_rfl) h8 ?_
 refine WC.skip (WX.next (WC.seq (WC.region ?_)))
 refine seg 3 [.v (sv Ab f2 cb)] [0, 2, 3, 4, 5, 18, 19, 20] [(0, (iv p0)), (2, (pt gb)), (3, (pt gc)), (4, (pt gd)), (5, (pt ge)), (18, (sv Ab f2 cb)), (19, (iv (f2.length : Int))), (20, (iv 0))] [.cell ⟨gc, 0, none⟩ (sv Ab f2 cb)] (fun fb => by kernel_rfl) rfl ⟨blk_cell (hS.rd 1).1 0 rfl, trivial⟩ ?_
 refine WL.done rfl (WX.next ?_)
 obtain ⟨x43, hx44, hf⟩ := bind_some hf
 refine WC.cutN (T := ((List Row) × (List Int)) × (Option Addr) × Nat × (Nat → HF) × (Option Addr) × Nat) (fun t => [(2, (pt gb)), (4, (pt gd))]) (fun t w1 => St (fpL [blk gb (.cells #[(sv Aa f1 ca)] 68 (0, 0)), rowO 74 encN_Row Aa ca (tag Ha f1), poolO [nestO subN_Row Ha f1], blk gd (.cells #[(sv Ac f3 cc)] 23 (0, 0)), rowO 3 encInt Ac cc f3]) w w1 [blk ga (.cells #[(iv f0)] 3 (0, 0)), blk gc (.cells #[(sv Ab f2 cb)] 22 (0, 0)), rowR enc_Tile Ab cb f2, blk ge (.cells #[(.func (.func 63) #[] #[(pt ga), (pt gb), (pt gc), (pt gd), (pt ge)])] 105 (0, 0))] [blk gb (.cells #[(sv t.2.1 t.1.1 t.2.2.1)] 68 (0, 0)), rowO 74 encN_Row t.2.1 t.2.2.1 (tag t.2.2.2.1 t.1.1), poolO [nestO subN_Row t.2.2.2.1 t.1.1], blk gd (.cells #[(sv t.2.2.2.2.1 t.1.2 t.2.2.2.2.2)] 23 (0, 0)), rowO 3 encInt t.2.2.2.2.1 t.2.2.2.2.2 t.1.2] ∧ x43 = t.1) (fun Kx43 => ?_) ?_
 ·
  refine WC.block ?_
  refine WC.loop (T := ((List Row) × (List Int) × Int) × (Option Addr) × Nat × (Nat → HF) × (Option Addr) × Nat) (fun t => [(0, (iv p0)), (2, (pt gb)), (3, (pt gc)), (4, (pt gd)), (5, (pt ge)), (18, (sv Ab f2 cb)), (19, (iv (f2.length : Int))), (20, (iv t.1.2.2))]) (fun n t w1 => St (fpL [blk gb (.cells #[(sv Aa f1 ca)] 68 (0, 0)), rowO 74 encN_Row Aa ca (tag Ha f1), poolO [nestO subN_Row Ha f1], blk gd (.cells #[(sv Ac f3 cc)] 23 (0, 0)), rowO 3 encInt Ac cc f3]) w w1 [blk ga (.cells #[(iv f0)] 3 (0, 0)), blk gc (.cells #[(sv Ab f2 cb)] 22 (0, 0)), rowR enc_Tile Ab cb f2, blk ge (.cells #[(.func (.func 63) #[] #[(pt ga), (pt gb), (pt gc), (pt gd), (pt ge)])] 105 (0, 0))] [blk gb (.cells #[(sv t.2.1 t.1.1 t.2.2.1)] 68 (0, 0)), rowO 74 encN_Row t.2.1 t.2.2.1 (tag t.2.2.2.1 t.1.1), poolO [nestO subN_Row t.2.2.2.1 t.1.1], blk gd (.cells #[(sv t.2.2.2.2.1 t.1.2.1 t.2.2.2.2.2)] 23 (0, 0)), rowO 3 encInt t.2.2.2.2.1 t.2.2.2.2.2 t.1.2.1] ∧ rows_All_1.l0 n t.1.1 t.1.2.1 t.1.2.2 p0 f0 f2 rc_ = some x43) k ((f1, f3, 0), Aa, ca, Ha, Ac, cc) [0, 2, 3, 4, 5, 18, 19, 20] rfl ⟨(hS.subR [0, 1, 2, 3]).sub [0, 1, 2, 3, 4] (by decide), hx44⟩ ?_
  rintro k45 ⟨⟨l32, l36, x37⟩, A30, c31, H33, A34, c35⟩ w46 ⟨hS47, hl48⟩
  cases k45 with
  | zero => rw [rows_All_1.l0] at hl48; cases hl48
  | succ k45 =>
   rw [rows_All_1.l0] at hl48
   refine WC.seq (WC.region ?_)
   refine seg 1 [] [0, 2, 3, 4, 5, 18, 19, 20, 21] [(0, (iv p0)), (2, (pt gb)), (3, (pt gc)), (4, (pt gd)), (5, (pt ge)), (18, (sv Ab f2 cb)), (19, (iv (f2.length : Int))), (20, (iv x37)), (21, (bv (decide (x37 < (f2.length : Int)))))] [] (fun fb => by kernel_rfl) rfl trivial ?_
   refine WL.done rfl (WX.next (WC.seq ?_))
   rcases br_some hl48 with ⟨h49, hl48⟩ | ⟨h49, hl48⟩
   ·refine WC.condT2 (fun fb => by kernel_rfl) h49 ?_
    refine WC.skip (WX.next (WC.seq (WC.block (WC.seq (WC.region ?_)))))
    refine seg 1 [] [0, 2, 3, 4, 5, 18, 19, 20, 22] [(0, (iv p0)), (2, (pt gb)), (3, (pt gc)), (4, (pt gd)), (5, (pt ge)), (18, (sv Ab f2 cb)), (19, (iv (f2.length : Int))), (20, (iv x37)), (22, (iv x37))] [] (fun fb => by kernel_rfl) rfl trivial ?_
    obtain ⟨h50, hl48⟩ := as_some hl48
    refine seg 3 [.v (iv ((rdD f2 x37 z_Tile).N)), .v (iv ((rdD f2 x37 z_Tile).E)), .v (iv ((rdD f2 x37 z_Tile).S)), .v (iv ((rdD f2 x37 z_Tile).W))] [0, 2, 3, 4, 5, 18, 19, 20, 22, 24] [(0, (iv p0)), (2, (pt gb)), (3, (pt gc)), (4, (pt gd)), (5, (pt ge)), (18, (sv Ab f2 cb)), (19, (iv (f2.length : Int))), (20, (iv x37)), (22, (iv x37)), (24, (.agg #[(iv ((rdD f2 x37 z_Tile).N)), (iv ((rdD f2 x37 z_Tile).E)), (iv ((rdD f2 x37 z_Tile).S)), (iv ((rdD f2 x37 z_Tile).W))]))] [.idx Ab x37 f2.length, .cell ((adr Ab).add ((x37).toNat * 4)) (iv ((rdD f2 x37 z_Tile).N)), .cell (((adr Ab).add ((x37).toNat * 4)).add 1) (iv ((rdD f2 x37 z_Tile).E)), .cell (((adr Ab).add ((x37).toNat * 4)).add 2) (iv ((rdD f2 x37 z_Tile).S)), .cell (((adr Ab).add ((x37).toNat * 4)).add 3) (iv ((rdD f2 x37 z_Tile).W))] (fun fb => by kernel_rfl) rfl ⟨rowR.adr (hS47.rd 2).1 h50.1 h50.2, rowR.cell (hS47.rd 2).1 z_Tile h50.1 h50.2 0 rfl, rowR.cell (hS47.rd 2).1 z_Tile h50.1 h50.2 1 rfl, rowR.cell (hS47.rd 2).1 z_Tile h50.1 h50.2 2 rfl, rowR.cell (hS47.rd 2).1 z_Tile h50.1 h50.2 3 rfl, trivial⟩ ?_
    refine WL.new hS47 8 [] (fun g => (pt g)) (.cells #[(iv 0), (iv 0), (iv 0), (iv 0)] 37 (0, 0)) [] (fun fb g => by kernel_rfl) trivial (fun g51 w52 hS53 => ?_)
    refine ⟨trivial, ?_⟩
    refine seg 5 [] [0, 2, 3, 4, 5, 7, 8, 18, 19, 20, 24] [(0, (iv p0)), (2, (pt gb)), (3, (pt gc)), (4, (pt gd)), (5, (pt ge)), (7, (iv x37)), (8, (pt g51)), (18, (sv Ab f2 cb)), (19, (iv (f2.length : Int))), (20, (iv x37)), (24, (.agg #[(iv ((rdD f2 x37 z_Tile).N)), (iv ((rdD f2 x37 z_Tile).E)), (iv ((rdD f2 x37 z_Tile).S)), (iv ((rdD f2 x37 z_Tile).W))]))] [] (fun fb => by kernel_rfl) rfl trivial ?_
    refine WL.store hS53 0 rfl [(0, (iv ((rdD f2 x37 z_Tile).N))), (1, (iv ((rdD f2 x37 z_Tile).E))), (2, (iv ((rdD f2 x37 z_Tile).S))), (3, (iv ((rdD f2 x37 z_Tile).W)))] #[(iv ((rdD f2 x37 z_Tile).N)), (iv ((rdD f2 x37 z_Tile).E)), (iv ((rdD f2 x37 z_Tile).S)), (iv ((rdD f2 x37 z_Tile).W))] (fun fb => by kernel_rfl) (by kernel_rfl) rfl [1, 2, 3, 4, 5] (by decide) (by decide) (fun w54 hS55 => ?_)
    refine ⟨trivial, ?_⟩
    refine WL.done rfl (WX.next (WC.seq ?_))
    obtain ⟨x56, hx57, hl48⟩ := bind_some hl48
    refine WC.cutN (T := Bool) (fun t => [(0, (iv p0)), (2, (pt gb)), (3, (pt gc)), (4, (pt gd)), (5, (pt ge)), (7, (iv x37)), (18, (sv Ab f2 cb)), (19, (iv (f2.length : Int))), (20, (iv x37)), (40, (bv t))]) (fun t w1 => St (fpL [blk gb (.cells #[(sv Aa f1 ca)] 68 (0, 0)), rowO 74 encN_Row Aa ca (tag Ha f1), poolO [nestO subN_Row Ha f1], blk gd (.cells #[(sv Ac f3 cc)] 23 (0, 0)), rowO 3 encInt Ac cc f3]) w w1 [blk ga (.cells #[(iv f0)] 3 (0, 0)), blk gc (.cells #[(sv Ab f2 cb)] 22 (0, 0)), rowR enc_Tile Ab cb f2, blk ge (.cells #[(.func (.func 63) #[] #[(pt ga), (pt gb), (pt gc), (pt gd), (pt ge)])] 105 (0, 0))] [blk gb (.cells #[(sv A30 l32 c31)] 68 (0, 0)), rowO 74 encN_Row A30 c31 (tag H33 l32), poolO [nestO subN_Row H33 l32], blk gd (.cells #[(sv A34 l36 c35)] 23 (0, 0)), rowO 3 encInt A34 c35 l36] ∧ x56 = t) (fun Kx56 => ?_) ?_
    ·
     rcases br_some hx57 with ⟨h58, hx57⟩ | ⟨h58, hx57⟩
     ·
      refine WC.regionD ([], [0, 1, 2, 3, 4, 5, 6, 7, 8, 9, 10, 11, 12, 13, 14, 15], [[], [0], [0, 1], [0, 1, 2], [0, 1, 2], [0, 1, 2], [0, 1, 2, 5], [0, 1, 2, 4, 5, 6], [0, 1, 2, 4, 5, 6, 7], [0, 1, 2, 3, 4, 5, 6, 7, 8], [0, 1, 2, 3, 4, 5, 6, 7, 8, 9], [0, 1, 2, 3, 4, 5, 6, 7, 8, 9, 10], [0, 1, 2], [0, 1, 2, 12], [0, 1, 2, 3, 4, 5, 6, 7, 8, 9, 10, 11, 12, 13], [0, 1, 2, 3, 4, 5, 6, 7, 8, 9, 10, 11, 12, 13, 14]]) [[0, 1, 2, 3, 4, 5, 6, 7, 8, 9, 10, 11, 12, 13, 14, 15]] (by kernel_rfl) (by kernel_rfl) (NoPanic.seq (NoPanic.block (NoPanic.seq (NoPanic.seq (NoPanic.block (NoPanic.body)))))) ?_
      have hS60 := hS55.drew
      revert hS60
      generalize World.drew w54 = w59
      intro hS60
      refine ⟨trivial, forallC ?_ (forallN)⟩
      refine seg 3 [] [0, 2, 3, 4, 5, 7, 8, 18, 19, 20, 27] [(0, (iv p0)), (2, (pt gb)), (3, (pt gc)), (4, (pt gd)), (5, (pt ge)), (7, (iv x37)), (8, (pt g51)), (18, (sv Ab f2 cb)), (19, (iv (f2.length : Int))), (20, (iv x37)), (27, (bv (p0 == 0)))] [] (fun fb => by kernel_rfl) rfl trivial ?_
      refine WL.setB 27 h58 rfl ?_
      refine seg 16 [] [0, 2, 3, 4, 5, 7, 18, 19, 20, 40] [(0, (iv p0)), (2, (pt gb)), (3, (pt gc)), (4, (pt gd)), (5, (pt ge)), (7, (iv x37)), (18, (sv Ab f2 cb)), (19, (iv (f2.length : Int))), (20, (iv x37)), (40, (bv true))] [] (fun fb => by kernel_rfl) rfl trivial ?_
      refine WL.done rfl ?_
      injection hx57 with hx57
      exact WX.to Kx56 true [0, 2, 3, 4, 5, 7, 18, 19, 20, 40] rfl ⟨(hS60.subR [0, 1, 2, 3]).sub [1, 2, 3, 4, 5] (by decide), hx57.symm⟩
     obtain ⟨h65, hx57⟩ := as_some hx57
     obtain ⟨h66, hx57⟩ := as_some hx57
     refine WC.regionD ([(3, ⟨gc, 0, none⟩, (sv Ab f2 cb)), (4, ⟨gd, 0, none⟩, (sv A34 l36 c35)), (8, ((adr A34).add ((w64 (p0 - 1)).toNat * 1)), (iv (rdD l36 (w64 (p0 - 1)) 0))), (11, (((adr Ab).add (((rdD l36 (w64 (p0 - 1)) 0)).toNat * 4)).add 1), (iv ((rdD f2 (rdD l36 (w64 (p0 - 1)) 0) z_Tile).E))), (13, ⟨g51, 3, none⟩, (iv ((rdD f2 x37 z_Tile).W)))], [0, 1, 2, 3, 4, 5, 6, 7, 8, 9, 10, 11, 12, 13, 14, 15], [[], [0], [0, 1], [0, 1, 2], [0, 1, 2], [0, 1, 2], [0, 1, 2, 5], [0, 1, 2, 4, 5, 6], [0, 1, 2, 4, 5, 6, 7], [0, 1, 2, 3, 4, 5, 6, 7, 8], [0, 1, 2, 3, 4, 5, 6, 7, 8, 9], [0, 1, 2, 3, 4, 5, 6, 7, 8, 9, 10], [0, 1, 2], [0, 1, 2, 12], [0, 1, 2, 3, 4, 5, 6, 7, 8, 9, 10, 11, 12, 13], [0, 1, 2, 3, 4, 5, 6, 7, 8, 9, 10, 11, 12, 13, 14]]) [[0, 1, 2, 3, 4, 5, 6, 7, 8, 9, 10, 11, 12, 13, 14, 15]] (by kernel_rfl) (by kernel_rfl) (NoPanic.seq (NoPanic.block (NoPanic.seq (NoPanic.seq (NoPanic.block (NoPanic.body)))))) ?_
     have hS62 := hS55.drew
     revert hS62
     generalize World.drew w54 = w61
     intro hS62
     refine ⟨⟨blk_cell (hS62.rd 1).1 0 rfl, hS62.cell 4 rfl 0 rfl, rowR.cell (rowO.rd (hS62.own 5).1) 0 h65.1 h65.2 0 rfl, rowR.cell (hS62.rd 2).1 z_Tile h66.1 h66.2 1 rfl, hS62.cell 0 rfl 3 rfl, trivial⟩, forallC ?_ (forallN)⟩
     refine seg 3 [] [0, 2, 3, 4, 5, 7, 8, 18, 19, 20, 27] [(0, (iv p0)), (2, (pt gb)), (3, (pt gc)), (4, (pt gd)), (5, (pt ge)), (7, (iv x37)), (8, (pt g51)), (18, (sv Ab f2 cb)), (19, (iv (f2.length : Int))), (20, (iv x37)), (27, (bv (p0 == 0)))] [] (fun fb => by kernel_rfl) rfl trivial ?_
     refine WL.setB 27 h58 rfl ?_
     refine segF 16 [.v (sv Ab f2 cb), .v (sv A34 l36 c35), .v (iv (rdD l36 (w64 (p0 - 1)) 0)), .v (iv ((rdD f2 (rdD l36 (w64 (p0 - 1)) 0) z_Tile).E)), .v (iv ((rdD f2 x37 z_Tile).W))] [0, 2, 3, 4, 5, 7, 18, 19, 20, 40] [(0, (iv p0)), (2, (pt gb)), (3, (pt gc)), (4, (pt gd)), (5, (pt ge)), (7, (iv x37)), (18, (sv Ab f2 cb)), (19, (iv (f2.length : Int))), (20, (iv x37)), (40, (bv (((rdD f2 (rdD l36 (w64 (p0 - 1)) 0) z_Tile).E) == ((rdD f2 x37 z_Tile).W))))] [.idx A34 (w64 (p0 - 1)) l36.length, .idx Ab (rdD l36 (w64 (p0 - 1)) 0) f2.length] [0, 1, 2, 3, 4] [(3, ⟨gc, 0, none⟩, (sv Ab f2 cb)), (4, ⟨gd, 0, none⟩, (sv A34 l36 c35)), (8, ((adr A34).add ((w64 (p0 - 1)).toNat * 1)), (iv (rdD l36 (w64 (p0 - 1)) 0))), (11, (((adr Ab).add (((rdD l36 (w64 (p0 - 1)) 0)).toNat * 4)).add 1), (iv ((rdD f2 (rdD l36 (w64 (p0 - 1)) 0) z_Tile).E))), (13, ⟨g51, 3, none⟩, (iv ((rdD f2 x37 z_Tile).W)))] (fun fb => by kernel_rfl) rfl ⟨rowR.adr (rowO.rd (hS62.own 5).1) h65.1 h65.2, rowR.adr (hS62.rd 2).1 h66.1 h66.2, trivial⟩ rfl ?_
     refine WL.done rfl ?_
     injection hx57 with hx57
     exact WX.to Kx56 (((rdD f2 (rdD l36 (w64 (p0 - 1)) 0) z_Tile).E) == ((rdD f2 x37 z_Tile).W)) [0, 2, 3, 4, 5, 7, 18, 19, 20, 40] rfl ⟨(hS62.subR [0, 1, 2, 3]).sub [1, 2, 3, 4, 5] (by decide), hx57.symm⟩
    rintro y70 w67 ⟨hS68, hq69⟩
    subst hq69
    refine WX.next ?_
    obtain ⟨x76, hx77, hl48⟩ := bind_some hl48
    refine WC.cutN (T := ((List Row) × (List Int)) × (Option Addr) × Nat × (Nat → HF) × (Option Addr) × Nat) (fun t => [(0, (iv p0)), (2, (pt gb)), (3, (pt gc)), (4, (pt gd)), (5, (pt ge)), (18, (sv Ab f2 cb)), (19, (iv (f2.length : Int))), (20, (iv x37))]) (fun t w1 => St (fpL [blk gb (.cells #[(sv Aa f1 ca)] 68 (0, 0)), rowO 74 encN_Row Aa ca (tag Ha f1), poolO [nestO subN_Row Ha f1], blk gd (.cells #[(sv Ac f3 cc)] 23 (0, 0)), rowO 3 encInt Ac cc f3]) w w1 [blk ga (.cells #[(iv f0)] 3 (0, 0)), blk gc (.cells #[(sv Ab f2 cb)] 22 (0, 0)), rowR enc_Tile Ab cb f2, blk ge (.cells #[(.func (.func 63) #[] #[(pt ga), (pt gb), (pt gc), (pt gd), (pt ge)])] 105 (0, 0))] [blk gb (.cells #[(sv t.2.1 t.1.1 t.2.2.1)] 68 (0, 0)), rowO 74 encN_Row t.2.1 t.2.2.1 (tag t.2.2.2.1 t.1.1), poolO [nestO subN_Row t.2.2.2.1 t.1.1], blk gd (.cells #[(sv t.2.2.2.2.1 t.1.2 t.2.2.2.2.2)] 23 (0, 0)), rowO 3 encInt t.2.2.2.2.1 t.2.2.2.2.2 t.1.2] ∧ x76 = t.1) (fun Kx76 => ?_) ?_
    ·
     rcases br_some hx77 with ⟨h78, hx77⟩ | ⟨h78, hx77⟩
     ·refine WC.condT2 (fun fb => by kernel_rfl) h78 ?_
      refine WC.seq (WC.region ?_)
      refine seg 3 [.v (sv A34 l36 c35)] [0, 2, 3, 4, 5, 18, 19, 20, 41, 42, 43] [(0, (iv p0)), (2, (pt gb)), (3, (pt gc)), (4, (pt gd)), (5, (pt ge)), (18, (sv Ab f2 cb)), (19, (iv (f2.length : Int))), (20, (iv x37)), (41, (sv A34 l36 c35)), (42, (iv p0)), (43, (iv x37))] [.cell ⟨gd, 0, none⟩ (sv A34 l36 c35)] (fun fb => by kernel_rfl) rfl ⟨hS68.cell 3 rfl 0 rfl, trivial⟩ ?_
      obtain ⟨h79, hx77⟩ := as_some hx77
      refine seg 4 [] [0, 2, 3, 4, 5, 18, 19, 20, 43, 44] [(0, (iv p0)), (2, (pt gb)), (3, (pt gc)), (4, (pt gd)), (5, (pt ge)), (18, (sv Ab f2 cb)), (19, (iv (f2.length : Int))), (20, (iv x37)), (43, (iv x37)), (44, (.pointer (some ((adr A34).add ((p0).toNat * 1)))))] [.idx A34 p0 l36.length] (fun fb => by kernel_rfl) rfl ⟨rowR.adr (rowO.rd (hS68.own 4).1) h79.1 h79.2, trivial⟩ ?_
      refine WL.storeRow hS68 4 rfl (p0) (x37) (0) [(0, (iv x37))] (fun fb => by kernel_rfl) h79.1 h79.2 (by kernel_rfl) rfl [0, 1, 2, 3] (by decide) (by decide) (fun w80 hS81 => ?_)
      refine ⟨trivial, ?_⟩
      have hS82 : St (fpL [blk gb (.cells #[(.slice Aa f1.length ca)] 68 (0, 0)), rowO 74 encN_Row Aa ca (tag Ha f1), poolO [nestO subN_Row Ha f1], blk gd (.cells #[(.slice Ac f3.length cc)] 23 (0, 0)), rowO 3 encInt Ac cc f3]) w w80 [blk ga (.cells #[(iv f0)] 3 (0, 0)), blk gc (.cells #[(.slice Ab f2.length cb)] 22 (0, 0)), rowR enc_Tile Ab cb f2, blk ge (.cells #[(.func (.func 63) #[] #[(pt ga), (pt gb), (pt gc), (pt gd), (pt ge)])] 105 (0, 0))] [rowO 3 encInt A34 c35 (l36.set (p0).toNat x37), blk gb (.cells #[(.slice A30 l32.length c31)] 68 (0, 0)), rowO 74 encN_Row A30 c31 (tag H33 l32), poolO [nestO subN_Row H33 l32], blk gd (.cells #[(.slice A34 (l36.set (p0).toNat x37).length c35)] 23 (0, 0))] := by simpa only [List.length_set] using (show St (fpL [blk gb (.cells #[(.slice Aa f1.length ca)] 68 (0, 0)), rowO 74 encN_Row Aa ca (tag Ha f1), poolO [nestO subN_Row Ha f1], blk gd (.cells #[(.slice Ac f3.length cc)] 23 (0, 0)), rowO 3 encInt Ac cc f3]) w w80 [blk ga (.cells #[(iv f0)] 3 (0, 0)), blk gc (.cells #[(.slice Ab f2.length cb)] 22 (0, 0)), rowR enc_Tile Ab cb f2, blk ge (.cells #[(.func (.func 63) #[] #[(pt ga), (pt gb), (pt gc), (pt gd), (pt ge)])] 105 (0, 0))] [rowO 3 encInt A34 c35 (l36.set (p0).toNat x37), blk gb (.cells #[(.slice A30 l32.length c31)] 68 (0, 0)), rowO 74 encN_Row A30 c31 (tag H33 l32), poolO [nestO subN_Row H33 l32], blk gd (.cells #[(.slice A34 l36.length c35)] 23 (0, 0))] from hS81)
      refine WL.done rfl (WX.next (WC.region ?_))
      refine seg 3 [.v (.func (.func 63) #[] #[(pt ga), (pt gb), (pt gc), (pt gd), (pt ge)])] [0, 2, 3, 4, 5, 18, 19, 20, 45, 47] [(0, (iv p0)), (2, (pt gb)), (3, (pt gc)), (4, (pt gd)), (5, (pt ge)), (18, (sv Ab f2 cb)), (19, (iv (f2.length : Int))), (20, (iv x37)), (45, (.func (.func 63) #[] #[(pt ga), (pt gb), (pt gc), (pt gd), (pt ge)])), (47, (iv (w64 (p0 + 1))))] [.cell ⟨ge, 0, none⟩ (.func (.func 63) #[] #[(pt ga), (pt gb), (pt gc), (pt gd), (pt ge)])] (fun fb => by kernel_rfl) rfl ⟨blk_cell (hS82.rd 3).1 0 rfl, trivial⟩ ?_
      obtain ⟨t83, ht84, hx77⟩ := bind_some hx77
      refine WL.call (some 48) 63 #[(iv (w64 (p0 + 1))), (pt ga), (pt gb), (pt gc), (pt gd), (pt ge)] (fun fb => by kernel_rfl) (ih_ (w64 (p0 + 1)) f0 l32 f2 (l36.set (p0).toNat x37) ga gb A30 c31 H33 gc Ab cb gd A34 c35 ge t83 _ (hS82.rdT [1, 2, 3, 4, 0] 0) (hS82.rdT [1, 2, 3, 4, 0] 1) (hS82.rdT [1, 2, 3, 4, 0] 2) (hS82.rdT [1, 2, 3, 4, 0] 3) (hS82.io [1, 2, 3, 4, 0] (by decide)) ht84) (fun v w85 hR86 => ?_)
      obtain ⟨A88, c89, H90, A91, c92, rfl, hk_⟩ := hR86
      have hS87 := hS.go w85 [blk gb (.cells #[(sv A88 t83.1 c89)] 68 (0, 0)), rowO 74 encN_Row A88 c89 (tag H90 t83.1), poolO [nestO subN_Row H90 t83.1], blk gd (.cells #[(sv A91 t83.2 c92)] 23 (0, 0)), rowO 3 encInt A91 c92 t83.2] (hS82.call hk_ [1, 2, 3, 4, 0] [] (fun g hg => fpL_sel g hg) (by decide) (by decide))
      refine ⟨trivial, ?_⟩
      refine WL.done rfl ?_
      injection hx77 with hx77
      exact WX.to Kx76 ((t83.1, t83.2), A88, c89, H90, A91, c92) [0, 2, 3, 4, 5, 18, 19, 20] rfl ⟨(hS87.subR [0, 1, 2, 3]).sub [0, 1, 2, 3, 4] (by decide), hx77.symm⟩
     refine WC.condF2 (fun fb => by kernel_rfl) h78 ?_
     refine WC.skip ?_
     injection hx77 with hx77
     exact WX.to Kx76 ((l32, l36), A30, c31, H33, A34, c35) [0, 2, 3, 4, 5, 18, 19, 20] rfl ⟨(hS68.subR [0, 1, 2, 3]).sub [0, 1, 2, 3, 4] (by decide), hx77.symm⟩
    rintro ⟨y96, A71, c72, H73, A74, c75⟩ w93 ⟨hS94, hq95⟩
    subst hq95
    refine WX.blockN (WX.next ?_)
    refine WC.region ?_
    refine seg 2 [] [0, 2, 3, 4, 5, 18, 19, 20] [(0, (iv p0)), (2, (pt gb)), (3, (pt gc)), (4, (pt gd)), (5, (pt ge)), (18, (sv Ab f2 cb)), (19, (iv (f2.length : Int))), (20, (iv (w64 (x37 + 1))))] [] (fun fb => by kernel_rfl) rfl trivial ?_
    refine WL.done rfl ?_
    exact WX.again k45 (Nat.lt_succ_self _) ((x76.1, x76.2, w64 (x37 + 1)), A71, c72, H73, A74, c75) [0, 2, 3, 4, 5, 18, 19, 20] rfl ⟨(hS94.subR [0, 1, 2, 3]).sub [0, 1, 2, 3, 4] (by decide), hl48⟩
   refine WC.condF2 (fun fb => by kernel_rfl) h49 ?_
   refine WC.exit ?_
   injection hl48 with hl48
   exact WX.thenX (WX.thenX (WX.blockHere (WX.to Kx43 ((l32, l36), A30, c31, H33, A34, c35) [2, 4] rfl ⟨(hS47.subR [0, 1, 2, 3]).sub [0, 1, 2, 3, 4] (by decide), hl48.symm⟩)))
 rintro ⟨y100, A38, c39, H40, A41, c42⟩ w97 ⟨hS98, hq99⟩
 subst hq99
 injection hf with hf
 subst hf
 exact WX.end_ [] (.tuple #[]) [] (fun fb => by kernel_rfl) trivial ⟨_, rfl, A38, c39, H40, A41, c42, rfl, (hS98.sub [0, 1, 2, 3, 4] (by decide)).noR⟩
end Gp
