/- Walks: each function of the program computes its plain function. -/
import Derived.Test.YtdjkmioemobdbaaGreatGx1
set_option linter.unusedVariables false
set_option linter.unusedSimpArgs false
set_option maxHeartbeats 4000000
set_option maxRecDepth 8000
namespace Gp
open Go Gw Go.Proofs
theorem slices_IndexFunc_int_int_with_beatty_primesOf_2_calls (k : Nat) (p0 : List Int) (p1_0 : Int) (Aa : Option Addr) (ca : Nat) (ga : Nat) (r : Int) (w : World) (hR0 : RO NoS w (rowR encInt Aa ca p0)) (hR1 : RO NoS w (blk ga (.cells #[(iv p1_0)] 3 (0, 0)))) (hf : slices_IndexFunc_int_int_with_beatty_primesOf_2 k p0 p1_0 = some r) :
  CallsR Tryz.prog 95 #[(sv Aa p0 ca), (.func (.func 73) #[] #[(pt ga)])] w (fun v w' => v = (iv r) ∧ Keeps NoS w w') := by
 have hS : St NoS w w [rowR encInt Aa ca p0, blk ga (.cells #[(iv p1_0)] 3 (0, 0))] [] := St.init (ro_cons hR0 (ro_cons hR1 (ro_nil _ _)))
 refine enter 19 Tryz.func95 rfl Tryz.ntmps95 rfl ?_
 unfold slices_IndexFunc_int_int_with_beatty_primesOf_2 at hf
 refine WC.seq (WC.region ?_)
 refine sg 1 [] [0, 1] [(0, (sv Aa p0 ca)), (1, (.func (.func 73) #[] #[(pt ga)]))] (by kernel_rfl) ?_
 refine WL.done rfl (WX.next (WC.seq (WC.seq (WC.region ?_))))
 refine sg 3 [] [0, 1, 7, 8] [(0, (sv Aa p0 ca)), (1, (.func (.func 73) #[] #[(pt ga)])), (7, (iv (p0.length : Int))), (8, (iv 0))] (by kernel_rfl) ?_
 refine WL.done rfl (WX.next ?_)
 obtain ⟨x4, hx5, hf⟩ := bind_some hf
 let e1 : Nat × Value := (7, (iv (p0.length : Int)))
 let e2 : Nat × Value := (0, (sv Aa p0 ca))
 refine WC.cutN (T := Unit) (fun t => []) (fun t w1 => St NoS w w1 [rowR encInt Aa ca p0, blk ga (.cells #[(iv p1_0)] 3 (0, 0))] [] ∧ x4 = .inr t) (fun Kx4 => ?_) ?_
 ·
  refine WC.block ?_
  refine WC.loop (T := Int) (fun t => [e2, (1, (.func (.func 73) #[] #[(pt ga)])), e1, (8, (iv t))]) (fun n t w1 => St NoS w w1 [rowR encInt Aa ca p0, blk ga (.cells #[(iv p1_0)] 3 (0, 0))] [] ∧ slices_IndexFunc_int_int_with_beatty_primesOf_2.l0 n t p0 p1_0 = some x4) k 0 [0, 1, 7, 8] rfl ⟨(hS.subR [0, 1]).sub [] (by decide), hx5⟩ ?_
  rintro k6 x3 w7 ⟨hS8, hl9⟩
  cases k6 with
  | zero => rw [slices_IndexFunc_int_int_with_beatty_primesOf_2.l0] at hl9; cases hl9
  | succ k6 =>
   rw [slices_IndexFunc_int_int_with_beatty_primesOf_2.l0] at hl9
   refine WC.seq (WC.region ?_)
   refine sg 1 [] [0, 1, 7, 8, 9] [e2, (1, (.func (.func 73) #[] #[(pt ga)])), e1, (8, (iv x3)), (9, (bv (decide (x3 < (p0.length : Int)))))] (by kernel_rfl) ?_
   refine WL.done rfl (WX.next (WC.seq ?_))
   rcases br_some hl9 with ⟨h10, hl9⟩ | ⟨h10, hl9⟩
   ·refine WC.condT2 (fun fb => by kernel_rfl) h10 ?_
    refine WC.skip (WX.next (WC.seq (WC.block (WC.seq (WC.region ?_)))))
    refine sg 2 [] [0, 1, 5, 7, 8] [e2, (1, (.func (.func 73) #[] #[(pt ga)])), (5, (iv x3)), e1, (8, (iv x3))] (by kernel_rfl) ?_
    refine WL.done rfl (WX.next (WC.seq (WC.region ?_)))
    refine sg 3 [] [0, 1, 5, 7, 8, 11, 12, 13] [e2, (1, (.func (.func 73) #[] #[(pt ga)])), (5, (iv x3)), e1, (8, (iv x3)), (11, (.func (.func 73) #[] #[(pt ga)])), (12, (sv Aa p0 ca)), (13, (iv x3))] (by kernel_rfl) ?_
    obtain ⟨h11, hl9⟩ := as_some hl9
    refine seg 5 [.v (iv (rdD p0 x3 0))] [0, 1, 5, 7, 8, 11, 15] [e2, (1, (.func (.func 73) #[] #[(pt ga)])), (5, (iv x3)), e1, (8, (iv x3)), (11, (.func (.func 73) #[] #[(pt ga)])), (15, (iv (rdD p0 x3 0)))] [.idx Aa x3 p0.length, .cell ((adr Aa).add ((x3).toNat * 1)) (iv (rdD p0 x3 0))] (fun fb => by kernel_rfl) rfl ⟨rowR.adr (hS8.rd 0).1 h11.1 h11.2, rowR.cell (hS8.rd 0).1 0 h11.1 h11.2 0 rfl, trivial⟩ ?_
    obtain ⟨t12, ht13, hl9⟩ := bind_some hl9
    refine WL.call (some 16) 73 #[(iv (rdD p0 x3 0)), (pt ga)] (fun fb => by kernel_rfl) (beatty_primesOf_2_calls (rdD p0 x3 0) p1_0 ga t12 _ (hS8.rd 1) ht13) (fun v w14 hR15 => ?_)
    obtain ⟨rfl, hk_⟩ := hR15
    have hS16 := hS8.keepN hk_
    refine ⟨trivial, ?_⟩
    refine WL.done rfl (WX.next ?_)
    rcases br_some hl9 with ⟨h17, hl9⟩ | ⟨h17, hl9⟩
    ·refine WC.condT2 (fun fb => by kernel_rfl) h17 ?_
     refine WC.seq (WC.region ?_)
     refine sg 2 [] [4] [(4, (iv x3))] (by kernel_rfl) ?_
     refine WL.done rfl (WX.next ?_)
     refine WC.ret ?_
     injection hl9 with hl9
     subst hl9
     injection hf with hf
     subst hf
     exact WX.blockR (WX.thenR (WX.thenR (WX.blockR (WX.thenR (WX.ret_ [] (iv x3) [] (fun fb => by kernel_rfl) trivial ⟨_, rfl, rfl, hS16.keep⟩)))))
    refine WC.condF2 (fun fb => by kernel_rfl) h17 ?_
    refine WC.skip ?_
    refine WX.blockN (WX.next ?_)
    refine WC.region ?_
    refine sg 2 [] [0, 1, 7, 8] [e2, (1, (.func (.func 73) #[] #[(pt ga)])), e1, (8, (iv (w64 (x3 + 1))))] (by kernel_rfl) ?_
    refine WL.done rfl ?_
    exact WX.again k6 (Nat.lt_succ_self _) (w64 (x3 + 1)) [0, 1, 7, 8] rfl ⟨(hS16.subR [0, 1]).sub [] (by decide), hl9⟩
   refine WC.condF2 (fun fb => by kernel_rfl) h10 ?_
   refine WC.exit ?_
   injection hl9 with hl9
   exact WX.thenX (WX.thenX (WX.blockHere (WX.to Kx4 () [] rfl ⟨(hS8.subR [0, 1]).sub [] (by decide), hl9.symm⟩)))
 rintro y21 w18 ⟨hS19, hq20⟩
 subst hq20
 have hf := sum_inr hf
 refine WX.next (WC.seq (WC.region ?_))
 refine sg 1 [] [4] [(4, (iv (-1)))] (by kernel_rfl) ?_
 refine WL.done rfl (WX.next ?_)
 refine WC.ret ?_
 injection hf with hf
 subst hf
 exact WX.ret_ [] (iv (-1)) [] (fun fb => by kernel_rfl) trivial ⟨_, rfl, rfl, hS19.keep⟩
theorem slices_ContainsFunc_int_int_with_beatty_primesOf_2_calls (k : Nat) (p0 : List Int) (p1_0 : Int) (Aa : Option Addr) (ca : Nat) (ga : Nat) (r : Bool) (w : World) (hR0 : RO NoS w (rowR encInt Aa ca p0)) (hR1 : RO NoS w (blk ga (.cells #[(iv p1_0)] 3 (0, 0)))) (hf : slices_ContainsFunc_int_int_with_beatty_primesOf_2 k p0 p1_0 = some r) :
  CallsR Tryz.prog 71 #[(sv Aa p0 ca), (.func (.func 73) #[] #[(pt ga)])] w (fun v w' => v = (bv r) ∧ Keeps NoS w w') := by
 have hS : St NoS w w [rowR encInt Aa ca p0, blk ga (.cells #[(iv p1_0)] 3 (0, 0))] [] := St.init (ro_cons hR0 (ro_cons hR1 (ro_nil _ _)))
 refine enter 9 Tryz.func71 rfl Tryz.ntmps71 rfl ?_
 unfold slices_ContainsFunc_int_int_with_beatty_primesOf_2 at hf
 refine WC.seq (WC.region ?_)
 refine sg 1 [] [0, 1] [(0, (sv Aa p0 ca)), (1, (.func (.func 73) #[] #[(pt ga)]))] (by kernel_rfl) ?_
 refine WL.done rfl (WX.next (WC.seq (WC.region ?_)))
 refine sg 2 [] [5, 6] [(5, (sv Aa p0 ca)), (6, (.func (.func 73) #[] #[(pt ga)]))] (by kernel_rfl) ?_
 obtain ⟨t3, ht4, hf⟩ := bind_some hf
 refine WL.call (some 7) 95 #[(sv Aa p0 ca), (.func (.func 73) #[] #[(pt ga)])] (fun fb => by kernel_rfl) (slices_IndexFunc_int_int_with_beatty_primesOf_2_calls _ p0 p1_0 Aa ca ga t3 _ (hS.rd 0) (hS.rd 1) ht4) (fun v w5 hR6 => ?_)
 obtain ⟨rfl, hk_⟩ := hR6
 have hS7 := hS.keepN hk_
 refine ⟨trivial, ?_⟩
 refine sg 5 [] [4] [(4, (bv (decide (t3 ≥ 0))))] (by kernel_rfl) ?_
 refine WL.done rfl (WX.next ?_)
 refine WC.ret ?_
 injection hf with hf
 subst hf
 exact WX.ret_ [] (bv (decide (t3 ≥ 0))) [] (fun fb => by kernel_rfl) trivial ⟨_, rfl, rfl, hS7.keep⟩
theorem beatty_primesOf_calls (k : Nat) (p0 : List Int) (Aa : Option Addr) (ca : Nat) (r : (List Int)) (w : World) (hR0 : RO NoS w (rowR encInt Aa ca p0)) (hf : beatty_primesOf k p0 = some r) :
  CallsR Tryz.prog 46 #[(sv Aa p0 ca)] w (fun v w' => ∃ (A1_ : Option Addr), ∃ (c1_ : Nat), v = (sv A1_ r c1_) ∧ St NoS w w' [] [rowO 3 encInt A1_ c1_ r]) := by
 have hS : St NoS w w [rowR encInt Aa ca p0] [] := St.init (ro_cons hR0 (ro_nil _ _))
 refine enter 39 Tryz.func46 rfl Tryz.ntmps46 rfl ?_
 unfold beatty_primesOf at hf
 refine WC.seq (WC.region ?_)
 refine sg 1 [] [0] [(0, (sv Aa p0 ca))] (by kernel_rfl) ?_
 refine WL.done rfl (WX.next (WC.seq (WC.region ?_)))
 refine sg 1 [] [0, 3] [(0, (sv Aa p0 ca)), (3, (.slice none 0 0))] (by kernel_rfl) ?_
 refine WL.done rfl (WX.next (WC.seq (WC.seq (WC.region ?_))))
 refine WL.new hS 4 [] (fun g => (pt g)) (.cells #[(iv 0)] 3 (0, 0)) [] (fun fb g => by kernel_rfl) trivial (fun g3 w4 hS5 => ?_)
 refine ⟨trivial, ?_⟩
 refine WL.store hS5 0 rfl [(0, (iv 2))] #[(iv 2)] (fun fb => by kernel_rfl) (by kernel_rfl) rfl [] (by decide) (by decide) (fun w6 hS7 => ?_)
 refine ⟨trivial, ?_⟩
 refine WL.done rfl (WX.next ?_)
 have hS8 := hS7.nilrow 3 encInt
 obtain ⟨x16, hx17, hf⟩ := bind_some hf
 let e1 : Nat × Value := (0, (sv Aa p0 ca))
 let e4 : List Own := [rowR encInt Aa ca p0]
 refine WC.cutN (T := (List Int) × (Option Addr) × Nat) (fun t => [(3, (sv t.2.1 t.1 t.2.2))]) (fun t w1 => St NoS w w1 e4 [rowO 3 encInt t.2.1 t.2.2 t.1] ∧ x16 = t.1) (fun Kx16 => ?_) ?_
 ·
  refine WC.block ?_
  refine WC.loop (T := ((List Int) × Int) × (Option Addr) × Nat × Nat) (fun t => [e1, (3, (sv t.2.1 t.1.1 t.2.2.1)), (4, (.pointer (some ⟨t.2.2.2, 0, none⟩)))]) (fun n t w1 => St NoS w w1 e4 [rowO 3 encInt t.2.1 t.2.2.1 t.1.1, blk t.2.2.2 (.cells #[(iv t.1.2)] 3 (0, 0))] ∧ beatty_primesOf.l0 n t.1.1 t.1.2 p0 = some x16) k ((([] : List Int), 2), none, 0, g3) [0, 3, 4] rfl ⟨(hS8.subR [0]).sub [0, 1] (by decide), hx17⟩ ?_
  rintro k18 ⟨⟨l11, x13⟩, A9, c10, g12⟩ w19 ⟨hS20, hl21⟩
  let e2 : Nat × Value := (3, (sv A9 l11 c10))
  let e3 : Nat × Value := (4, (pt g12))
  cases k18 with
  | zero => rw [beatty_primesOf.l0] at hl21; cases hl21
  | succ k18 =>
   rw [beatty_primesOf.l0] at hl21
   refine WC.seq (WC.seq (WC.region ?_))
   refine seg 2 [.v (iv x13)] [0, 3, 4, 8] [e1, e2, e3, (8, (bv (decide (x13 ≤ 12))))] [.cell ⟨g12, 0, none⟩ (iv x13)] (fun fb => by kernel_rfl) rfl ⟨hS20.cell 1 rfl 0 rfl, trivial⟩ ?_
   refine WL.done rfl (WX.next ?_)
   rcases br_some hl21 with ⟨h22, hl21⟩ | ⟨h22, hl21⟩
   ·refine WC.condT2 (fun fb => by kernel_rfl) h22 ?_
    refine WC.skip (WX.next (WC.seq (WC.block (WC.seq (WC.region ?_)))))
    refine sg 2 [] [0, 3, 4, 11, 12] [e1, e2, e3, (11, (sv A9 l11 c10)), (12, (.func (.func 72) #[] #[(pt g12)]))] (by kernel_rfl) ?_
    obtain ⟨t23, ht24, hl21⟩ := bind_some hl21
    refine WL.call (some 13) 71 #[(sv A9 l11 c10), (.func (.func 72) #[] #[(pt g12)])] (fun fb => by kernel_rfl) (slices_ContainsFunc_int_int_with_beatty_primesOf_1_calls _ l11 x13 A9 c10 g12 t23 _ (hS20.ow 0).ofO (hS20.ow 1) ht24) (fun v w25 hR26 => ?_)
    obtain ⟨rfl, hk_⟩ := hR26
    have hS27 := hS20.keepN hk_
    refine ⟨trivial, ?_⟩
    refine sg 5 [] [0, 3, 4, 5] [e1, e2, e3, (5, (bv (!t23)))] (by kernel_rfl) ?_
    refine WL.done rfl (WX.next (WC.seq (WC.seq (WC.region ?_))))
    refine sg 1 [] [0, 3, 4, 5, 6] [e1, e2, e3, (5, (bv (!t23))), (6, (iv 2))] (by kernel_rfl) ?_
    refine WL.done rfl (WX.next ?_)
    obtain ⟨x30, hx31, hl21⟩ := bind_some hl21
    refine WC.cutN (T := Bool) (fun t => [e1, e2, e3, (5, (bv t))]) (fun t w1 => St NoS w w1 e4 [rowO 3 encInt A9 c10 l11, blk g12 (.cells #[(iv x13)] 3 (0, 0))] ∧ x30 = t) (fun Kx30 => ?_) ?_
    ·
     refine WC.block ?_
     refine WC.loop (T := Bool × Int) (fun t => [e1, e2, e3, (5, (bv t.1)), (6, (iv t.2))]) (fun n t w1 => St NoS w w1 e4 [rowO 3 encInt A9 c10 l11, blk g12 (.cells #[(iv x13)] 3 (0, 0))] ∧ beatty_primesOf.l1 n t.1 t.2 x13 = some x30) k18 (!t23, 2) [0, 3, 4, 5, 6] rfl ⟨(hS27.subR [0]).sub [0, 1] (by decide), hx31⟩ ?_
     rintro k32 ⟨b28, x29⟩ w33 ⟨hS34, hl35⟩
     let e5 : Nat × Value := (6, (iv x29))
     cases k32 with
     | zero => rw [beatty_primesOf.l1] at hl35; cases hl35
     | succ k32 =>
      rw [beatty_primesOf.l1] at hl35
      refine WC.seq (WC.seq (WC.region ?_))
      refine seg 3 [.v (iv x13)] [0, 3, 4, 5, 6, 17] [e1, e2, e3, (5, (bv b28)), e5, (17, (bv (decide (x29 < x13))))] [.cell ⟨g12, 0, none⟩ (iv x13)] (fun fb => by kernel_rfl) rfl ⟨hS34.cell 1 rfl 0 rfl, trivial⟩ ?_
      refine WL.done rfl (WX.next ?_)
      rcases br_some hl35 with ⟨h36, hl35⟩ | ⟨h36, hl35⟩
      ·refine WC.condT2 (fun fb => by kernel_rfl) h36 ?_
       refine WC.skip (WX.next (WC.seq (WC.block (WC.region ?_))))
       refine sg 2 [] [0, 3, 4, 6, 21] [e1, e2, e3, e5, (21, (bv b28))] (by kernel_rfl) ?_
       obtain ⟨b37, hv38, hl35⟩ := bind_some hl35
       refine WL.cutV (T := Unit) 7 (fun t => [(26, (bv b37)), e1, e2, e3, e5]) (fun t => True) (fun K => ?_) ?_
       ·
        rcases br_some hv38 with ⟨h39, hv38⟩ | ⟨h39, hv38⟩
        ·
         refine WL.setB 21 h39 rfl ?_
         refine seg 4 [.v (iv x13)] [0, 3, 4, 6, 21, 22, 23] [e1, e2, e3, e5, (21, (bv true)), (22, (iv x13)), (23, (iv x29))] [.cell ⟨g12, 0, none⟩ (iv x13)] (fun fb => by kernel_rfl) rfl ⟨hS34.cell 1 rfl 0 rfl, trivial⟩ ?_
         obtain ⟨h40, hv38⟩ := as_some hv38
         refine seg 7 [] [0, 3, 4, 6, 26] [e1, e2, e3, e5, (26, (bv ((Int.tmod x13 x29) != 0)))] [.ne x29] (fun fb => by kernel_rfl) rfl ⟨h40, trivial⟩ ?_
         injection hv38 with hv38
         subst hv38
         exact WL.toV K () [26, 0, 3, 4, 6] rfl trivial
        refine WL.setB 21 h39 rfl ?_
        refine sg 7 [] [0, 3, 4, 6, 26] [e1, e2, e3, e5, (26, (bv false))] (by kernel_rfl) ?_
        injection hv38 with hv38
        subst hv38
        exact WL.toV K () [26, 0, 3, 4, 6] rfl trivial
       rintro _ _
       refine sg 8 [] [0, 3, 4, 5, 6] [e1, e2, e3, (5, (bv b37)), e5] (by kernel_rfl) ?_
       refine WL.done rfl ?_
       refine WX.blockN (WX.next ?_)
       refine WC.region ?_
       refine sg 3 [] [0, 3, 4, 5, 6] [e1, e2, e3, (5, (bv b37)), (6, (iv (w64 (x29 + 1))))] (by kernel_rfl) ?_
       refine WL.done rfl ?_
       exact WX.again k32 (Nat.lt_succ_self _) (b37, w64 (x29 + 1)) [0, 3, 4, 5, 6] rfl ⟨(hS34.subR [0]).sub [0, 1] (by decide), hl35⟩
      refine WC.condF2 (fun fb => by kernel_rfl) h36 ?_
      refine WC.exit ?_
      injection hl35 with hl35
      exact WX.thenX (WX.thenX (WX.blockHere (WX.to Kx30 b28 [0, 3, 4, 5] rfl ⟨(hS34.subR [0]).sub [0, 1] (by decide), hl35.symm⟩)))
    rintro y44 w41 ⟨hS42, hq43⟩
    subst hq43
    refine WX.next (WC.seq (WC.region ?_))
    refine sg 2 [] [0, 3, 4, 28] [e1, e2, e3, (28, (bv x30))] (by kernel_rfl) ?_
    obtain ⟨x45, hx47, hl21⟩ := bind_some hl21
    refine WL.cutW (T := Bool) 6 (fun t => [e1, e2, e3, (32, (bv t))]) (fun t w1 => (St NoS w w1 e4 [rowO 3 encInt A9 c10 l11, blk g12 (.cells #[(iv x13)] 3 (0, 0))] ∧ x45 = t) ∧ CellsOK [] w1) (fun K => ?_) ?_
    ·
     rcases br_some hx47 with ⟨h48, hx47⟩ | ⟨h48, hx47⟩
     ·
      refine WL.setB 28 h48 rfl ?_
      refine sg 4 [] [0, 3, 4, 28, 29, 30] [e1, e2, e3, (28, (bv true)), (29, (sv Aa p0 ca)), (30, (.func (.func 73) #[] #[(pt g12)]))] (by kernel_rfl) ?_
      obtain ⟨t49, ht50, hx47⟩ := bind_some hx47
      refine WL.call (some 31) 71 #[(sv Aa p0 ca), (.func (.func 73) #[] #[(pt g12)])] (fun fb => by kernel_rfl) (slices_ContainsFunc_int_int_with_beatty_primesOf_2_calls _ p0 x13 Aa ca g12 t49 _ (hS42.rd 0) (hS42.ow 1) ht50) (fun v w51 hR52 => ?_)
      obtain ⟨rfl, hk_⟩ := hR52
      have hS53 := hS42.keepN hk_
      refine ⟨trivial, ?_⟩
      refine sg 6 [] [0, 3, 4, 32] [e1, e2, e3, (32, (bv t49))] (by kernel_rfl) ?_
      injection hx47 with hx47
      exact WL.to K t49 [0, 3, 4, 32] rfl ⟨⟨(hS53.subR [0]).sub [0, 1] (by decide), hx47.symm⟩, trivial⟩
     refine WL.setB 28 h48 rfl ?_
     refine sg 6 [] [0, 3, 4, 32] [e1, e2, e3, (32, (bv false))] (by kernel_rfl) ?_
     injection hx47 with hx47
     exact WL.to K false [0, 3, 4, 32] rfl ⟨⟨(hS42.subR [0]).sub [0, 1] (by decide), hx47.symm⟩, trivial⟩
    rintro y54 w56 ⟨⟨hS57, hq55⟩, hF58⟩
    subst hq55
    refine WL.done rfl (WX.next ?_)
    obtain ⟨x61, hx62, hl21⟩ := bind_some hl21
    refine WC.cutN (T := (List Int) × (Option Addr) × Nat) (fun t => [e1, (3, (sv t.2.1 t.1 t.2.2)), e3]) (fun t w1 => St NoS w w1 e4 [rowO 3 encInt t.2.1 t.2.2 t.1, blk g12 (.cells #[(iv x13)] 3 (0, 0))] ∧ x61 = t.1) (fun Kx61 => ?_) ?_
    ·
     rcases br_some hx62 with ⟨h63, hx62⟩ | ⟨h63, hx62⟩
     ·refine WC.condT2 (fun fb => by kernel_rfl) h63 ?_
      refine WC.region ?_
      refine seg 2 [.v (iv x13)] [0, 4, 33, 34] [e1, e3, (33, (sv A9 l11 c10)), (34, (iv x13))] [.cell ⟨g12, 0, none⟩ (iv x13)] (fun fb => by kernel_rfl) rfl ⟨hS57.cell 1 rfl 0 rfl, trivial⟩ ?_
      refine WL.new hS57 35 [] (fun g => (.slice (some ⟨g, 0, none⟩) 1 1)) (.cells #[(iv x13)] 3 (0, 0)) [] (fun fb g => by kernel_rfl) trivial (fun g65 w66 hS67 => ?_)
      refine ⟨trivial, ?_⟩
      have hS68 := hS.go w66 [rowO 3 encInt (some ⟨g65, 0, none⟩) 1 [x13], rowO 3 encInt A9 c10 l11, blk g12 (.cells #[(iv x13)] 3 (0, 0))] (hS67.map1 0 _ (fun h => rowO.ofBlk h rfl (Nat.le_of_ble_eq_true (by kernel_rfl))) (fun _ h => by obtain ⟨_, h1, h2⟩ := h; injection h1 with h1; subst h1; exact h2) [1, 2] (by decide) (by decide))
      obtain ⟨h69, hx62⟩ := as_some hx62
      refine WL.append hS68 1 (d := 36) (tS := 35) (z := (iv 0)) (bytes := 8) (c2 := 1) rfl (fun fb => by kernel_rfl) (rowO.rd (hS68.own 0).1) (by kernel_rfl) (by kernel_rfl) rfl (by decide) h69 (by decide) [0, 2] (by decide) (by decide) (fun A70 c71 w72 hS73 => ?_)
      refine ⟨trivial, ?_⟩
      refine sg 5 [] [0, 3, 4] [e1, (3, (sv A70 (l11 ++ [x13]) c71)), e3] (by kernel_rfl) ?_
      refine WL.done rfl ?_
      injection hx62 with hx62
      exact WX.to Kx61 (l11 ++ [x13], A70, c71) [0, 3, 4] rfl ⟨(hS73.subR [0]).sub [0, 2] (by decide), hx62.symm⟩
     refine WC.condF2 (fun fb => by kernel_rfl) h63 ?_
     refine WC.skip ?_
     injection hx62 with hx62
     exact WX.to Kx61 (l11, A9, c10) [0, 3, 4] rfl ⟨(hS57.subR [0]).sub [0, 1] (by decide), hx62.symm⟩
    rintro ⟨y77, A59, c60⟩ w74 ⟨hS75, hq76⟩
    subst hq76
    refine WX.blockN (WX.next ?_)
    refine WC.seq (WC.seq (WC.region ?_))
    refine seg 1 [.v (iv x13)] [0, 3, 37] [e1, (3, (sv A59 x61 c60)), (37, (iv x13))] [.cell ⟨g12, 0, none⟩ (iv x13)] (fun fb => by kernel_rfl) rfl ⟨hS75.cell 1 rfl 0 rfl, trivial⟩ ?_
    refine WL.done rfl (WX.next (WC.region ?_))
    refine WL.new hS75 4 [] (fun g => (pt g)) (.cells #[(iv 0)] 3 (0, 0)) [] (fun fb g => by kernel_rfl) trivial (fun g78 w79 hS80 => ?_)
    refine ⟨trivial, ?_⟩
    refine WL.store hS80 0 rfl [(0, (iv x13))] #[(iv x13)] (fun fb => by kernel_rfl) (by kernel_rfl) rfl [1, 2] (by decide) (by decide) (fun w81 hS82 => ?_)
    refine ⟨trivial, ?_⟩
    refine WL.done rfl (WX.next (WC.region ?_))
    refine seg 2 [.v (iv x13)] [0, 3, 4, 10] [e1, (3, (sv A59 x61 c60)), (4, (pt g78)), (10, (iv (w64 (x13 + 1))))] [.cell ⟨g78, 0, none⟩ (iv x13)] (fun fb => by kernel_rfl) rfl ⟨hS82.cell 0 rfl 0 rfl, trivial⟩ ?_
    refine WL.store hS82 0 rfl [(0, (iv (w64 (x13 + 1))))] #[(iv (w64 (x13 + 1)))] (fun fb => by kernel_rfl) (by kernel_rfl) rfl [1, 2] (by decide) (by decide) (fun w83 hS84 => ?_)
    refine ⟨trivial, ?_⟩
    refine WL.done rfl ?_
    exact WX.again k18 (Nat.lt_succ_self _) ((x61, w64 (x13 + 1)), A59, c60, g78) [0, 3, 4] rfl ⟨(hS84.subR [0]).sub [1, 0] (by decide), hl21⟩
   refine WC.condF2 (fun fb => by kernel_rfl) h22 ?_
   refine WC.exit ?_
   injection hl21 with hl21
   exact WX.thenX (WX.thenX (WX.blockHere (WX.to Kx16 (l11, A9, c10) [3] rfl ⟨(hS20.subR [0]).sub [0] (by decide), hl21.symm⟩)))
 rintro ⟨y88, A14, c15⟩ w85 ⟨hS86, hq87⟩
 subst hq87
 refine WX.next (WC.seq (WC.region ?_))
 refine sg 2 [] [2] [(2, (sv A14 x16 c15))] (by kernel_rfl) ?_
 refine WL.done rfl (WX.next ?_)
 refine WC.ret ?_
 injection hf with hf
 subst hf
 exact WX.ret_ [] (sv A14 x16 c15) [] (fun fb => by kernel_rfl) trivial ⟨_, rfl, A14, c15, rfl, (hS86.sub [0] (by decide)).noR⟩
theorem beatty_exponents_calls (k : Nat) (p0 : Frac) (p1 : List Int) (Aa : Option Addr) (ca : Nat) (r : (List Int)) (w : World) (hR0 : RO NoS w (rowR encInt Aa ca p1)) (hf : beatty_exponents k p0 p1 = some r) :
  CallsR Tryz.prog 74 #[(.agg #[(iv p0.Num), (iv p0.Den)]), (sv Aa p1 ca)] w (fun v w' => ∃ (A1_ : Option Addr), ∃ (c1_ : Nat), v = (sv A1_ r c1_) ∧ St NoS w w' [] [rowO 3 encInt A1_ c1_ r]) := by
 have hS : St NoS w w [rowR encInt Aa ca p1] [] := St.init (ro_cons hR0 (ro_nil _ _))
 refine enter 45 Tryz.func74 rfl Tryz.ntmps74 rfl ?_
 unfold beatty_exponents at hf
 refine WC.seq (WC.region ?_)
 refine WL.new hS 2 [] (fun g => (pt g)) (.cells #[(iv p0.Num), (iv p0.Den)] 44 (0, 0)) [] (fun fb g => by kernel_rfl) trivial (fun g3 w4 hS5 => ?_)
 refine ⟨trivial, ?_⟩
 refine sg 2 [] [1, 2] [(1, (sv Aa p1 ca)), (2, (pt g3))] (by kernel_rfl) ?_
 refine WL.done rfl (WX.next (WC.seq (WC.region ?_)))
 refine sg 1 [] [1, 2, 5] [(1, (sv Aa p1 ca)), (2, (pt g3)), (5, (.slice none 0 0))] (by kernel_rfl) ?_
 refine WL.done rfl (WX.next (WC.seq (WC.seq (WC.region ?_))))
 refine sg 3 [] [2, 5, 11, 12, 13] [(2, (pt g3)), (5, (.slice none 0 0)), (11, (sv Aa p1 ca)), (12, (iv (p1.length : Int))), (13, (iv 0))] (by kernel_rfl) ?_
 refine WL.done rfl (WX.next ?_)
 have hS6 := hS5.nilrow 3 encInt
 obtain ⟨x13, hx14, hf⟩ := bind_some hf
 let e1 : Nat × Value := (12, (iv (p1.length : Int)))
 let e2 : Nat × Value := (11, (sv Aa p1 ca))
 let e6 : Nat × Value := (2, (pt g3))
 let e8 : Array Value := #[(iv p0.Num), (iv p0.Den)]
 let e9 : List Nat := [2, 5, 7, 8, 10, 11, 12, 13]
 let e10 : List Nat := [2, 5, 7, 8, 9, 11, 12, 13]
 let e11 : List Own := [rowR encInt Aa ca p1]
 refine WC.cutN (T := (List Int) × (Option Addr) × Nat) (fun t => [(5, (sv t.2.1 t.1 t.2.2))]) (fun t w1 => St NoS w w1 e11 [rowO 3 encInt t.2.1 t.2.2 t.1] ∧ x13 = t.1) (fun Kx13 => ?_) ?_
 ·
  refine WC.block ?_
  refine WC.loop (T := ((List Int) × Int) × (Option Addr) × Nat) (fun t => [e6, (5, (sv t.2.1 t.1.1 t.2.2)), e2, e1, (13, (iv t.1.2))]) (fun n t w1 => St NoS w w1 e11 [blk g3 (.cells e8 44 (0, 0)), rowO 3 encInt t.2.1 t.2.2 t.1.1] ∧ beatty_exponents.l0 n t.1.1 t.1.2 p0 p1 = some x13) k ((([] : List Int), 0), none, 0) [2, 5, 11, 12, 13] rfl ⟨(hS6.subR [0]).sub [1, 0] (by decide), hx14⟩ ?_
  rintro k15 ⟨⟨l9, x10⟩, A7, c8⟩ w16 ⟨hS17, hl18⟩
  let e3 := rdD p1 x10 0
  let e4 : Nat × Value := (5, (sv A7 l9 c8))
  let e5 : Nat × Value := (13, (iv x10))
  let e7 : Nat × Value := (7, (iv e3))
  cases k15 with
  | zero => rw [beatty_exponents.l0] at hl18; cases hl18
  | succ k15 =>
   rw [beatty_exponents.l0] at hl18
   refine WC.seq (WC.region ?_)
   refine sg 1 [] [2, 5, 11, 12, 13, 14] [e6, e4, e2, e1, e5, (14, (bv (decide (x10 < (p1.length : Int)))))] (by kernel_rfl) ?_
   refine WL.done rfl (WX.next (WC.seq ?_))
   rcases br_some hl18 with ⟨h19, hl18⟩ | ⟨h19, hl18⟩
   ·refine WC.condT2 (fun fb => by kernel_rfl) h19 ?_
    refine WC.skip (WX.next (WC.seq (WC.block (WC.seq (WC.region ?_)))))
    obtain ⟨h20, hl18⟩ := as_some hl18
    refine seg 3 [.v (iv e3)] [2, 5, 7, 11, 12, 13] [e6, e4, e7, e2, e1, e5] [.idx Aa x10 p1.length, .cell ((adr Aa).add ((x10).toNat * 1)) (iv e3)] (fun fb => by kernel_rfl) rfl ⟨rowR.adr (hS17.rd 0).1 h20.1 h20.2, rowR.cell (hS17.rd 0).1 0 h20.1 h20.2 0 rfl, trivial⟩ ?_
    refine WL.done rfl (WX.next (WC.seq (WC.region ?_)))
    refine sg 1 [] [2, 5, 7, 8, 11, 12, 13] [e6, e4, e7, (8, (iv 0)), e2, e1, e5] (by kernel_rfl) ?_
    refine WL.done rfl (WX.next (WC.seq (WC.seq (WC.region ?_))))
    refine seg 3 [.v (iv p0.Num)] e10 [e6, e4, e7, (8, (iv 0)), (9, (iv p0.Num)), e2, e1, e5] [.cell ⟨g3, 0, none⟩ (iv p0.Num)] (fun fb => by kernel_rfl) rfl ⟨hS17.cell 0 rfl 0 rfl, trivial⟩ ?_
    refine WL.done rfl (WX.next ?_)
    obtain ⟨x23, hx24, hl18⟩ := bind_some hl18
    refine WC.cutN (T := Int) (fun t => [e6, e4, e7, (8, (iv t)), e2, e1, e5]) (fun t w1 => St NoS w w1 e11 [blk g3 (.cells e8 44 (0, 0)), rowO 3 encInt A7 c8 l9] ∧ x23 = t) (fun Kx23 => ?_) ?_
    ·
     refine WC.block ?_
     refine WC.loop (T := Int × Int) (fun t => [e6, e4, e7, (8, (iv t.1)), (9, (iv t.2)), e2, e1, e5]) (fun n t w1 => St NoS w w1 e11 [blk g3 (.cells e8 44 (0, 0)), rowO 3 encInt A7 c8 l9] ∧ beatty_exponents.l1 n t.1 t.2 p1 x10 = some x23) k15 (0, p0.Num) e10 rfl ⟨(hS17.subR [0]).sub [0, 1] (by decide), hx24⟩ ?_
     rintro k25 ⟨x21, x22⟩ w26 ⟨hS27, hl28⟩
     cases k25 with
     | zero => rw [beatty_exponents.l1] at hl28; cases hl28
     | succ k25 =>
      rw [beatty_exponents.l1] at hl28
      refine WC.seq (WC.seq (WC.region ?_))
      refine sg 2 [] [2, 5, 7, 8, 9, 11, 12, 13, 19, 20] [e6, e4, e7, (8, (iv x21)), (9, (iv x22)), e2, e1, e5, (19, (iv x22)), (20, (iv e3))] (by kernel_rfl) ?_
      obtain ⟨h29, hl28⟩ := as_some hl28
      refine seg 4 [] [2, 5, 7, 8, 9, 11, 12, 13, 22] [e6, e4, e7, (8, (iv x21)), (9, (iv x22)), e2, e1, e5, (22, (bv ((Int.tmod x22 e3) == 0)))] [.ne e3] (fun fb => by kernel_rfl) rfl ⟨h29, trivial⟩ ?_
      refine WL.done rfl (WX.next ?_)
      rcases br_some hl28 with ⟨h30, hl28⟩ | ⟨h30, hl28⟩
      ·refine WC.condT2 (fun fb => by kernel_rfl) h30 ?_
       refine WC.skip (WX.next (WC.seq (WC.block (WC.region ?_))))
       refine sg 3 [] e10 [e6, e4, e7, (8, (iv (w64 (x21 + 1)))), (9, (iv x22)), e2, e1, e5] (by kernel_rfl) ?_
       refine WL.done rfl ?_
       refine WX.blockN (WX.next ?_)
       refine WC.region ?_
       refine seg 4 [] e10 [e6, e4, e7, (8, (iv (w64 (x21 + 1)))), (9, (iv (w64 (Int.tdiv x22 e3)))), e2, e1, e5] [.ne e3] (fun fb => by kernel_rfl) rfl ⟨h29, trivial⟩ ?_
       refine WL.done rfl ?_
       exact WX.again k25 (Nat.lt_succ_self _) (w64 (x21 + 1), w64 (Int.tdiv x22 e3)) e10 rfl ⟨(hS27.subR [0]).sub [0, 1] (by decide), hl28⟩
      refine WC.condF2 (fun fb => by kernel_rfl) h30 ?_
      refine WC.exit ?_
      injection hl28 with hl28
      exact WX.thenX (WX.thenX (WX.blockHere (WX.to Kx23 x21 [2, 5, 7, 8, 11, 12, 13] rfl ⟨(hS27.subR [0]).sub [0, 1] (by decide), hl28.symm⟩)))
    rintro y34 w31 ⟨hS32, hq33⟩
    subst hq33
    refine WX.next (WC.seq (WC.seq (WC.region ?_)))
    refine seg 3 [.v (iv p0.Den)] e9 [e6, e4, e7, (8, (iv x23)), (10, (iv p0.Den)), e2, e1, e5] [.cell ⟨g3, 1, none⟩ (iv p0.Den)] (fun fb => by kernel_rfl) rfl ⟨hS32.cell 0 rfl 1 rfl, trivial⟩ ?_
    refine WL.done rfl (WX.next ?_)
    obtain ⟨x37, hx38, hl18⟩ := bind_some hl18
    refine WC.cutN (T := Int) (fun t => [e6, e4, (8, (iv t)), e2, e1, e5]) (fun t w1 => St NoS w w1 e11 [blk g3 (.cells e8 44 (0, 0)), rowO 3 encInt A7 c8 l9] ∧ x37 = t) (fun Kx37 => ?_) ?_
    ·
     refine WC.block ?_
     refine WC.loop (T := Int × Int) (fun t => [e6, e4, e7, (8, (iv t.1)), (10, (iv t.2)), e2, e1, e5]) (fun n t w1 => St NoS w w1 e11 [blk g3 (.cells e8 44 (0, 0)), rowO 3 encInt A7 c8 l9] ∧ beatty_exponents.l2 n t.1 t.2 p1 x10 = some x37) k15 (x23, p0.Den) e9 rfl ⟨(hS32.subR [0]).sub [0, 1] (by decide), hx38⟩ ?_
     rintro k39 ⟨x35, x36⟩ w40 ⟨hS41, hl42⟩
     cases k39 with
     | zero => rw [beatty_exponents.l2] at hl42; cases hl42
     | succ k39 =>
      rw [beatty_exponents.l2] at hl42
      refine WC.seq (WC.seq (WC.region ?_))
      refine sg 2 [] [2, 5, 7, 8, 10, 11, 12, 13, 30, 31] [e6, e4, e7, (8, (iv x35)), (10, (iv x36)), e2, e1, e5, (30, (iv x36)), (31, (iv e3))] (by kernel_rfl) ?_
      obtain ⟨h43, hl42⟩ := as_some hl42
      refine seg 4 [] [2, 5, 7, 8, 10, 11, 12, 13, 33] [e6, e4, e7, (8, (iv x35)), (10, (iv x36)), e2, e1, e5, (33, (bv ((Int.tmod x36 e3) == 0)))] [.ne e3] (fun fb => by kernel_rfl) rfl ⟨h43, trivial⟩ ?_
      refine WL.done rfl (WX.next ?_)
      rcases br_some hl42 with ⟨h44, hl42⟩ | ⟨h44, hl42⟩
      ·refine WC.condT2 (fun fb => by kernel_rfl) h44 ?_
       refine WC.skip (WX.next (WC.seq (WC.block (WC.region ?_))))
       refine sg 3 [] e9 [e6, e4, e7, (8, (iv (w64 (x35 - 1)))), (10, (iv x36)), e2, e1, e5] (by kernel_rfl) ?_
       refine WL.done rfl ?_
       refine WX.blockN (WX.next ?_)
       refine WC.region ?_
       refine seg 4 [] e9 [e6, e4, e7, (8, (iv (w64 (x35 - 1)))), (10, (iv (w64 (Int.tdiv x36 e3)))), e2, e1, e5] [.ne e3] (fun fb => by kernel_rfl) rfl ⟨h43, trivial⟩ ?_
       refine WL.done rfl ?_
       exact WX.again k39 (Nat.lt_succ_self _) (w64 (x35 - 1), w64 (Int.tdiv x36 e3)) e9 rfl ⟨(hS41.subR [0]).sub [0, 1] (by decide), hl42⟩
      refine WC.condF2 (fun fb => by kernel_rfl) h44 ?_
      refine WC.exit ?_
      injection hl42 with hl42
      exact WX.thenX (WX.thenX (WX.blockHere (WX.to Kx37 x35 [2, 5, 8, 11, 12, 13] rfl ⟨(hS41.subR [0]).sub [0, 1] (by decide), hl42.symm⟩)))
    rintro y48 w45 ⟨hS46, hq47⟩
    subst hq47
    refine WX.next (WC.region ?_)
    refine sg 2 [] [2, 11, 12, 13, 39, 40] [e6, e2, e1, e5, (39, (sv A7 l9 c8)), (40, (iv x37))] (by kernel_rfl) ?_
    refine WL.new hS46 41 [] (fun g => (.slice (some ⟨g, 0, none⟩) 1 1)) (.cells #[(iv x37)] 3 (0, 0)) [] (fun fb g => by kernel_rfl) trivial (fun g49 w50 hS51 => ?_)
    refine ⟨trivial, ?_⟩
    have hS52 := hS.go w50 [rowO 3 encInt (some ⟨g49, 0, none⟩) 1 [x37], blk g3 (.cells e8 44 (0, 0)), rowO 3 encInt A7 c8 l9] (hS51.map1 0 _ (fun h => rowO.ofBlk h rfl (Nat.le_of_ble_eq_true (by kernel_rfl))) (fun _ h => by obtain ⟨_, h1, h2⟩ := h; injection h1 with h1; subst h1; exact h2) [1, 2] (by decide) (by decide))
    obtain ⟨h53, hl18⟩ := as_some hl18
    refine WL.append hS52 2 (d := 42) (tS := 35) (z := (iv 0)) (bytes := 8) (c2 := 1) rfl (fun fb => by kernel_rfl) (rowO.rd (hS52.own 0).1) (by kernel_rfl) (by kernel_rfl) rfl (by decide) h53 (by decide) [0, 1] (by decide) (by decide) (fun A54 c55 w56 hS57 => ?_)
    refine ⟨trivial, ?_⟩
    refine sg 5 [] [2, 5, 11, 12, 13] [e6, (5, (sv A54 (l9 ++ [x37]) c55)), e2, e1, e5] (by kernel_rfl) ?_
    refine WL.done rfl ?_
    refine WX.blockN (WX.next ?_)
    refine WC.region ?_
    refine sg 2 [] [2, 5, 11, 12, 13] [e6, (5, (sv A54 (l9 ++ [x37]) c55)), e2, e1, (13, (iv (w64 (x10 + 1))))] (by kernel_rfl) ?_
    refine WL.done rfl ?_
    exact WX.again k15 (Nat.lt_succ_self _) ((l9 ++ [x37], w64 (x10 + 1)), A54, c55) [2, 5, 11, 12, 13] rfl ⟨(hS57.subR [0]).sub [2, 0] (by decide), hl18⟩
   refine WC.condF2 (fun fb => by kernel_rfl) h19 ?_
   refine WC.exit ?_
   injection hl18 with hl18
   exact WX.thenX (WX.thenX (WX.blockHere (WX.to Kx13 (l9, A7, c8) [5] rfl ⟨(hS17.subR [0]).sub [1] (by decide), hl18.symm⟩)))
 rintro ⟨y61, A11, c12⟩ w58 ⟨hS59, hq60⟩
 subst hq60
 refine WX.next (WC.seq (WC.region ?_))
 refine sg 2 [] [4] [(4, (sv A11 x13 c12))] (by kernel_rfl) ?_
 refine WL.done rfl (WX.next ?_)
 refine WC.ret ?_
 injection hf with hf
 subst hf
 exact WX.ret_ [] (sv A11 x13 c12) [] (fun fb => by kernel_rfl) trivial ⟨_, rfl, A11, c12, rfl, (hS59.sub [0] (by decide)).noR⟩
theorem beatty_lists_calls (p0 : Int)  (r : Unit) (w : World)  (hf : beatty_lists p0 = some r) :
  CallsR Tryz.prog 75 #[(iv p0)] w (fun v w' => ∃ (g1_ : Nat), v = (.func (.func 96) #[] #[(pt g1_)]) ∧ St NoS w w' [] [blk g1_ (.cells #[(iv p0)] 3 (0, 0))]) := by
 have hS : St NoS w w [] [] := St.init (ro_nil _ _)
 refine enter 4 Tryz.func75 rfl Tryz.ntmps75 rfl ?_
 unfold beatty_lists at hf
 refine WC.seq (WC.region ?_)
 refine WL.new hS 1 [] (fun g => (pt g)) (.cells #[(iv p0)] 3 (0, 0)) [] (fun fb g => by kernel_rfl) trivial (fun g2 w3 hS4 => ?_)
 refine ⟨trivial, ?_⟩
 refine sg 2 [] [1] [(1, (pt g2))] (by kernel_rfl) ?_
 refine WL.done rfl (WX.next (WC.seq (WC.region ?_)))
 refine sg 2 [] [2] [(2, (.func (.func 96) #[] #[(pt g2)]))] (by kernel_rfl) ?_
 refine WL.done rfl (WX.next ?_)
 refine WC.ret ?_
 injection hf with hf
 subst hf
 exact WX.ret_ [] (.func (.func 96) #[] #[(pt g2)]) [] (fun fb => by kernel_rfl) trivial ⟨_, rfl, g2, rfl, (hS4.sub [0] (by decide)).noR⟩
theorem beatty_logsOf_1_calls (k : Nat) (p0 : List Int) (f0 : List Int) (Aa : Option Addr) (ca : Nat) (ga : Nat) (Ab : Option Addr) (cb : Nat) (r : Bool) (w : World) (hR0 : RO NoS w (rowR encInt Aa ca p0)) (hR1 : RO NoS w (blk ga (.cells #[(sv Ab f0 cb)] 35 (0, 0)))) (hR2 : RO NoS w (rowR encInt Ab cb f0)) (hf : beatty_logsOf_1 k p0 f0 = some r) :
  CallsR Tryz.prog 77 #[(sv Aa p0 ca), (pt ga)] w (fun v w' => v = (bv r) ∧ Keeps NoS w w') := by
 have hS : St NoS w w [rowR encInt Aa ca p0, blk ga (.cells #[(sv Ab f0 cb)] 35 (0, 0)), rowR encInt Ab cb f0] [] := St.init (ro_cons hR0 (ro_cons hR1 (ro_cons hR2 (ro_nil _ _))))
 refine enter 25 Tryz.func77 rfl Tryz.ntmps77 rfl ?_
 unfold beatty_logsOf_1 at hf
 refine WC.seq (WC.region ?_)
 refine sg 1 [] [0, 1] [(0, (sv Aa p0 ca)), (1, (pt ga))] (by kernel_rfl) ?_
 refine WL.done rfl (WX.next (WC.seq (WC.region ?_)))
 refine sg 1 [] [0, 1, 4] [(0, (sv Aa p0 ca)), (1, (pt ga)), (4, (iv 0))] (by kernel_rfl) ?_
 refine WL.done rfl (WX.next (WC.seq (WC.seq (WC.region ?_))))
 refine sg 3 [] [1, 4, 7, 8, 9] [(1, (pt ga)), (4, (iv 0)), (7, (sv Aa p0 ca)), (8, (iv (p0.length : Int))), (9, (iv 0))] (by kernel_rfl) ?_
 refine WL.done rfl (WX.next ?_)
 obtain ⟨x5, hx6, hf⟩ := bind_some hf
 let e1 : Nat × Value := (8, (iv (p0.length : Int)))
 let e2 : Nat × Value := (7, (sv Aa p0 ca))
 let e4 : Nat × Value := (1, (pt ga))
 refine WC.cutN (T := Int) (fun t => [(4, (iv t))]) (fun t w1 => St NoS w w1 [rowR encInt Aa ca p0, blk ga (.cells #[(sv Ab f0 cb)] 35 (0, 0)), rowR encInt Ab cb f0] [] ∧ x5 = t) (fun Kx5 => ?_) ?_
 ·
  refine WC.block ?_
  refine WC.loop (T := Int × Int) (fun t => [e4, (4, (iv t.1)), e2, e1, (9, (iv t.2))]) (fun n t w1 => St NoS w w1 [rowR encInt Aa ca p0, blk ga (.cells #[(sv Ab f0 cb)] 35 (0, 0)), rowR encInt Ab cb f0] [] ∧ beatty_logsOf_1.l0 n t.1 t.2 p0 f0 = some x5) k (0, 0) [1, 4, 7, 8, 9] rfl ⟨(hS.subR [0, 1, 2]).sub [] (by decide), hx6⟩ ?_
  rintro k7 ⟨x3, x4⟩ w8 ⟨hS9, hl10⟩
  let e3 := x3 + (w64 ((rdD p0 x4 0) * (rdD f0 x4 0)))
  cases k7 with
  | zero => rw [beatty_logsOf_1.l0] at hl10; cases hl10
  | succ k7 =>
   rw [beatty_logsOf_1.l0] at hl10
   refine WC.seq (WC.region ?_)
   refine sg 1 [] [1, 4, 7, 8, 9, 10] [e4, (4, (iv x3)), e2, e1, (9, (iv x4)), (10, (bv (decide (x4 < (p0.length : Int)))))] (by kernel_rfl) ?_
   refine WL.done rfl (WX.next (WC.seq ?_))
   rcases br_some hl10 with ⟨h11, hl10⟩ | ⟨h11, hl10⟩
   ·refine WC.condT2 (fun fb => by kernel_rfl) h11 ?_
    refine WC.skip (WX.next (WC.seq (WC.block (WC.seq (WC.region ?_)))))
    refine sg 1 [] [1, 4, 7, 8, 9, 11] [e4, (4, (iv x3)), e2, e1, (9, (iv x4)), (11, (iv x4))] (by kernel_rfl) ?_
    obtain ⟨h12, hl10⟩ := as_some hl10
    refine seg 5 [.v (iv (rdD p0 x4 0))] [1, 4, 5, 6, 7, 8, 9] [e4, (4, (iv x3)), (5, (iv x4)), (6, (iv (rdD p0 x4 0))), e2, e1, (9, (iv x4))] [.idx Aa x4 p0.length, .cell ((adr Aa).add ((x4).toNat * 1)) (iv (rdD p0 x4 0))] (fun fb => by kernel_rfl) rfl ⟨rowR.adr (hS9.rd 0).1 h12.1 h12.2, rowR.cell (hS9.rd 0).1 0 h12.1 h12.2 0 rfl, trivial⟩ ?_
    refine WL.done rfl (WX.next (WC.region ?_))
    refine seg 4 [.v (sv Ab f0 cb)] [1, 7, 8, 9, 14, 15, 16, 17] [e4, e2, e1, (9, (iv x4)), (14, (iv x3)), (15, (iv (rdD p0 x4 0))), (16, (sv Ab f0 cb)), (17, (iv x4))] [.cell ⟨ga, 0, none⟩ (sv Ab f0 cb)] (fun fb => by kernel_rfl) rfl ⟨blk_cell (hS9.rd 1).1 0 rfl, trivial⟩ ?_
    obtain ⟨h13, hl10⟩ := as_some hl10
    refine seg 9 [.v (iv (rdD f0 x4 0))] [1, 4, 7, 8, 9] [e4, (4, (iv (w64 e3))), e2, e1, (9, (iv x4))] [.idx Ab x4 f0.length, .cell ((adr Ab).add ((x4).toNat * 1)) (iv (rdD f0 x4 0))] (fun fb => by kernel_rfl) rfl ⟨rowR.adr (hS9.rd 2).1 h13.1 h13.2, rowR.cell (hS9.rd 2).1 0 h13.1 h13.2 0 rfl, trivial⟩ ?_
    refine WL.done rfl ?_
    refine WX.blockN (WX.next ?_)
    refine WC.region ?_
    refine sg 2 [] [1, 4, 7, 8, 9] [e4, (4, (iv (w64 e3))), e2, e1, (9, (iv (w64 (x4 + 1))))] (by kernel_rfl) ?_
    refine WL.done rfl ?_
    exact WX.again k7 (Nat.lt_succ_self _) (w64 e3, w64 (x4 + 1)) [1, 4, 7, 8, 9] rfl ⟨(hS9.subR [0, 1, 2]).sub [] (by decide), hl10⟩
   refine WC.condF2 (fun fb => by kernel_rfl) h11 ?_
   refine WC.exit ?_
   injection hl10 with hl10
   exact WX.thenX (WX.thenX (WX.blockHere (WX.to Kx5 x3 [4] rfl ⟨(hS9.subR [0, 1, 2]).sub [] (by decide), hl10.symm⟩)))
 rintro y17 w14 ⟨hS15, hq16⟩
 subst hq16
 refine WX.next (WC.seq (WC.region ?_))
 refine sg 3 [] [3] [(3, (bv (decide (x5 ≤ 0))))] (by kernel_rfl) ?_
 refine WL.done rfl (WX.next ?_)
 refine WC.ret ?_
 injection hf with hf
 subst hf
 exact WX.ret_ [] (bv (decide (x5 ≤ 0))) [] (fun fb => by kernel_rfl) trivial ⟨_, rfl, rfl, hS15.keep⟩
theorem slices_IndexFunc_int_int_98_with_beatty_logsOf_1_calls (k : Nat) (p0 : List (List Int)) (p1_0 : List Int) (Aa : Option Addr) (ca : Nat) (Za : HF) (ga : Nat) (Ab : Option Addr) (cb : Nat) (r : Int) (w : World) (hR0 : RO NoS w (rowR (encSl Int) Aa ca (tag Za p0))) (hR1 : RO NoS w (rowsO 3 encInt Za p0)) (hR2 : RO NoS w (blk ga (.cells #[(sv Ab p1_0 cb)] 35 (0, 0)))) (hR3 : RO NoS w (rowR encInt Ab cb p1_0)) (hf : slices_IndexFunc_int_int_98_with_beatty_logsOf_1 k p0 p1_0 = some r) :
  CallsR Tryz.prog 98 #[(sv Aa p0 ca), (.func (.func 77) #[] #[(pt ga)])] w (fun v w' => v = (iv r) ∧ Keeps NoS w w') := by
 have hS : St NoS w w [rowR (encSl Int) Aa ca (tag Za p0), rowsO 3 encInt Za p0, blk ga (.cells #[(sv Ab p1_0 cb)] 35 (0, 0)), rowR encInt Ab cb p1_0] [] := St.init (ro_cons hR0 (ro_cons hR1 (ro_cons hR2 (ro_cons hR3 (ro_nil _ _)))))
 refine enter 19 Tryz.func98 rfl Tryz.ntmps98 rfl ?_
 unfold slices_IndexFunc_int_int_98_with_beatty_logsOf_1 at hf
 refine WC.seq (WC.region ?_)
 refine sg 1 [] [0, 1] [(0, (sv Aa p0 ca)), (1, (.func (.func 77) #[] #[(pt ga)]))] (by kernel_rfl) ?_
 refine WL.done rfl (WX.next (WC.seq (WC.seq (WC.region ?_))))
 refine sg 3 [] [0, 1, 7, 8] [(0, (sv Aa p0 ca)), (1, (.func (.func 77) #[] #[(pt ga)])), (7, (iv (p0.length : Int))), (8, (iv 0))] (by kernel_rfl) ?_
 refine WL.done rfl (WX.next ?_)
 obtain ⟨x5, hx6, hf⟩ := bind_some hf
 let e2 : Nat × Value := (7, (iv (p0.length : Int)))
 let e3 : Nat × Value := (0, (sv Aa p0 ca))
 refine WC.cutN (T := Unit) (fun t => []) (fun t w1 => St NoS w w1 [rowR (encSl Int) Aa ca (tag Za p0), rowsO 3 encInt Za p0, blk ga (.cells #[(sv Ab p1_0 cb)] 35 (0, 0)), rowR encInt Ab cb p1_0] [] ∧ x5 = .inr t) (fun Kx5 => ?_) ?_
 ·
  refine WC.block ?_
  refine WC.loop (T := Int) (fun t => [e3, (1, (.func (.func 77) #[] #[(pt ga)])), e2, (8, (iv t))]) (fun n t w1 => St NoS w w1 [rowR (encSl Int) Aa ca (tag Za p0), rowsO 3 encInt Za p0, blk ga (.cells #[(sv Ab p1_0 cb)] 35 (0, 0)), rowR encInt Ab cb p1_0] [] ∧ slices_IndexFunc_int_int_98_with_beatty_logsOf_1.l0 n t p0 p1_0 = some x5) k 0 [0, 1, 7, 8] rfl ⟨(hS.subR [0, 1, 2, 3]).sub [] (by decide), hx6⟩ ?_
  rintro k7 x4 w8 ⟨hS9, hl10⟩
  let e1 := sv ((Za x4.toNat).1) (rdD p0 x4 []) ((Za x4.toNat).2)
  cases k7 with
  | zero => rw [slices_IndexFunc_int_int_98_with_beatty_logsOf_1.l0] at hl10; cases hl10
  | succ k7 =>
   rw [slices_IndexFunc_int_int_98_with_beatty_logsOf_1.l0] at hl10
   refine WC.seq (WC.region ?_)
   refine sg 1 [] [0, 1, 7, 8, 9] [e3, (1, (.func (.func 77) #[] #[(pt ga)])), e2, (8, (iv x4)), (9, (bv (decide (x4 < (p0.length : Int)))))] (by kernel_rfl) ?_
   refine WL.done rfl (WX.next (WC.seq ?_))
   rcases br_some hl10 with ⟨h11, hl10⟩ | ⟨h11, hl10⟩
   ·refine WC.condT2 (fun fb => by kernel_rfl) h11 ?_
    refine WC.skip (WX.next (WC.seq (WC.block (WC.seq (WC.region ?_)))))
    refine sg 2 [] [0, 1, 5, 7, 8] [e3, (1, (.func (.func 77) #[] #[(pt ga)])), (5, (iv x4)), e2, (8, (iv x4))] (by kernel_rfl) ?_
    refine WL.done rfl (WX.next (WC.seq (WC.region ?_)))
    refine sg 3 [] [0, 1, 5, 7, 8, 11, 12, 13] [e3, (1, (.func (.func 77) #[] #[(pt ga)])), (5, (iv x4)), e2, (8, (iv x4)), (11, (.func (.func 77) #[] #[(pt ga)])), (12, (sv Aa p0 ca)), (13, (iv x4))] (by kernel_rfl) ?_
    obtain ⟨h12, hl10⟩ := as_some hl10
    refine seg 5 [.v e1] [0, 1, 5, 7, 8, 11, 15] [e3, (1, (.func (.func 77) #[] #[(pt ga)])), (5, (iv x4)), e2, (8, (iv x4)), (11, (.func (.func 77) #[] #[(pt ga)])), (15, e1)] [.idx Aa x4 p0.length, .cell ((adr Aa).add ((x4).toNat * 1)) e1] (fun fb => by kernel_rfl) rfl ⟨nrow_adr (hS9.rd 0).1 h12.1 h12.2, nrow_cell (hS9.rd 0).1 [] h12.1 h12.2 0 rfl, trivial⟩ ?_
    obtain ⟨t13, ht14, hl10⟩ := bind_some hl10
    refine WL.call (some 16) 77 #[e1, (pt ga)] (fun fb => by kernel_rfl) (beatty_logsOf_1_calls _ (rdD p0 x4 []) p1_0 ((Za x4.toNat).1) ((Za x4.toNat).2) ga Ab cb t13 _ (rowsO.ro (hS9.rd 1) h12.1 h12.2).ofO (hS9.rd 2) (hS9.rd 3) ht14) (fun v w15 hR16 => ?_)
    obtain ⟨rfl, hk_⟩ := hR16
    have hS17 := hS9.keepN hk_
    refine ⟨trivial, ?_⟩
    refine WL.done rfl (WX.next ?_)
    rcases br_some hl10 with ⟨h18, hl10⟩ | ⟨h18, hl10⟩
    ·refine WC.condT2 (fun fb => by kernel_rfl) h18 ?_
     refine WC.seq (WC.region ?_)
     refine sg 2 [] [4] [(4, (iv x4))] (by kernel_rfl) ?_
     refine WL.done rfl (WX.next ?_)
     refine WC.ret ?_
     injection hl10 with hl10
     subst hl10
     injection hf with hf
     subst hf
     exact WX.blockR (WX.thenR (WX.thenR (WX.blockR (WX.thenR (WX.ret_ [] (iv x4) [] (fun fb => by kernel_rfl) trivial ⟨_, rfl, rfl, hS17.keep⟩)))))
    refine WC.condF2 (fun fb => by kernel_rfl) h18 ?_
    refine WC.skip ?_
    refine WX.blockN (WX.next ?_)
    refine WC.region ?_
    refine sg 2 [] [0, 1, 7, 8] [e3, (1, (.func (.func 77) #[] #[(pt ga)])), e2, (8, (iv (w64 (x4 + 1))))] (by kernel_rfl) ?_
    refine WL.done rfl ?_
    exact WX.again k7 (Nat.lt_succ_self _) (w64 (x4 + 1)) [0, 1, 7, 8] rfl ⟨(hS17.subR [0, 1, 2, 3]).sub [] (by decide), hl10⟩
   refine WC.condF2 (fun fb => by kernel_rfl) h11 ?_
   refine WC.exit ?_
   injection hl10 with hl10
   exact WX.thenX (WX.thenX (WX.blockHere (WX.to Kx5 () [] rfl ⟨(hS9.subR [0, 1, 2, 3]).sub [] (by decide), hl10.symm⟩)))
 rintro y22 w19 ⟨hS20, hq21⟩
 subst hq21
 have hf := sum_inr hf
 refine WX.next (WC.seq (WC.region ?_))
 refine sg 1 [] [4] [(4, (iv (-1)))] (by kernel_rfl) ?_
 refine WL.done rfl (WX.next ?_)
 refine WC.ret ?_
 injection hf with hf
 subst hf
 exact WX.ret_ [] (iv (-1)) [] (fun fb => by kernel_rfl) trivial ⟨_, rfl, rfl, hS20.keep⟩
theorem slices_ContainsFunc_int_int_76_with_beatty_logsOf_1_calls (k : Nat) (p0 : List (List Int)) (p1_0 : List Int) (Aa : Option Addr) (ca : Nat) (Za : HF) (ga : Nat) (Ab : Option Addr) (cb : Nat) (r : Bool) (w : World) (hR0 : RO NoS w (rowR (encSl Int) Aa ca (tag Za p0))) (hR1 : RO NoS w (rowsO 3 encInt Za p0)) (hR2 : RO NoS w (blk ga (.cells #[(sv Ab p1_0 cb)] 35 (0, 0)))) (hR3 : RO NoS w (rowR encInt Ab cb p1_0)) (hf : slices_ContainsFunc_int_int_76_with_beatty_logsOf_1 k p0 p1_0 = some r) :
  CallsR Tryz.prog 76 #[(sv Aa p0 ca), (.func (.func 77) #[] #[(pt ga)])] w (fun v w' => v = (bv r) ∧ Keeps NoS w w') := by
 have hS : St NoS w w [rowR (encSl Int) Aa ca (tag Za p0), rowsO 3 encInt Za p0, blk ga (.cells #[(sv Ab p1_0 cb)] 35 (0, 0)), rowR encInt Ab cb p1_0] [] := St.init (ro_cons hR0 (ro_cons hR1 (ro_cons hR2 (ro_cons hR3 (ro_nil _ _)))))
 refine enter 9 Tryz.func76 rfl Tryz.ntmps76 rfl ?_
 unfold slices_ContainsFunc_int_int_76_with_beatty_logsOf_1 at hf
 refine WC.seq (WC.region ?_)
 refine sg 1 [] [0, 1] [(0, (sv Aa p0 ca)), (1, (.func (.func 77) #[] #[(pt ga)]))] (by kernel_rfl) ?_
 refine WL.done rfl (WX.next (WC.seq (WC.region ?_)))
 refine sg 2 [] [5, 6] [(5, (sv Aa p0 ca)), (6, (.func (.func 77) #[] #[(pt ga)]))] (by kernel_rfl) ?_
 obtain ⟨t4, ht5, hf⟩ := bind_some hf
 refine WL.call (some 7) 98 #[(sv Aa p0 ca), (.func (.func 77) #[] #[(pt ga)])] (fun fb => by kernel_rfl) (slices_IndexFunc_int_int_98_with_beatty_logsOf_1_calls _ p0 p1_0 Aa ca Za ga Ab cb t4 _ (hS.rd 0) (hS.rd 1) (hS.rd 2) (hS.rd 3) ht5) (fun v w6 hR7 => ?_)
 obtain ⟨rfl, hk_⟩ := hR7
 have hS8 := hS.keepN hk_
 refine ⟨trivial, ?_⟩
 refine sg 5 [] [4] [(4, (bv (decide (t4 ≥ 0))))] (by kernel_rfl) ?_
 refine WL.done rfl (WX.next ?_)
 refine WC.ret ?_
 injection hf with hf
 subst hf
 exact WX.ret_ [] (bv (decide (t4 ≥ 0))) [] (fun fb => by kernel_rfl) trivial ⟨_, rfl, rfl, hS8.keep⟩
theorem slices_Clone_int_int_nil_calls (p0 : List Int) (ca : Nat) (r : (List Int)) (w : World) (hR0 : RO NoS w (rowR encInt none ca ([] : List Int))) (hf : slices_Clone_int_int_nil p0 = some r) :
  CallsR Tryz.prog 78 #[(sv none ([] : List Int) ca)] w (fun v w' => ∃ (A1_ : Option Addr), ∃ (c1_ : Nat), v = (sv A1_ r c1_) ∧ St NoS w w' [] [rowO 3 encInt A1_ c1_ r]) := by
 have hS : St NoS w w [rowR encInt none ca ([] : List Int)] [] := St.init (ro_cons hR0 (ro_nil _ _))
 refine enter 8 Tryz.func78 rfl Tryz.ntmps78 rfl ?_
 unfold slices_Clone_int_int_nil at hf
 refine WC.seq (WC.region ?_)
 refine sg 1 [] [0] [(0, (sv none ([] : List Int) ca))] (by kernel_rfl) ?_
 refine WL.done rfl (WX.next (WC.seq (WC.seq (WC.region ?_))))
 refine sg 2 [] [0, 4] [(0, (sv none ([] : List Int) ca)), (4, (bv true))] (by kernel_rfl) ?_
 refine WL.done rfl (WX.next ?_)
 refine WC.condT (fun fb => by kernel_rfl) ?_
 refine WC.seq (WC.region ?_)
 refine sg 1 [] [2] [(2, (.slice none 0 0))] (by kernel_rfl) ?_
 refine WL.done rfl (WX.next ?_)
 refine WC.ret ?_
 have hS2 := hS.nilrow 3 encInt
 injection hf with hf
 subst hf
 exact WX.thenR (WX.ret_ [] (sv none ([] : List Int) 0) [] (fun fb => by kernel_rfl) trivial ⟨_, rfl, none, 0, rfl, (hS2.sub [0] (by decide)).noR⟩)
theorem slices_Clone_int_int_some_calls (p0 : List Int) (aa : Addr) (ca : Nat) (r : (List Int)) (w : World) (hR0 : RO NoS w (rowR encInt (some aa) ca p0)) (hf : slices_Clone_int_int_some p0 = some r) :
  CallsR Tryz.prog 78 #[(sv (some aa) p0 ca)] w (fun v w' => ∃ (A1_ : Option Addr), ∃ (c1_ : Nat), v = (sv A1_ r c1_) ∧ St NoS w w' [] [rowO 3 encInt A1_ c1_ r]) := by
 have hS : St NoS w w [rowR encInt (some aa) ca p0] [] := St.init (ro_cons hR0 (ro_nil _ _))
 refine enter 8 Tryz.func78 rfl Tryz.ntmps78 rfl ?_
 unfold slices_Clone_int_int_some at hf
 refine WC.seq (WC.region ?_)
 refine sg 1 [] [0] [(0, (sv (some aa) p0 ca))] (by kernel_rfl) ?_
 refine WL.done rfl (WX.next (WC.seq (WC.seq (WC.region ?_))))
 refine sg 2 [] [0, 4] [(0, (sv (some aa) p0 ca)), (4, (bv false))] (by kernel_rfl) ?_
 refine WL.done rfl (WX.next ?_)
 refine WC.condF (fun fb => by kernel_rfl) ?_
 refine WC.skip (WX.next (WC.seq (WC.region ?_)))
 refine WL.new hS 5 [] (fun g => (.slice (some ⟨g, 0, none⟩) 0 0)) (.cells #[] 3 (0, 0)) [] (fun fb g => by kernel_rfl) trivial (fun g3 w4 hS5 => ?_)
 refine ⟨trivial, ?_⟩
 have hS6 := hS.go w4 [rowO 3 encInt (some ⟨g3, 0, none⟩) 0 ([] : List Int)] (hS5.map1 0 _ (fun h => rowO.ofBlk h rfl (Nat.le_of_ble_eq_true (by kernel_rfl))) (fun _ h => by obtain ⟨_, h1, h2⟩ := h; injection h1 with h1; subst h1; exact h2) [] (by decide) (by decide))
 refine sg 2 [] [5, 6] [(5, (sv (some ⟨g3, 0, none⟩) ([] : List Int) 0)), (6, (sv (some aa) p0 ca))] (by kernel_rfl) ?_
 obtain ⟨h7, hf⟩ := as_some hf
 refine WL.append hS6 0 (d := 7) (tS := 35) (z := (iv 0)) (bytes := 8) (c2 := ca) rfl (fun fb => by kernel_rfl) (hS6.rd 0).1 (by kernel_rfl) (by kernel_rfl) rfl (by decide) h7 (by decide) [] (by decide) (by decide) (fun A8 c9 w10 hS11 => ?_)
 refine ⟨trivial, ?_⟩
 refine sg 4 [] [2] [(2, (sv A8 (([] : List Int) ++ p0) c9))] (by kernel_rfl) ?_
 refine WL.done rfl (WX.next ?_)
 refine WC.ret ?_
 injection hf with hf
 subst hf
 exact WX.ret_ [] (sv A8 (([] : List Int) ++ p0) c9) [] (fun fb => by kernel_rfl) trivial ⟨_, rfl, A8, c9, rfl, (hS11.sub [0] (by decide)).noR⟩
theorem slices_Clone_int_int_calls (p0 : List Int) (Aa : Option Addr) (ca : Nat) (r : List Int) (w : World) (hR0 : RO NoS w (rowR encInt Aa ca p0)) (hf : slices_Clone_int_int p0 = some r) :
  CallsR Tryz.prog 78 #[(sv Aa p0 ca)] w (fun v w' => ∃ (A1_ : Option Addr), ∃ (c1_ : Nat), v = (sv A1_ r c1_) ∧ St NoS w w' [] [rowO 3 encInt A1_ c1_ r]) := by
 unfold slices_Clone_int_int at hf
 cases Aa with
 | none =>
  have h3 : p0 = [] := by
   cases p0 with
   | nil => rfl
   | cons x xs => exact absurd (hR0.1.1 0 x rfl).1 (by simp)
  subst h3
  rw [slices_Clone_int_int_some] at hf
  obtain ⟨h4, hf⟩ := as_some hf
  injection hf with hf; subst hf
  exact slices_Clone_int_int_nil_calls [] ca [] w hR0 rfl
 | some a => exact slices_Clone_int_int_some_calls p0 a ca r w hR0 hf
theorem bits_Mul64_calls (p0 : Int) (p1 : Int)  (r : Int × Int) (w : World)  (hf : bits_Mul64 p0 p1 = some r) :
  CallsR Tryz.prog 100 #[(.int .u64 p0), (.int .u64 p1)] w (fun v w' => v = (.tuple #[(.int .u64 r.1), (.int .u64 r.2)]) ∧ Keeps NoS w w') := by
 have hS : St NoS w w [] [] := St.init (ro_nil _ _)
 refine enter 51 Tryz.func100 rfl Tryz.ntmps100 rfl ?_
 unfold bits_Mul64 at hf
 refine WC.seq (WC.region ?_)
 refine sg 2 [] [0, 1] [(0, (.int .u64 p0)), (1, (.int .u64 p1))] (by kernel_rfl) ?_
 refine WL.done rfl (WX.next (WC.seq (WC.region ?_)))
 refine sg 3 [] [0, 1, 6] [(0, (.int .u64 p0)), (1, (.int .u64 p1)), (6, (.int .u64 (andV p0 4294967295)))] (by kernel_rfl) ?_
 refine WL.done rfl (WX.next (WC.seq (WC.region ?_)))
 refine seg 3 [] [0, 1, 6, 7] [(0, (.int .u64 p0)), (1, (.int .u64 p1)), (6, (.int .u64 (andV p0 4294967295))), (7, (.int .u64 (shrV p0 32)))] [.idx (some ⟨0, 0, none⟩) 32 64] (fun fb => by kernel_rfl) rfl ⟨⟨by decide, by decide, rfl⟩, trivial⟩ ?_
 refine WL.done rfl (WX.next (WC.seq (WC.region ?_)))
 refine sg 3 [] [0, 1, 6, 7, 8] [(0, (.int .u64 p0)), (1, (.int .u64 p1)), (6, (.int .u64 (andV p0 4294967295))), (7, (.int .u64 (shrV p0 32))), (8, (.int .u64 (andV p1 4294967295)))] (by kernel_rfl) ?_
 refine WL.done rfl (WX.next (WC.seq (WC.region ?_)))
 refine seg 3 [] [0, 1, 6, 7, 8, 9] [(0, (.int .u64 p0)), (1, (.int .u64 p1)), (6, (.int .u64 (andV p0 4294967295))), (7, (.int .u64 (shrV p0 32))), (8, (.int .u64 (andV p1 4294967295))), (9, (.int .u64 (shrV p1 32)))] [.idx (some ⟨0, 0, none⟩) 32 64] (fun fb => by kernel_rfl) rfl ⟨⟨by decide, by decide, rfl⟩, trivial⟩ ?_
 refine WL.done rfl (WX.next (WC.seq (WC.region ?_)))
 refine sg 4 [] [0, 1, 6, 7, 8, 9, 10] [(0, (.int .u64 p0)), (1, (.int .u64 p1)), (6, (.int .u64 (andV p0 4294967295))), (7, (.int .u64 (shrV p0 32))), (8, (.int .u64 (andV p1 4294967295))), (9, (.int .u64 (shrV p1 32))), (10, (.int .u64 (IntKind.wrap .u64 ((andV p0 4294967295) * (andV p1 4294967295)))))] (by kernel_rfl) ?_
 refine WL.done rfl (WX.next (WC.seq (WC.region ?_)))
 refine seg 7 [] [0, 1, 6, 7, 9, 11] [(0, (.int .u64 p0)), (1, (.int .u64 p1)), (6, (.int .u64 (andV p0 4294967295))), (7, (.int .u64 (shrV p0 32))), (9, (.int .u64 (shrV p1 32))), (11, (.int .u64 (IntKind.wrap .u64 ((IntKind.wrap .u64 ((shrV p0 32) * (andV p1 4294967295))) + (shrV (IntKind.wrap .u64 ((andV p0 4294967295) * (andV p1 4294967295))) 32)))))] [.idx (some ⟨0, 0, none⟩) 32 64] (fun fb => by kernel_rfl) rfl ⟨⟨by decide, by decide, rfl⟩, trivial⟩ ?_
 refine WL.done rfl (WX.next (WC.seq (WC.region ?_)))
 let e1 := andV p1 4294967295
 refine sg 3 [] [0, 1, 6, 7, 9, 11, 12] [(0, (.int .u64 p0)), (1, (.int .u64 p1)), (6, (.int .u64 (andV p0 4294967295))), (7, (.int .u64 (shrV p0 32))), (9, (.int .u64 (shrV p1 32))), (11, (.int .u64 (IntKind.wrap .u64 ((IntKind.wrap .u64 ((shrV p0 32) * e1)) + (shrV (IntKind.wrap .u64 ((andV p0 4294967295) * e1)) 32))))), (12, (.int .u64 (andV (IntKind.wrap .u64 ((IntKind.wrap .u64 ((shrV p0 32) * e1)) + (shrV (IntKind.wrap .u64 ((andV p0 4294967295) * e1)) 32))) 4294967295)))] (by kernel_rfl) ?_
 refine WL.done rfl (WX.next (WC.seq (WC.region ?_)))
 refine seg 3 [] [0, 1, 6, 7, 9, 12, 13] [(0, (.int .u64 p0)), (1, (.int .u64 p1)), (6, (.int .u64 (andV p0 4294967295))), (7, (.int .u64 (shrV p0 32))), (9, (.int .u64 (shrV p1 32))), (12, (.int .u64 (andV (IntKind.wrap .u64 ((IntKind.wrap .u64 ((shrV p0 32) * e1)) + (shrV (IntKind.wrap .u64 ((andV p0 4294967295) * e1)) 32))) 4294967295))), (13, (.int .u64 (shrV (IntKind.wrap .u64 ((IntKind.wrap .u64 ((shrV p0 32) * e1)) + (shrV (IntKind.wrap .u64 ((andV p0 4294967295) * e1)) 32))) 32)))] [.idx (some ⟨0, 0, none⟩) 32 64] (fun fb => by kernel_rfl) rfl ⟨⟨by decide, by decide, rfl⟩, trivial⟩ ?_
 refine WL.done rfl (WX.next (WC.seq (WC.region ?_)))
 refine sg 6 [] [0, 1, 7, 9, 12, 13] [(0, (.int .u64 p0)), (1, (.int .u64 p1)), (7, (.int .u64 (shrV p0 32))), (9, (.int .u64 (shrV p1 32))), (12, (.int .u64 (IntKind.wrap .u64 ((andV (IntKind.wrap .u64 ((IntKind.wrap .u64 ((shrV p0 32) * e1)) + (shrV (IntKind.wrap .u64 ((andV p0 4294967295) * e1)) 32))) 4294967295) + (IntKind.wrap .u64 ((andV p0 4294967295) * (shrV p1 32))))))), (13, (.int .u64 (shrV (IntKind.wrap .u64 ((IntKind.wrap .u64 ((shrV p0 32) * e1)) + (shrV (IntKind.wrap .u64 ((andV p0 4294967295) * e1)) 32))) 32)))] (by kernel_rfl) ?_
 refine WL.done rfl (WX.next (WC.seq (WC.region ?_)))
 refine seg 9 [] [0, 1, 4] [(0, (.int .u64 p0)), (1, (.int .u64 p1)), (4, (.int .u64 (IntKind.wrap .u64 ((IntKind.wrap .u64 ((IntKind.wrap .u64 ((shrV p0 32) * (shrV p1 32))) + (shrV (IntKind.wrap .u64 ((IntKind.wrap .u64 ((shrV p0 32) * e1)) + (shrV (IntKind.wrap .u64 ((andV p0 4294967295) * e1)) 32))) 32))) + (shrV (IntKind.wrap .u64 ((andV (IntKind.wrap .u64 ((IntKind.wrap .u64 ((shrV p0 32) * e1)) + (shrV (IntKind.wrap .u64 ((andV p0 4294967295) * e1)) 32))) 4294967295) + (IntKind.wrap .u64 ((andV p0 4294967295) * (shrV p1 32))))) 32)))))] [.idx (some ⟨0, 0, none⟩) 32 64] (fun fb => by kernel_rfl) rfl ⟨⟨by decide, by decide, rfl⟩, trivial⟩ ?_
 refine WL.done rfl (WX.next (WC.seq (WC.region ?_)))
 refine sg 4 [] [4, 5] [(4, (.int .u64 (IntKind.wrap .u64 ((IntKind.wrap .u64 ((IntKind.wrap .u64 ((shrV p0 32) * (shrV p1 32))) + (shrV (IntKind.wrap .u64 ((IntKind.wrap .u64 ((shrV p0 32) * e1)) + (shrV (IntKind.wrap .u64 ((andV p0 4294967295) * e1)) 32))) 32))) + (shrV (IntKind.wrap .u64 ((andV (IntKind.wrap .u64 ((IntKind.wrap .u64 ((shrV p0 32) * e1)) + (shrV (IntKind.wrap .u64 ((andV p0 4294967295) * e1)) 32))) 4294967295) + (IntKind.wrap .u64 ((andV p0 4294967295) * (shrV p1 32))))) 32))))), (5, (.int .u64 (IntKind.wrap .u64 (p0 * p1))))] (by kernel_rfl) ?_
 refine WL.done rfl (WX.next ?_)
 refine WC.ret ?_
 injection hf with hf
 subst hf
 exact WX.ret_ [] (.tuple #[(.int .u64 (IntKind.wrap .u64 ((IntKind.wrap .u64 ((IntKind.wrap .u64 ((shrV p0 32) * (shrV p1 32))) + (shrV (IntKind.wrap .u64 ((IntKind.wrap .u64 ((shrV p0 32) * e1)) + (shrV (IntKind.wrap .u64 ((andV p0 4294967295) * e1)) 32))) 32))) + (shrV (IntKind.wrap .u64 ((andV (IntKind.wrap .u64 ((IntKind.wrap .u64 ((shrV p0 32) * e1)) + (shrV (IntKind.wrap .u64 ((andV p0 4294967295) * e1)) 32))) 4294967295) + (IntKind.wrap .u64 ((andV p0 4294967295) * (shrV p1 32))))) 32)))), (.int .u64 (IntKind.wrap .u64 (p0 * p1)))]) [] (fun fb => by kernel_rfl) trivial ⟨_, rfl, rfl, hS.keep⟩
theorem bits_Mul_calls (p0 : Int) (p1 : Int)  (r : Int × Int) (w : World)  (hf : bits_Mul p0 p1 = some r) :
  CallsR Tryz.prog 113 #[(.int .u64 p0), (.int .u64 p1)] w (fun v w' => v = (.tuple #[(.int .u64 r.1), (.int .u64 r.2)]) ∧ Keeps NoS w w') := by
 have hS : St NoS w w [] [] := St.init (ro_nil _ _)
 refine enter 30 Tryz.func113 rfl Tryz.ntmps113 rfl ?_
 unfold bits_Mul at hf
 refine WC.seq (WC.region ?_)
 refine sg 2 [] [0, 1] [(0, (.int .u64 p0)), (1, (.int .u64 p1))] (by kernel_rfl) ?_
 refine WL.done rfl (WX.next (WC.seq ?_))
 refine WC.condF (fun fb => by kernel_rfl) ?_
 refine WC.skip (WX.next (WC.seq (WC.region ?_)))
 refine sg 2 [] [23, 24] [(23, (.int .u64 p0)), (24, (.int .u64 p1))] (by kernel_rfl) ?_
 obtain ⟨t3, ht4, hf⟩ := bind_some hf
 refine WL.call (some 25) 100 #[(.int .u64 p0), (.int .u64 p1)] (fun fb => by kernel_rfl) (bits_Mul64_calls p0 p1 t3 _ ht4) (fun v w5 hR6 => ?_)
 obtain ⟨rfl, hk_⟩ := hR6
 have hS7 := hS.keepN hk_
 refine ⟨trivial, ?_⟩
 refine sg 8 [] [8, 9] [(8, (.int .u64 t3.1)), (9, (.int .u64 t3.2))] (by kernel_rfl) ?_
 refine WL.done rfl (WX.next (WC.seq (WC.region ?_)))
 refine sg 4 [] [4, 5] [(4, (.int .u64 t3.1)), (5, (.int .u64 t3.2))] (by kernel_rfl) ?_
 refine WL.done rfl (WX.next ?_)
 refine WC.ret ?_
 injection hf with hf
 subst hf
 exact WX.ret_ [] (.tuple #[(.int .u64 t3.1), (.int .u64 t3.2)]) [] (fun fb => by kernel_rfl) trivial ⟨_, rfl, rfl, hS7.keep⟩
theorem slices_Repeat_int_int_calls (k : Nat) (p0 : List Int) (p1 : Int) (Aa : Option Addr) (ca : Nat) (r : (List Int)) (w : World) (hR0 : RO NoS w (rowR encInt Aa ca p0)) (hf : slices_Repeat_int_int k p0 p1 = some r) :
  CallsR Tryz.prog 97 #[(sv Aa p0 ca), (iv p1)] w (fun v w' => ∃ (A1_ : Option Addr), ∃ (c1_ : Nat), v = (sv A1_ r c1_) ∧ St NoS w w' [] [rowO 3 encInt A1_ c1_ r]) := by
 have hS : St NoS w w [rowR encInt Aa ca p0] [] := St.init (ro_cons hR0 (ro_nil _ _))
 refine enter 48 Tryz.func97 rfl Tryz.ntmps97 rfl ?_
 unfold slices_Repeat_int_int at hf
 refine WC.seq (WC.region ?_)
 refine sg 1 [] [0, 1] [(0, (sv Aa p0 ca)), (1, (iv p1))] (by kernel_rfl) ?_
 refine WL.done rfl (WX.next (WC.seq (WC.seq (WC.region ?_))))
 refine sg 2 [] [0, 1, 10] [(0, (sv Aa p0 ca)), (1, (iv p1)), (10, (bv (decide (p1 < 0))))] (by kernel_rfl) ?_
 refine WL.done rfl (WX.next ?_)
 rcases br_some hf with ⟨h3, hf⟩ | ⟨h3, hf⟩
 ·refine WC.condT2 (fun fb => by kernel_rfl) h3 ?_
  cases hf
 refine WC.condF2 (fun fb => by kernel_rfl) h3 ?_
 refine WC.skip (WX.next (WC.seq (WC.region ?_)))
 refine sg 5 [] [0, 15, 17] [(0, (sv Aa p0 ca)), (15, (.int .u64 (IntKind.wrap .u64 ((p0.length : Int))))), (17, (.int .u64 (IntKind.wrap .u64 (p1))))] (by kernel_rfl) ?_
 obtain ⟨t4, ht5, hf⟩ := bind_some hf
 refine WL.call (some 18) 113 #[(.int .u64 (IntKind.wrap .u64 ((p0.length : Int)))), (.int .u64 (IntKind.wrap .u64 (p1)))] (fun fb => by kernel_rfl) (bits_Mul_calls (IntKind.wrap .u64 ((p0.length : Int))) (IntKind.wrap .u64 (p1)) t4 _ ht5) (fun v w6 hR7 => ?_)
 obtain ⟨rfl, hk_⟩ := hR7
 have hS8 := hS.keepN hk_
 refine ⟨trivial, ?_⟩
 refine sg 11 [] [0, 5, 6] [(0, (sv Aa p0 ca)), (5, (.int .u64 t4.1)), (6, (.int .u64 t4.2))] (by kernel_rfl) ?_
 refine WL.done rfl (WX.next (WC.seq (WC.seq (WC.region ?_))))
 refine sg 3 [] [0, 6, 23] [(0, (sv Aa p0 ca)), (6, (.int .u64 t4.2)), (23, (bv (decide (t4.1 > 0))))] (by kernel_rfl) ?_
 refine WL.cutV (T := Bool) 6 (fun t => [(26, (bv t)), (0, (sv Aa p0 ca)), (6, (.int .u64 t4.2))]) (fun t => ((decide (t4.1 > 0)) || (decide (t4.2 > 9223372036854775807))) = t) (fun K => ?_) ?_
 ·
  rcases Bool.eq_false_or_eq_true (decide (t4.1 > 0)) with h9 | h9
  ·
   refine WL.setB 23 h9 rfl ?_
   refine sg 6 [] [0, 6, 26] [(0, (sv Aa p0 ca)), (6, (.int .u64 t4.2)), (26, (bv true))] (by kernel_rfl) ?_
   exact WL.toV K true [26, 0, 6] rfl (by first | (rw [h9]; done) | (rw [h9]; rfl))
  refine WL.setB 23 h9 rfl ?_
  refine sg 6 [] [0, 6, 26] [(0, (sv Aa p0 ca)), (6, (.int .u64 t4.2)), (26, (bv (decide (t4.2 > 9223372036854775807))))] (by kernel_rfl) ?_
  exact WL.toV K (decide (t4.2 > 9223372036854775807)) [26, 0, 6] rfl (by first | (rw [h9]; done) | (rw [h9]; rfl))
 rintro b10 rfl
 refine WL.done rfl (WX.next ?_)
 rcases br_some hf with ⟨h11, hf⟩ | ⟨h11, hf⟩
 ·refine WC.condT2 (fun fb => by kernel_rfl) h11 ?_
  cases hf
 refine WC.condF2 (fun fb => by kernel_rfl) h11 ?_
 refine WC.skip (WX.next (WC.seq (WC.region ?_)))
 refine sg 2 [] [0, 29] [(0, (sv Aa p0 ca)), (29, (iv (w64 (t4.2))))] (by kernel_rfl) ?_
 obtain ⟨h12, hf⟩ := as_some hf
 refine WL.make hS8 (e := encInt) (T := 3) (tS := 35) (z := (iv 0)) (bytes := 8) (d := 30) (0 : Int) (w64 (t4.2)) (fun fb => by kernel_rfl) (by kernel_rfl) (by kernel_rfl) rfl (by decide) h12 (by decide) (fun g13 w14 hS15 => ?_)
 refine ⟨trivial, ?_⟩
 refine sg 4 [] [0, 7] [(0, (sv Aa p0 ca)), (7, (sv (some ⟨g13, 0, none⟩) (List.replicate (w64 (t4.2)).toNat (0 : Int)) ((w64 (t4.2)).toNat)))] (by kernel_rfl) ?_
 refine WL.done rfl (WX.next (WC.seq (WC.region ?_)))
 let e2 := (sv (some ⟨g13, 0, none⟩) (List.replicate (w64 (t4.2)).toNat (0 : Int)) ((w64 (t4.2)).toNat))
 refine sg 2 [] [7, 31, 32] [(7, e2), (31, e2), (32, (sv Aa p0 ca))] (by kernel_rfl) ?_
 refine WL.copy hS15 0 rfl (e := encInt) (d := 33) (tS := 35) (D := (some ⟨g13, 0, none⟩)) (dc := ((w64 (t4.2)).toNat)) (dl := (List.replicate (w64 (t4.2)).toNat (0 : Int)).length) (c2 := ca) 0 rfl (fun fb => by kernel_rfl) (subA_zero _ _ _) (Nat.zero_add _) (hS15.rd 0).1 (by kernel_rfl) (by kernel_rfl) [] (by decide) (by decide) (fun w16 hS17 => ?_)
 refine ⟨trivial, ?_⟩
 have hl18 := cpL_len (xs := (List.replicate (w64 (t4.2)).toNat (0 : Int))) (ys := p0) (lo := 0) (Nat.zero_le _)
 refine WL.reE [7, 33] [(7, (.slice (some ⟨g13, 0, none⟩) (List.replicate (w64 (t4.2)).toNat (0 : Int)).length ((w64 (t4.2)).toNat))), (33, (iv (cpN p0.length (List.replicate (w64 (t4.2)).toNat (0 : Int)).length)))] [(7, (.slice (some ⟨g13, 0, none⟩) (cpL (List.replicate (w64 (t4.2)).toNat (0 : Int)) 0 p0).length ((w64 (t4.2)).toNat))), (33, (iv (cpN p0.length (List.replicate (w64 (t4.2)).toNat (0 : Int)).length)))] rfl (by simp only [hl18]) ?_
 refine sg 4 [] [7, 8] [(7, (sv (some ⟨g13, 0, none⟩) (cpL (List.replicate (w64 (t4.2)).toNat (0 : Int)) 0 p0) ((w64 (t4.2)).toNat))), (8, (iv (cpN p0.length (List.replicate (w64 (t4.2)).toNat (0 : Int)).length)))] (by kernel_rfl) ?_
 refine WL.done rfl (WX.next (WC.seq ?_))
 obtain ⟨x25, hx26, hf⟩ := bind_some hf
 refine WC.cutN (T := (List Int) × (Option Addr) × Nat) (fun t => [(7, (sv t.2.1 t.1 t.2.2))]) (fun t w1 => St NoS w w1 [rowR encInt Aa ca p0] [rowO 3 encInt t.2.1 t.2.2 t.1] ∧ x25 = t.1) (fun Kx25 => ?_) ?_
 ·
  refine WC.block ?_
  refine WC.loop (T := ((List Int) × Int) × (Option Addr) × Nat) (fun t => [(7, (sv t.2.1 t.1.1 t.2.2)), (8, (iv t.1.2))]) (fun n t w1 => St NoS w w1 [rowR encInt Aa ca p0] [rowO 3 encInt t.2.1 t.2.2 t.1.1] ∧ slices_Repeat_int_int.l0 n t.1.1 t.1.2 = some x25) k (((cpL (List.replicate (w64 (t4.2)).toNat (0 : Int)) 0 p0), (cpN p0.length (List.replicate (w64 (t4.2)).toNat (0 : Int)).length)), (some ⟨g13, 0, none⟩), (w64 (t4.2)).toNat) [7, 8] rfl ⟨(hS17.subR [0]).sub [0] (by decide), hx26⟩ ?_
  rintro k27 ⟨⟨l21, x22⟩, A19, c20⟩ w28 ⟨hS29, hl30⟩
  let e1 := (l21.length : Int)
  let e3 := sv A19 l21 c20
  let e4 : Nat × Value := (41, (sv (subA A19 c20 x22.toNat 1) (cut l21 x22 e1) (c20 - x22.toNat)))
  let e5 := (x22 + (cpN (cut l21 (0 : Int) x22).length (cut l21 x22 e1).length))
  cases k27 with
  | zero => rw [slices_Repeat_int_int.l0] at hl30; cases hl30
  | succ k27 =>
   rw [slices_Repeat_int_int.l0] at hl30
   refine WC.seq (WC.seq (WC.region ?_))
   refine sg 4 [] [7, 8, 37] [(7, e3), (8, (iv x22)), (37, (bv (decide (x22 < e1))))] (by kernel_rfl) ?_
   refine WL.done rfl (WX.next ?_)
   rcases br_some hl30 with ⟨h31, hl30⟩ | ⟨h31, hl30⟩
   ·refine WC.condT2 (fun fb => by kernel_rfl) h31 ?_
    refine WC.skip (WX.next (WC.block ?_))
    obtain ⟨h34, hl30⟩ := as_some hl30
    obtain ⟨h35, hl30⟩ := as_some hl30
    refine WC.regionD ([], [0, 1, 2, 3, 4, 5, 6, 8, 9], [[], [], [], [1, 2], [], [], [4, 5], [1, 2, 3, 4, 5, 6], [0, 1, 2, 3, 4, 5, 6, 7], [0, 1, 2, 3, 4, 5, 6, 7, 8]]) [[0, 1, 2, 3, 4, 5, 6, 7, 8, 9]] (by kernel_rfl) (by kernel_rfl) (NoPanic.block (NoPanic.seq (NoPanic.block (NoPanic.seq (NoPanic.body))))) ?_
    have hS33 := hS29.drew
    revert hS33
    generalize World.drew w28 = w32
    intro hS33
    refine ⟨trivial, forallC ?_ (forallN)⟩
    refine sg 3 [] [7, 8, 38, 39, 40] [(7, e3), (8, (iv x22)), (38, (iv x22)), (39, e3), (40, (iv x22))] (by kernel_rfl) ?_
    refine seg 4 [] [7, 8, 38, 41] [(7, e3), (8, (iv x22)), (38, (iv x22)), (41, (.slice (subA A19 c20 x22.toNat 1) (e1.toNat - x22.toNat) (c20 - x22.toNat)))] [.idx (some ⟨0, 0, none⟩) x22 (e1.toNat + 1), .idx (some ⟨0, 0, none⟩) e1 (c20 + 1)] (fun fb => by kernel_rfl) rfl ⟨cut1 h34.1 h34.2.1, cut2 h34.1 h34.2.1 h34.2.2 (rowO.rd (hS33.own 0).1).2, trivial⟩ ?_
    refine WL.reE [7, 8, 38, 41] [(7, (.slice A19 l21.length c20)), (8, (iv x22)), (38, (iv x22)), (41, (.slice (subA A19 c20 x22.toNat 1) ((l21.length : Int).toNat - x22.toNat) (c20 - x22.toNat)))] [(7, (.slice A19 l21.length c20)), (8, (iv x22)), (38, (iv x22)), (41, (.slice (subA A19 c20 x22.toNat 1) (cut l21 x22 (l21.length : Int)).length (c20 - x22.toNat)))] rfl (by rw [cut_length h34.1 h34.2.1 h34.2.2]) ?_
    refine sg 6 [] [7, 38, 41, 42, 43] [(7, e3), (38, (iv x22)), e4, (42, e3), (43, (iv x22))] (by kernel_rfl) ?_
    refine seg 7 [] [7, 38, 41, 44] [(7, e3), (38, (iv x22)), e4, (44, (.slice (subA A19 c20 (0 : Int).toNat 1) (x22.toNat - (0 : Int).toNat) (c20 - (0 : Int).toNat)))] [.idx (some ⟨0, 0, none⟩) (0 : Int) (x22.toNat + 1), .idx (some ⟨0, 0, none⟩) x22 (c20 + 1)] (fun fb => by kernel_rfl) rfl ⟨cut1 h35.1 h35.2.1, cut2 h35.1 h35.2.1 h35.2.2 (rowO.rd (hS33.own 0).1).2, trivial⟩ ?_
    refine WL.reE [7, 38, 41, 44] [(7, (.slice A19 l21.length c20)), (38, (iv x22)), (41, (.slice (subA A19 c20 x22.toNat 1) (cut l21 x22 (l21.length : Int)).length (c20 - x22.toNat))), (44, (.slice (subA A19 c20 (0 : Int).toNat 1) (x22.toNat - (0 : Int).toNat) (c20 - (0 : Int).toNat)))] [(7, (.slice A19 l21.length c20)), (38, (iv x22)), (41, (.slice (subA A19 c20 x22.toNat 1) (cut l21 x22 (l21.length : Int)).length (c20 - x22.toNat))), (44, (.slice (subA A19 c20 (0 : Int).toNat 1) (cut l21 (0 : Int) x22).length (c20 - (0 : Int).toNat)))] rfl (by rw [cut_length h35.1 h35.2.1 h35.2.2]) ?_
    refine WL.copy hS33 0 rfl (e := encInt) (d := 45) (tS := 35) (D := (subA A19 c20 x22.toNat 1)) (dc := (c20 - x22.toNat)) (dl := (cut l21 x22 (l21.length : Int)).length) (c2 := (c20 - (0 : Int).toNat)) x22.toNat rfl (fun fb => by kernel_rfl) rfl (show x22.toNat + (cut l21 x22 (l21.length : Int)).length = l21.length by have h_ : 0 ≤ x22 ∧ x22 ≤ (l21.length : Int) ∧ (l21.length : Int) ≤ (l21.length : Int) := h34; rw [cut_length h_.1 h_.2.1 h_.2.2]; omega) ((cutR ((hS33.ow 0).ofO) h35.1 h35.2.1 h35.2.2)).1 (by kernel_rfl) (by kernel_rfl) [] (by decide) (by decide) (fun w36 hS37 => ?_)
    refine ⟨trivial, ?_⟩
    have hl38 := cpL_len (xs := l21) (ys := (cut l21 (0 : Int) x22)) (lo := x22.toNat) (by have h_ : 0 ≤ x22 ∧ x22 ≤ (l21.length : Int) ∧ (l21.length : Int) ≤ (l21.length : Int) := h34; omega)
    refine WL.reE [7, 38, 45] [(7, (.slice A19 l21.length c20)), (38, (iv x22)), (45, (iv (cpN (cut l21 (0 : Int) x22).length (cut l21 x22 (l21.length : Int)).length)))] [(7, (.slice A19 (cpL l21 x22.toNat (cut l21 (0 : Int) x22)).length c20)), (38, (iv x22)), (45, (iv (cpN (cut l21 (0 : Int) x22).length (cut l21 x22 (l21.length : Int)).length)))] rfl (by simp only [hl38]) ?_
    refine sg 10 [] [7, 8] [(7, (sv A19 (cpL l21 x22.toNat (cut l21 (0 : Int) x22)) c20)), (8, (iv (w64 e5)))] (by kernel_rfl) ?_
    refine WL.done rfl ?_
    exact WX.blockN (WX.again k27 (Nat.lt_succ_self _) (((cpL l21 x22.toNat (cut l21 (0 : Int) x22)), w64 e5), A19, c20) [7, 8] rfl ⟨(hS37.subR [0]).sub [0] (by decide), hl30⟩)
   refine WC.condF2 (fun fb => by kernel_rfl) h31 ?_
   refine WC.exit ?_
   injection hl30 with hl30
   exact WX.thenX (WX.thenX (WX.blockHere (WX.to Kx25 (l21, A19, c20) [7] rfl ⟨(hS29.subR [0]).sub [0] (by decide), hl30.symm⟩)))
 rintro ⟨y42, A23, c24⟩ w39 ⟨hS40, hq41⟩
 subst hq41
 refine WX.next (WC.seq (WC.region ?_))
 refine sg 2 [] [4] [(4, (sv A23 x25 c24))] (by kernel_rfl) ?_
 refine WL.done rfl (WX.next ?_)
 refine WC.ret ?_
 injection hf with hf
 subst hf
 exact WX.ret_ [] (sv A23 x25 c24) [] (fun fb => by kernel_rfl) trivial ⟨_, rfl, A23, c24, rfl, (hS40.sub [0] (by decide)).noR⟩
theorem beatty_lists_1_y_calls {σ τ : Type} (k : Nat) (f0 : Int) (yf : (List Int) → σ → Option (σ × Bool)) (sY : σ) (ga : Nat) (yl : Nat) (Y : σ → τ → Own) (tY : τ) (Rd : Own) (r : σ) (w : World) (hR0 : RO (fpL [Y sY tY]) w (Rd)) (hR1 : RO (fpL [Y sY tY]) w (blk ga (.cells #[(iv f0)] 3 (0, 0)))) (hI : IoOK w [Y sY tY]) (hY : ∀ (x0_ : List Int) (A0_ : Option Addr) (c0_ : Nat) (s_ : σ) (t_ : τ) (r_ : σ × Bool) (w_ : World), RO (fpL [Y s_ t_]) w_ (rowR encInt A0_ c0_ x0_) → RO (fpL [Y s_ t_]) w_ Rd → IoOK w_ [Y s_ t_] → yf x0_ s_ = some r_ → YieldR Tryz.prog (.func (.yield yl) #[] #[]) #[(sv A0_ x0_ c0_)] w_ (fun v_ w' => ∃ t1_, v_ = .bool r_.2 ∧ St (fpL [Y s_ t_]) w_ w' [] [Y r_.1 t1_])) (hf : beatty_lists_1_y k f0 yf sY = some r) :
  CallsR Tryz.prog 96 #[(.func (.yield yl) #[] #[]), (pt ga)] w (fun v w' => ∃ (t1_ : τ), v = (.tuple #[]) ∧ St (fpL [Y sY tY]) w w' [] [Y r t1_]) := by
 have hS : St (fpL [Y sY tY]) w w [Rd, blk ga (.cells #[(iv f0)] 3 (0, 0))] [Y sY tY] := St.initIO (ro_cons hR0 (ro_cons hR1 (ro_nil _ _))) hI
 refine enter 35 Tryz.func96 rfl Tryz.ntmps96 rfl ?_
 unfold beatty_lists_1_y at hf
 refine WC.seq (WC.region ?_)
 refine WL.new hS 5 [] (fun g => (.slice (some ⟨g, 0, none⟩) 1 1)) (.cells #[(iv (-3))] 3 (0, 0)) [] (fun fb g => by kernel_rfl) trivial (fun g3 w4 hS5 => ?_)
 refine ⟨trivial, ?_⟩
 have hS6 := hS.go w4 [rowO 3 encInt (some ⟨g3, 0, none⟩) 1 [(-3)], Y sY tY] (hS5.map1 0 _ (fun h => rowO.ofBlk h rfl (Nat.le_of_ble_eq_true (by kernel_rfl))) (fun _ h => by obtain ⟨_, h1, h2⟩ := h; injection h1 with h1; subst h1; exact h2) [1] (by decide) (by decide))
 refine seg 2 [.v (iv f0)] [0, 1, 5, 6] [(0, (.func (.yield yl) #[] #[])), (1, (pt ga)), (5, (sv (some ⟨g3, 0, none⟩) [(-3)] 1)), (6, (iv f0))] [.cell ⟨ga, 0, none⟩ (iv f0)] (fun fb => by kernel_rfl) rfl ⟨blk_cell (hS6.rd 1).1 0 rfl, trivial⟩ ?_
 obtain ⟨t7, ht8, hf⟩ := bind_some hf
 refine WL.call (some 7) 97 #[(sv (some ⟨g3, 0, none⟩) [(-3)] 1), (iv f0)] (fun fb => by kernel_rfl) (slices_Repeat_int_int_calls _ [(-3)] f0 (some ⟨g3, 0, none⟩) 1 t7 _ (hS6.ow 0).ofO ht8) (fun v w9 hR10 => ?_)
 obtain ⟨A12, c13, rfl, hk_⟩ := hR10
 have hS11 := hS6.go w9 [rowO 3 encInt A12 c13 t7, rowO 3 encInt (some ⟨g3, 0, none⟩) 1 [(-3)], Y sY tY] (hS6.call hk_ [] [0, 1] (fun g hg => hg.elim) (by simp) (by decide))
 refine ⟨trivial, ?_⟩
 refine sg 4 [] [0, 1, 3] [(0, (.func (.yield yl) #[] #[])), (1, (pt ga)), (3, (sv A12 t7 c13))] (by kernel_rfl) ?_
 refine WL.done rfl (WX.next ?_)
 obtain ⟨x20, hx21, hf⟩ := bind_some hf
 let e1 : Nat × Value := (1, (pt ga))
 refine WC.cutN (T := σ × τ) (fun t => []) (fun t w1 => St (fpL [Y sY tY]) w w1 [Rd, blk ga (.cells #[(iv f0)] 3 (0, 0))] [Y t.1 t.2] ∧ x20 = .inr t.1) (fun Kx20 => ?_) ?_
 ·
  refine WC.block ?_
  refine WC.loop (T := ((List Int) × σ) × (Option Addr) × Nat × τ) (fun t => [(0, (.func (.yield yl) #[] #[])), e1, (3, (sv t.2.1 t.1.1 t.2.2.1))]) (fun n t w1 => St (fpL [Y sY tY]) w w1 [Rd, blk ga (.cells #[(iv f0)] 3 (0, 0))] [rowO 3 encInt t.2.1 t.2.2.1 t.1.1, Y t.1.2 t.2.2.2] ∧ beatty_lists_1_y.l0 n t.1.1 t.1.2 f0 yf = some x20) k ((t7, sY), A12, c13, tY) [0, 1, 3] rfl ⟨(hS11.subR [0, 1]).sub [0, 2] (by decide), hx21⟩ ?_
  rintro k22 ⟨⟨l16, s17⟩, A14, c15, tt18⟩ w23 ⟨hS24, hl25⟩
  cases k22 with
  | zero => rw [beatty_lists_1_y.l0] at hl25; cases hl25
  | succ k22 =>
   rw [beatty_lists_1_y.l0] at hl25
   refine WC.seq (WC.seq (WC.region ?_))
   refine sg 2 [] [0, 1, 3, 8, 9] [(0, (.func (.yield yl) #[] #[])), e1, (3, (sv A14 l16 c15)), (8, (.func (.yield yl) #[] #[])), (9, (sv A14 l16 c15))] (by kernel_rfl) ?_
   obtain ⟨t26, ht27, hl25⟩ := bind_some hl25
   refine WL.yield (some 10) (.func (.yield yl) #[] #[]) #[(sv A14 l16 c15)] (fun fb => by kernel_rfl) (hY l16 A14 c15 s17 tt18 t26 _ (hS24.owT [1] 0 (by decide)).ofO (hS24.rdT [1] 0) (hS24.io [1] (by decide)) ht27) (fun v w28 hR29 => ?_)
   obtain ⟨tt31, rfl, hk_⟩ := hR29
   have hS30 := hS11.go w28 [Y t26.1 tt31, rowO 3 encInt A14 c15 l16] (hS24.call hk_ [1] [0] (fun g hg => fpL_sel g hg) (by decide) (by decide))
   refine ⟨trivial, ?_⟩
   refine WL.done rfl (WX.next ?_)
   rcases br_some hl25 with ⟨h32, hl25⟩ | ⟨h32, hl25⟩
   ·refine WC.condT2 (fun fb => by kernel_rfl) h32 ?_
    refine WC.skip (WX.next (WC.block (WC.seq (WC.region ?_))))
    refine seg 3 [.v (iv f0)] [0, 1, 3, 4] [(0, (.func (.yield yl) #[] #[])), e1, (3, (sv A14 l16 c15)), (4, (iv (w64 (f0 - 1))))] [.cell ⟨ga, 0, none⟩ (iv f0)] (fun fb => by kernel_rfl) rfl ⟨blk_cell (hS30.rd 1).1 0 rfl, trivial⟩ ?_
    refine WL.done rfl (WX.next (WC.seq ?_))
    obtain ⟨x39, hx40, hl25⟩ := bind_some hl25
    refine WC.cutN (T := ((List Int) × Int) × (Option Addr) × Nat) (fun t => [(0, (.func (.yield yl) #[] #[])), e1, (3, (sv t.2.1 t.1.1 t.2.2)), (4, (iv t.1.2))]) (fun t w1 => St (fpL [Y sY tY]) w w1 [Rd, blk ga (.cells #[(iv f0)] 3 (0, 0))] [rowO 3 encInt t.2.1 t.2.2 t.1.1, Y t26.1 tt31] ∧ x39 = t.1) (fun Kx39 => ?_) ?_
    ·
     refine WC.block ?_
     refine WC.loop (T := ((List Int) × Int) × (Option Addr) × Nat) (fun t => [(0, (.func (.yield yl) #[] #[])), e1, (3, (sv t.2.1 t.1.1 t.2.2)), (4, (iv t.1.2))]) (fun n t w1 => St (fpL [Y sY tY]) w w1 [Rd, blk ga (.cells #[(iv f0)] 3 (0, 0))] [rowO 3 encInt t.2.1 t.2.2 t.1.1, Y t26.1 tt31] ∧ beatty_lists_1_y.l1 n t.1.1 t.1.2 = some x39) k22 ((l16, w64 (f0 - 1)), A14, c15) [0, 1, 3, 4] rfl ⟨(hS30.subR [0, 1]).sub [1, 0] (by decide), hx40⟩ ?_
     rintro k41 ⟨⟨l35, x36⟩, A33, c34⟩ w42 ⟨hS43, hl44⟩
     let e2 : Nat × Value := (3, (sv A33 l35 c34))
     let e3 : Nat × Value := (4, (iv x36))
     cases k41 with
     | zero => rw [beatty_lists_1_y.l1] at hl44; cases hl44
     | succ k41 =>
      rw [beatty_lists_1_y.l1] at hl44
      refine WC.seq (WC.seq (WC.region ?_))
      refine sg 3 [] [0, 1, 3, 4, 15] [(0, (.func (.yield yl) #[] #[])), e1, e2, e3, (15, (bv (decide (x36 ≥ 0))))] (by kernel_rfl) ?_
      obtain ⟨b45, hv46, hl44⟩ := bind_some hl44
      refine WL.cutV (T := Unit) 9 (fun t => [(21, (bv b45)), (0, (.func (.yield yl) #[] #[])), e1, e2, e3]) (fun t => True) (fun K => ?_) ?_
      ·
       rcases br_some hv46 with ⟨h47, hv46⟩ | ⟨h47, hv46⟩
       ·
        refine WL.setB 15 h47 rfl ?_
        refine sg 5 [] [0, 1, 3, 4, 15, 16, 17] [(0, (.func (.yield yl) #[] #[])), e1, e2, e3, (15, (bv true)), (16, (sv A33 l35 c34)), (17, (iv x36))] (by kernel_rfl) ?_
        obtain ⟨h48, hv46⟩ := as_some hv46
        refine seg 9 [.v (iv (rdD l35 x36 0))] [0, 1, 3, 4, 21] [(0, (.func (.yield yl) #[] #[])), e1, e2, e3, (21, (bv ((rdD l35 x36 0) == 3)))] [.idx A33 x36 l35.length, .cell ((adr A33).add ((x36).toNat * 1)) (iv (rdD l35 x36 0))] (fun fb => by kernel_rfl) rfl ⟨rowR.adr (rowO.rd (hS43.own 0).1) h48.1 h48.2, rowR.cell (rowO.rd (hS43.own 0).1) 0 h48.1 h48.2 0 rfl, trivial⟩ ?_
        injection hv46 with hv46
        subst hv46
        exact WL.toV K () [21, 0, 1, 3, 4] rfl trivial
       refine WL.setB 15 h47 rfl ?_
       refine sg 9 [] [0, 1, 3, 4, 21] [(0, (.func (.yield yl) #[] #[])), e1, e2, e3, (21, (bv false))] (by kernel_rfl) ?_
       injection hv46 with hv46
       subst hv46
       exact WL.toV K () [21, 0, 1, 3, 4] rfl trivial
      rintro _ _
      refine WL.done rfl (WX.next ?_)
      rcases br_some hl44 with ⟨h49, hl44⟩ | ⟨h49, hl44⟩
      ·refine WC.condT2 (fun fb => by kernel_rfl) h49 ?_
       refine WC.skip (WX.next (WC.seq (WC.block (WC.region ?_))))
       refine sg 2 [] [0, 1, 3, 4, 24, 25] [(0, (.func (.yield yl) #[] #[])), e1, e2, e3, (24, (sv A33 l35 c34)), (25, (iv x36))] (by kernel_rfl) ?_
       obtain ⟨h50, hl44⟩ := as_some hl44
       refine seg 3 [] [0, 1, 3, 4, 26] [(0, (.func (.yield yl) #[] #[])), e1, e2, e3, (26, (.pointer (some ((adr A33).add ((x36).toNat * 1)))))] [.idx A33 x36 l35.length] (fun fb => by kernel_rfl) rfl ⟨rowR.adr (rowO.rd (hS43.own 0).1) h50.1 h50.2, trivial⟩ ?_
       refine WL.storeRow hS43 0 rfl (x36) ((-3)) (0) [(0, (iv (-3)))] (fun fb => by kernel_rfl) h50.1 h50.2 (by kernel_rfl) rfl [1] (by decide) (by decide) (fun w51 hS52 => ?_)
       refine ⟨trivial, ?_⟩
       refine WL.reE [0, 1, 3, 4] [(0, (.func (.yield yl) #[] #[])), (1, (pt ga)), (3, (.slice A33 l35.length c34)), (4, (iv x36))] [(0, (.func (.yield yl) #[] #[])), (1, (pt ga)), (3, (.slice A33 (l35.set (x36).toNat (-3)).length c34)), (4, (iv x36))] rfl (by simp only [List.length_set]) ?_
       refine WL.done rfl ?_
       refine WX.blockN (WX.next ?_)
       refine WC.region ?_
       refine sg 3 [] [0, 1, 3, 4] [(0, (.func (.yield yl) #[] #[])), e1, (3, (sv A33 (l35.set (x36).toNat (-3)) c34)), (4, (iv (w64 (x36 - 1))))] (by kernel_rfl) ?_
       refine WL.done rfl ?_
       exact WX.again k41 (Nat.lt_succ_self _) ((l35.set (x36).toNat (-3), w64 (x36 - 1)), A33, c34) [0, 1, 3, 4] rfl ⟨(hS52.subR [0, 1]).sub [0, 1] (by decide), hl44⟩
      refine WC.condF2 (fun fb => by kernel_rfl) h49 ?_
      refine WC.exit ?_
      injection hl44 with hl44
      exact WX.thenX (WX.thenX (WX.blockHere (WX.to Kx39 ((l35, x36), A33, c34) [0, 1, 3, 4] rfl ⟨(hS43.subR [0, 1]).sub [0, 1] (by decide), hl44.symm⟩)))
    rintro ⟨y56, A37, c38⟩ w53 ⟨hS54, hq55⟩
    subst hq55
    refine WX.next (WC.seq (WC.seq (WC.region ?_)))
    refine sg 2 [] [0, 1, 3, 4, 28] [(0, (.func (.yield yl) #[] #[])), e1, (3, (sv A37 x39.1 c38)), (4, (iv x39.2)), (28, (bv (decide (x39.2 < 0))))] (by kernel_rfl) ?_
    refine WL.done rfl (WX.next ?_)
    rcases br_some hl25 with ⟨h57, hl25⟩ | ⟨h57, hl25⟩
    ·refine WC.condT2 (fun fb => by kernel_rfl) h57 ?_
     refine WC.ret ?_
     injection hl25 with hl25
     subst hl25
     injection hf with hf
     subst hf
     exact WX.thenR (WX.blockR (WX.thenR (WX.blockR (WX.ret_ [] (.tuple #[]) [] (fun fb => by kernel_rfl) trivial ⟨_, rfl, tt31, rfl, (hS54.sub [1] (by decide)).noR⟩))))
    refine WC.condF2 (fun fb => by kernel_rfl) h57 ?_
    refine WC.skip (WX.next (WC.region ?_))
    refine sg 2 [] [0, 1, 3, 29, 30] [(0, (.func (.yield yl) #[] #[])), e1, (3, (sv A37 x39.1 c38)), (29, (sv A37 x39.1 c38)), (30, (iv x39.2))] (by kernel_rfl) ?_
    obtain ⟨h58, hl25⟩ := as_some hl25
    refine seg 6 [.v (iv (rdD x39.1 x39.2 0))] [0, 1, 3, 33, 34] [(0, (.func (.yield yl) #[] #[])), e1, (3, (sv A37 x39.1 c38)), (33, (iv (w64 ((rdD x39.1 x39.2 0) + 1)))), (34, (.pointer (some ((adr A37).add ((x39.2).toNat * 1)))))] [.idx A37 x39.2 x39.1.length, .cell ((adr A37).add ((x39.2).toNat * 1)) (iv (rdD x39.1 x39.2 0)), .idx A37 x39.2 x39.1.length] (fun fb => by kernel_rfl) rfl ⟨rowR.adr (rowO.rd (hS54.own 0).1) h58.1 h58.2, rowR.cell (rowO.rd (hS54.own 0).1) 0 h58.1 h58.2 0 rfl, rowR.adr (rowO.rd (hS54.own 0).1) h58.1 h58.2, trivial⟩ ?_
    refine WL.storeRow hS54 0 rfl (x39.2) (w64 ((rdD x39.1 x39.2 0) + 1)) (0) [(0, (iv (w64 ((rdD x39.1 x39.2 0) + 1))))] (fun fb => by kernel_rfl) h58.1 h58.2 (by kernel_rfl) rfl [1] (by decide) (by decide) (fun w59 hS60 => ?_)
    refine ⟨trivial, ?_⟩
    refine WL.reE [0, 1, 3] [(0, (.func (.yield yl) #[] #[])), (1, (pt ga)), (3, (.slice A37 x39.1.length c38))] [(0, (.func (.yield yl) #[] #[])), (1, (pt ga)), (3, (.slice A37 (x39.1.set (x39.2).toNat (w64 ((rdD x39.1 x39.2 0) + 1))).length c38))] rfl (by simp only [List.length_set]) ?_
    refine WL.done rfl ?_
    exact WX.blockN (WX.again k22 (Nat.lt_succ_self _) ((x39.1.set (x39.2).toNat (w64 ((rdD x39.1 x39.2 0) + 1)), t26.1), A37, c38, tt31) [0, 1, 3] rfl ⟨(hS60.subR [0, 1]).sub [0, 1] (by decide), hl25⟩)
   refine WC.condF2 (fun fb => by kernel_rfl) h32 ?_
   refine WC.exit ?_
   injection hl25 with hl25
   exact WX.thenX (WX.thenX (WX.blockHere (WX.to Kx20 (t26.1, tt31) [] rfl ⟨(hS30.subR [0, 1]).sub [0] (by decide), hl25.symm⟩)))
 rintro ⟨y65, tt19⟩ w61 ⟨hS62, hq63⟩
 subst hq63
 have hf := sum_inr hf
 injection hf with hf
 subst hf
 exact WX.end_ [] (.tuple #[]) [] (fun fb => by kernel_rfl) trivial ⟨_, rfl, tt19, rfl, (hS62.sub [0] (by decide)).noR⟩
theorem beatty_logsOf_calls (k : Nat) (p0 : List Piece) (p1 : List Int) (Aa : Option Addr) (ca : Nat) (Ab : Option Addr) (cb : Nat) (r : (List Int) × Bool) (w : World) (hR0 : RO NoS w (rowR enc_Piece Aa ca p0)) (hR1 : RO NoS w (rowR encInt Ab cb p1)) (hf : beatty_logsOf k p0 p1 = some r) :
  CallsR Tryz.prog 47 #[(sv Aa p0 ca), (sv Ab p1 cb)] w (fun v w' => ∃ (A1_ : Option Addr), ∃ (c1_ : Nat), v = (.tuple #[(sv A1_ r.1 c1_), (bv r.2)]) ∧ St NoS w w' [] [rowO 3 encInt A1_ c1_ r.1]) := by
 have hS : St NoS w w [rowR enc_Piece Aa ca p0, rowR encInt Ab cb p1] [] := St.init (ro_cons hR0 (ro_cons hR1 (ro_nil _ _)))
 refine enter 36 Tryz.func47 rfl Tryz.ntmps47 rfl ?_
 unfold beatty_logsOf at hf
 refine WC.seq (WC.region ?_)
 refine WL.new hS 4 [] (fun g => (pt g)) (.cells #[(.slice none 0 0)] 35 (0, 0)) [] (fun fb g => by kernel_rfl) trivial (fun g3 w4 hS5 => ?_)
 refine ⟨trivial, ?_⟩
 refine WL.new hS5 5 [] (fun g => (pt g)) (.cells #[(bv false)] 4 (0, 0)) [] (fun fb g => by kernel_rfl) trivial (fun g6 w7 hS8 => ?_)
 refine ⟨trivial, ?_⟩
 refine WL.done rfl (WX.next (WC.seq (WC.region ?_)))
 refine WL.new hS8 6 [] (fun g => (pt g)) (.cells #[(.slice none 0 0)] 122 (0, 0)) [] (fun fb g => by kernel_rfl) trivial (fun g9 w10 hS11 => ?_)
 refine ⟨trivial, ?_⟩
 refine WL.done rfl (WX.next (WC.seq (WC.seq (WC.region ?_))))
 refine sg 3 [] [1, 4, 5, 6, 11, 12, 13] [(1, (sv Ab p1 cb)), (4, (pt g3)), (5, (pt g6)), (6, (pt g9)), (11, (sv Aa p0 ca)), (12, (iv (p0.length : Int))), (13, (iv 0))] (by kernel_rfl) ?_
 refine WL.done rfl (WX.next ?_)
 have hS12 := hS.go w10 [rowO 35 (encSl Int) none 0 (tag hf0 ([] : List (List Int))), blk g9 (.cells #[(.slice none 0 0)] 122 (0, 0)), blk g6 (.cells #[(bv false)] 4 (0, 0)), blk g3 (.cells #[(.slice none 0 0)] 35 (0, 0))] (hS11.nilrow 35 (encSl Int))
 have hS13 := hS12.go w10 [rowsO 3 encInt hf0 ([] : List (List Int)), rowO 35 (encSl Int) none 0 (tag hf0 ([] : List (List Int))), blk g9 (.cells #[(.slice none 0 0)] 122 (0, 0)), blk g6 (.cells #[(bv false)] 4 (0, 0)), blk g3 (.cells #[(.slice none 0 0)] 35 (0, 0))] (hS12.rowsNil 3 encInt 0)
 obtain ⟨x22, hx23, hf⟩ := bind_some hf
 let e7 : Nat × Value := (12, (iv (p0.length : Int)))
 let e9 : Nat × Value := (1, (sv Ab p1 cb))
 let e11 : Nat × Value := (11, (sv Aa p0 ca))
 let e12 := encSl Int
 refine WC.cutN (T := (List (List Int)) × (Option Addr) × Nat × HF) (fun t => [e9, (4, (pt g3)), (5, (pt g6)), (6, (pt g9))]) (fun t w1 => St NoS w w1 [rowR enc_Piece Aa ca p0, rowR encInt Ab cb p1] [blk g3 (.cells #[(.slice none 0 0)] 35 (0, 0)), blk g6 (.cells #[(bv false)] 4 (0, 0)), blk g9 (.cells #[(sv t.2.1 t.1 t.2.2.1)] 122 (0, 0)), rowO 35 e12 t.2.1 t.2.2.1 (tag t.2.2.2 t.1), rowsO 3 encInt t.2.2.2 t.1] ∧ x22 = t.1) (fun Kx22 => ?_) ?_
 ·
  refine WC.block ?_
  refine WC.loop (T := ((List (List Int)) × Int) × (Option Addr) × Nat × HF) (fun t => [e9, (4, (pt g3)), (5, (pt g6)), (6, (pt g9)), e11, e7, (13, (iv t.1.2))]) (fun n t w1 => St NoS w w1 [rowR enc_Piece Aa ca p0, rowR encInt Ab cb p1] [blk g3 (.cells #[(.slice none 0 0)] 35 (0, 0)), blk g6 (.cells #[(bv false)] 4 (0, 0)), blk g9 (.cells #[(sv t.2.1 t.1.1 t.2.2.1)] 122 (0, 0)), rowO 35 e12 t.2.1 t.2.2.1 (tag t.2.2.2 t.1.1), rowsO 3 encInt t.2.2.2 t.1.1] ∧ beatty_logsOf.l0 n t.1.1 t.1.2 p0 p1 = some x22) k ((([] : List (List Int)), 0), none, 0, hf0) [1, 4, 5, 6, 11, 12, 13] rfl ⟨(hS13.subR [0, 1]).sub [4, 3, 2, 1, 0] (by decide), hx23⟩ ?_
  rintro k24 ⟨⟨l16, x18⟩, A14, c15, H17⟩ w25 ⟨hS26, hl27⟩
  let e1 := rdD p0 x18 z_Piece
  let e2 : Array Value := #[(iv ((e1.Factor).Num)), (iv ((e1.Factor).Den)), (iv ((e1.Low).Num)), (iv ((e1.Low).Den)), (iv ((e1.High).Num)), (iv ((e1.High).Den))]
  let e3 := (adr Aa).add ((x18).toNat * 6)
  let e5 := iv ((e1.Factor).Num)
  let e6 := iv ((e1.Factor).Den)
  let e8 := sv A14 l16 c15
  cases k24 with
  | zero => rw [beatty_logsOf.l0] at hl27; cases hl27
  | succ k24 =>
   rw [beatty_logsOf.l0] at hl27
   refine WC.seq (WC.region ?_)
   refine sg 1 [] [1, 4, 5, 6, 11, 12, 13, 14] [e9, (4, (pt g3)), (5, (pt g6)), (6, (pt g9)), e11, e7, (13, (iv x18)), (14, (bv (decide (x18 < (p0.length : Int)))))] (by kernel_rfl) ?_
   refine WL.done rfl (WX.next (WC.seq ?_))
   rcases br_some hl27 with ⟨h28, hl27⟩ | ⟨h28, hl27⟩
   ·refine WC.condT2 (fun fb => by kernel_rfl) h28 ?_
    refine WC.skip (WX.next (WC.seq (WC.block (WC.seq (WC.region ?_)))))
    obtain ⟨h29, hl27⟩ := as_some hl27
    refine seg 2 [.v e5, .v e6, .v (iv ((e1.Low).Num)), .v (iv ((e1.Low).Den)), .v (iv ((e1.High).Num)), .v (iv ((e1.High).Den))] [1, 4, 5, 6, 11, 12, 13, 16] [e9, (4, (pt g3)), (5, (pt g6)), (6, (pt g9)), e11, e7, (13, (iv x18)), (16, (.agg e2))] [.idx Aa x18 p0.length, .cell e3 e5, .cell (e3.add 1) e6, .cell (e3.add 2) (iv ((e1.Low).Num)), .cell (e3.add 3) (iv ((e1.Low).Den)), .cell (e3.add 4) (iv ((e1.High).Num)), .cell (e3.add 5) (iv ((e1.High).Den))] (fun fb => by kernel_rfl) rfl ⟨rowR.adr (hS26.rd 0).1 h29.1 h29.2, rowR.cell (hS26.rd 0).1 z_Piece h29.1 h29.2 0 rfl, rowR.cell (hS26.rd 0).1 z_Piece h29.1 h29.2 1 rfl, rowR.cell (hS26.rd 0).1 z_Piece h29.1 h29.2 2 rfl, rowR.cell (hS26.rd 0).1 z_Piece h29.1 h29.2 3 rfl, rowR.cell (hS26.rd 0).1 z_Piece h29.1 h29.2 4 rfl, rowR.cell (hS26.rd 0).1 z_Piece h29.1 h29.2 5 rfl, trivial⟩ ?_
    refine WL.new hS26 8 [] (fun g => (pt g)) (.cells #[(iv 0), (iv 0), (iv 0), (iv 0), (iv 0), (iv 0)] 66 (0, 0)) [] (fun fb g => by kernel_rfl) trivial (fun g30 w31 hS32 => ?_)
    refine ⟨trivial, ?_⟩
    refine WL.store hS32 0 rfl [(0, e5), (1, e6), (2, (iv ((e1.Low).Num))), (3, (iv ((e1.Low).Den))), (4, (iv ((e1.High).Num))), (5, (iv ((e1.High).Den)))] e2 (fun fb => by kernel_rfl) (by kernel_rfl) rfl [1, 2, 3, 4, 5] (by decide) (by decide) (fun w33 hS34 => ?_)
    refine ⟨trivial, ?_⟩
    refine WL.done rfl (WX.next ?_)
    refine WC.regionD ([(0, ⟨g9, 0, none⟩, e8), (2, ⟨g30, 0, none⟩, e5), (2, ⟨g30, 1, none⟩, e6)], [0, 1, 2, 3], [[], [], [1], [], [1, 2, 3], [1, 2, 3, 4], [0, 1, 2, 3, 4, 5], [0, 1, 2, 3, 4, 5, 6]]) [[0, 1, 2, 3, 4, 5, 6, 7]] (by kernel_rfl) (by kernel_rfl) (NoPanic.block (NoPanic.seq (NoPanic.seq (NoPanic.block (NoPanic.seq (NoPanic.body)))))) ?_
    have hS36 := hS34.drew
    revert hS36
    generalize World.drew w33 = w35
    intro hS36
    refine ⟨⟨hS36.cell 3 rfl 0 rfl, hS36.cell 0 rfl 0 rfl, hS36.cell 0 rfl 1 rfl, trivial⟩, forallC ?_ (forallN)⟩
    refine segF 4 [.v e8, .v e5, .v e6] [1, 4, 5, 6, 11, 12, 13, 17, 19, 20] [e9, (4, (pt g3)), (5, (pt g6)), (6, (pt g9)), e11, e7, (13, (iv x18)), (17, e8), (19, (.agg #[e5, e6])), (20, (sv Ab p1 cb))] [] [0, 1, 2] [(0, ⟨g9, 0, none⟩, e8), (2, ⟨g30, 0, none⟩, e5), (2, ⟨g30, 1, none⟩, e6)] (fun fb => by kernel_rfl) rfl trivial rfl ?_
    obtain ⟨t37, ht38, hl27⟩ := bind_some hl27
    refine WL.call (some 21) 74 #[(.agg #[e5, e6]), (sv Ab p1 cb)] (fun fb => by kernel_rfl) (beatty_exponents_calls _ (e1.Factor) p1 Ab cb t37 _ (hS36.rd 1) ht38) (fun v w39 hR40 => ?_)
    obtain ⟨A42, c43, rfl, hk_⟩ := hR40
    have hS41 := hS13.go w39 [rowO 3 encInt A42 c43 t37, blk g30 (.cells #[(iv (((rdD p0 x18 z_Piece).Factor).Num)), (iv (((rdD p0 x18 z_Piece).Factor).Den)), (iv (((rdD p0 x18 z_Piece).Low).Num)), (iv (((rdD p0 x18 z_Piece).Low).Den)), (iv (((rdD p0 x18 z_Piece).High).Num)), (iv (((rdD p0 x18 z_Piece).High).Den))] 66 (0, 0)), blk g3 (.cells #[(.slice none 0 0)] 35 (0, 0)), blk g6 (.cells #[(.bool false)] 4 (0, 0)), blk g9 (.cells #[(.slice A14 l16.length c15)] 122 (0, 0)), rowO 35 (encSl Int) A14 c15 (tag H17 l16), rowsO 3 encInt H17 l16] (hS36.call hk_ [] [0, 1, 2, 3, 4, 5] (fun g hg => hg.elim) (by simp) (by decide))
    refine ⟨⟨hS41.cell 4 rfl 0 rfl, trivial⟩, ?_⟩
    refine WL.new hS41 22 [] (fun g => (.slice (some ⟨g, 0, none⟩) 1 1)) (.cells #[(sv A42 t37 c43)] 35 (0, 0)) [] (fun fb g => by kernel_rfl) trivial (fun g44 w45 hS46 => ?_)
    refine ⟨⟨hS46.cell 5 rfl 0 rfl, trivial⟩, ?_⟩
    have hS48 := hS41.go w45 [rowO 35 e12 (some ⟨g44, 0, none⟩) 1 (tag (fun _ => (A42, c43)) [t37]), rowO 3 encInt A42 c43 t37, blk g30 (.cells e2 66 (0, 0)), blk g3 (.cells #[(.slice none 0 0)] 35 (0, 0)), blk g6 (.cells #[(bv false)] 4 (0, 0)), blk g9 (.cells #[e8] 122 (0, 0)), rowO 35 e12 A14 c15 (tag H17 l16), rowsO 3 encInt H17 l16] (hS46.map1 0 _ (fun h => rowO.ofBlk h rfl (Nat.le_of_ble_eq_true (by kernel_rfl))) (fun _ h => by obtain ⟨_, h1, h2⟩ := h; injection h1 with h1; subst h1; exact h2) [1, 2, 3, 4, 5, 6, 7] (by decide) (by decide))
    have hS49 := hS48.go w45 [rowsO 3 encInt (fun _ => (A42, c43)) [t37], rowO 35 e12 (some ⟨g44, 0, none⟩) 1 (tag (fun _ => (A42, c43)) [t37]), blk g30 (.cells e2 66 (0, 0)), blk g3 (.cells #[(.slice none 0 0)] 35 (0, 0)), blk g6 (.cells #[(bv false)] 4 (0, 0)), blk g9 (.cells #[e8] 122 (0, 0)), rowO 35 e12 A14 c15 (tag H17 l16), rowsO 3 encInt H17 l16] (hS48.rowsOne 1 rfl [0, 2, 3, 4, 5, 6, 7] (by decide) (by decide))
    obtain ⟨h50, hl27⟩ := as_some hl27
    refine WL.appendN hS49 6 (d := 23) (tS := 122) (z := (.slice none 0 0)) (bytes := 24) (c2 := 1) (hx := (A42, c43)) (x := t37) rfl (fun fb => by kernel_rfl) (rowO.rd (hS49.own 1).1) (by kernel_rfl) (by kernel_rfl) rfl (by decide) h50 (by decide) [0, 1, 2, 3, 4, 5, 7] (by decide) (by decide) (fun A51 c52 w53 hS54 => ?_)
    have hS55 := hS49.go w53 [rowsO 3 encInt (updH H17 l16.length (A42, c43)) (l16 ++ [t37]), rowO 35 e12 A51 c52 (tag (updH H17 l16.length (A42, c43)) (l16 ++ [t37])), rowO 35 e12 (some ⟨g44, 0, none⟩) 1 (tag (fun _ => (A42, c43)) [t37]), blk g30 (.cells e2 66 (0, 0)), blk g3 (.cells #[(.slice none 0 0)] 35 (0, 0)), blk g6 (.cells #[(bv false)] 4 (0, 0)), blk g9 (.cells #[e8] 122 (0, 0))] (hS54.rowsPush 7 1 rfl rfl (by decide) [0, 2, 3, 4, 5, 6] (by decide) (by decide))
    refine ⟨trivial, ?_⟩
    refine WL.store hS55 6 rfl [(0, (sv A51 (l16 ++ [t37]) c52))] #[(sv A51 (l16 ++ [t37]) c52)] (fun fb => by kernel_rfl) (by kernel_rfl) rfl [0, 1, 2, 3, 4, 5] (by decide) (by decide) (fun w56 hS57 => ?_)
    refine ⟨trivial, ?_⟩
    refine WL.done rfl ?_
    refine WX.blockN (WX.next ?_)
    refine WC.region ?_
    refine sg 2 [] [1, 4, 5, 6, 11, 12, 13] [e9, (4, (pt g3)), (5, (pt g6)), (6, (pt g9)), e11, e7, (13, (iv (w64 (x18 + 1))))] (by kernel_rfl) ?_
    refine WL.done rfl ?_
    exact WX.again k24 (Nat.lt_succ_self _) ((l16 ++ [t37], w64 (x18 + 1)), A51, c52, (updH H17 l16.length (A42, c43))) [1, 4, 5, 6, 11, 12, 13] rfl ⟨(hS57.subR [0, 1]).sub [5, 6, 0, 2, 1] (by decide), hl27⟩
   refine WC.condF2 (fun fb => by kernel_rfl) h28 ?_
   refine WC.exit ?_
   injection hl27 with hl27
   exact WX.thenX (WX.thenX (WX.blockHere (WX.to Kx22 (l16, A14, c15, H17) [1, 4, 5, 6] rfl ⟨(hS26.subR [0, 1]).sub [0, 1, 2, 3, 4] (by decide), hl27.symm⟩)))
 rintro ⟨y61, A19, c20, H21⟩ w58 ⟨hS59, hq60⟩
 subst hq60
 refine WX.next (WC.seq (WC.seq (WC.region ?_)))
 refine sg 2 [] [4, 5, 6, 26] [(4, (pt g3)), (5, (pt g6)), (6, (pt g9)), (26, (iv (p1.length : Int)))] (by kernel_rfl) ?_
 obtain ⟨t62, ht63, hf⟩ := bind_some hf
 refine WL.call (some 27) 75 #[(iv (p1.length : Int))] (fun fb => by kernel_rfl) (beatty_lists_calls (p1.length : Int) t62 _ ht63) (fun v w65 hR66 => ?_)
 obtain ⟨g68, rfl, hk_⟩ := hR66
 have hS67 := hS13.go w65 [blk g68 (.cells #[(iv (p1.length : Int))] 3 (0, 0)), blk g3 (.cells #[(.slice none 0 0)] 35 (0, 0)), blk g6 (.cells #[(.bool false)] 4 (0, 0)), blk g9 (.cells #[(.slice A19 x22.length c20)] 122 (0, 0)), rowO 35 (encSl Int) A19 c20 (tag H21 x22), rowsO 3 encInt H21 x22] (hS59.call hk_ [] [0, 1, 2, 3, 4] (fun g hg => hg.elim) (by simp) (by decide))
 refine ⟨trivial, ?_⟩
 refine WL.done rfl (WX.next (WC.block ?_))
 have hS69 := hS67.nilrow 3 encInt
 refine WC.rangeO hS69 (fun _ _ h => h) rfl (gf := 96) (lb := [(pt g68)]) (fun fb => by kernel_rfl) (fun _ => by kernel_rfl) (fun LO74 LB75 LX77 l78 D79 w80 hK81 hS82 => ?_)
 have hS83 := hS67.go w80 [(fun (s_ : ((List Int) × Bool) × Int) (t_ : (Option Addr) × Nat) => sepO (blk l78 (LO74 (pendN [.ret] s_.2)) :: [blk g3 (.cells #[(sv t_.1 s_.1.1 t_.2)] 35 (0, 0)), rowO 3 encInt t_.1 t_.2 s_.1.1, blk g6 (.cells #[(bv s_.1.2)] 4 (0, 0)), blk g9 (.cells #[(sv A19 x22 c20)] 122 (0, 0)), rowO 35 (encSl Int) A19 c20 (tag H21 x22), rowsO 3 encInt H21 x22])) ((([] : List Int), false), (0 : Int)) (none, 0), blk D79 (.deferred (some [])), blk g68 (.cells #[(iv (p1.length : Int))] 3 (0, 0))] (hS82.pack [0, 4, 2, 5, 6, 7, 8] [1, 3] (by decide) (by decide) (by decide))
 let e4 := sv A19 x22 c20
 let e10 := tag H21 x22
 have hY87 : ∀ (x0_ : List Int) (A0_ : Option Addr) (c0_ : Nat) (s_ : ((List Int) × Bool) × Int) (t_ : (Option Addr) × Nat) (r_ : (((List Int) × Bool) × Int) × Bool) (w_ : World), RO (fpL [(fun (s_ : ((List Int) × Bool) × Int) (t_ : (Option Addr) × Nat) => sepO (blk l78 (LO74 (pendN [.ret] s_.2)) :: [blk g3 (.cells #[(sv t_.1 s_.1.1 t_.2)] 35 (0, 0)), rowO 3 encInt t_.1 t_.2 s_.1.1, blk g6 (.cells #[(bv s_.1.2)] 4 (0, 0)), blk g9 (.cells #[e4] 122 (0, 0)), rowO 35 (encSl Int) A19 c20 e10, rowsO 3 encInt H21 x22])) s_ t_]) w_ (rowR encInt A0_ c0_ x0_) → RO (fpL [(fun (s_ : ((List Int) × Bool) × Int) (t_ : (Option Addr) × Nat) => sepO (blk l78 (LO74 (pendN [.ret] s_.2)) :: [blk g3 (.cells #[(sv t_.1 s_.1.1 t_.2)] 35 (0, 0)), rowO 3 encInt t_.1 t_.2 s_.1.1, blk g6 (.cells #[(bv s_.1.2)] 4 (0, 0)), blk g9 (.cells #[e4] 122 (0, 0)), rowO 35 (encSl Int) A19 c20 e10, rowsO 3 encInt H21 x22])) s_ t_]) w_ (poolO [rowR enc_Piece Aa ca p0, rowR encInt Ab cb p1]) → IoOK w_ [(fun (s_ : ((List Int) × Bool) × Int) (t_ : (Option Addr) × Nat) => sepO (blk l78 (LO74 (pendN [.ret] s_.2)) :: [blk g3 (.cells #[(sv t_.1 s_.1.1 t_.2)] 35 (0, 0)), rowO 3 encInt t_.1 t_.2 s_.1.1, blk g6 (.cells #[(bv s_.1.2)] 4 (0, 0)), blk g9 (.cells #[e4] 122 (0, 0)), rowO 35 (encSl Int) A19 c20 e10, rowsO 3 encInt H21 x22])) s_ t_] → beatty_logsOf.b1 k x22 x0_ s_ = some r_ → YieldR Tryz.prog (.func (.yield l78) #[] #[]) #[(sv A0_ x0_ c0_)] w_ (fun v_ w' => ∃ t1_, v_ = .bool r_.2 ∧ St (fpL [(fun (s_ : ((List Int) × Bool) × Int) (t_ : (Option Addr) × Nat) => sepO (blk l78 (LO74 (pendN [.ret] s_.2)) :: [blk g3 (.cells #[(sv t_.1 s_.1.1 t_.2)] 35 (0, 0)), rowO 3 encInt t_.1 t_.2 s_.1.1, blk g6 (.cells #[(bv s_.1.2)] 4 (0, 0)), blk g9 (.cells #[e4] 122 (0, 0)), rowO 35 (encSl Int) A19 c20 e10, rowsO 3 encInt H21 x22])) s_ t_]) w_ w' [] [(fun (s_ : ((List Int) × Bool) × Int) (t_ : (Option Addr) × Nat) => sepO (blk l78 (LO74 (pendN [.ret] s_.2)) :: [blk g3 (.cells #[(sv t_.1 s_.1.1 t_.2)] 35 (0, 0)), rowO 3 encInt t_.1 t_.2 s_.1.1, blk g6 (.cells #[(bv s_.1.2)] 4 (0, 0)), blk g9 (.cells #[e4] 122 (0, 0)), rowO 35 (encSl Int) A19 c20 e10, rowsO 3 encInt H21 x22])) r_.1 t1_]) := by
  rintro x84 A85 c86 ⟨⟨l72, b73⟩, j88⟩ ⟨A70, c71⟩ r89 w90 hro95 hRd91 hI92 hf93
  rw [beatty_logsOf.b1] at hf93
  replace hf93 := as_some hf93
  obtain ⟨hj96, hf93⟩ := hf93
  subst hj96
  have hRo97 := hRd91.openSep
  have hS94 : St (fpL [blk l78 (LO74 none), blk g3 (.cells #[(sv A70 l72 c71)] 35 (0, 0)), rowO 3 encInt A70 c71 l72, blk g6 (.cells #[(bv b73)] 4 (0, 0)), blk g9 (.cells #[e4] 122 (0, 0)), rowO 35 e12 A19 c20 e10, rowsO 3 encInt H21 x22]) w90 w90 [rowR encInt A85 c86 x84, rowR enc_Piece Aa ca p0, rowR encInt Ab cb p1] [blk l78 (LO74 none), blk g3 (.cells #[(sv A70 l72 c71)] 35 (0, 0)), rowO 3 encInt A70 c71 l72, blk g6 (.cells #[(bv b73)] 4 (0, 0)), blk g9 (.cells #[e4] 122 (0, 0)), rowO 35 e12 A19 c20 e10, rowsO 3 encInt H21 x22] := St.initIO (ro_cons hro95.openSep (ro_cons (poolO.ro hRo97 0) (ro_cons (poolO.ro hRo97 1) (ro_nil _ _)))) hI92.openSep
  refine YieldR.of_loop hK81 (hS94.blkAt 0 rfl) [(sv A85 x84 c86)] [4, 5, 6] [(4, (pt g3)), (5, (pt g6)), (6, (pt g9))] [(28, (sv A85 x84 c86)), (4, (pt g3)), (5, (pt g6)), (6, (pt g9))] rfl rfl rfl rfl rfl ?_
  refine WC.region ?_
  refine WL.new hS94 9 [] (fun g => (pt g)) (.cells #[(.slice none 0 0)] 35 (0, 0)) [] (fun fb g => by kernel_rfl) trivial (fun g98 w99 hS100 => ?_)
  refine ⟨trivial, ?_⟩
  refine WL.store hS100 0 rfl [(0, (sv A85 x84 c86))] #[(sv A85 x84 c86)] (fun fb => by kernel_rfl) (by kernel_rfl) rfl [1, 2, 3, 4, 5, 6, 7] (by decide) (by decide) (fun w101 hS102 => ?_)
  refine ⟨trivial, ?_⟩
  refine WL.done rfl ?_
  refine WX.begin' hK81 (hS102.blkAt 1 rfl) ?_
  have hS103 := hS102.putO 1 rfl LB75 [0, 2, 3, 4, 5, 6, 7] (by decide) (by decide)
  revert hS103
  generalize World.putObj _ _ _ = w104
  intro hS103
  have hS105 := hS94.go w104 [blk l78 LB75, blk g98 (.cells #[(sv A85 x84 c86)] 35 (0, 0)), blk g3 (.cells #[(sv A70 l72 c71)] 35 (0, 0)), rowO 3 encInt A70 c71 l72, blk g6 (.cells #[(bv b73)] 4 (0, 0)), blk g9 (.cells #[e4] 122 (0, 0)), rowO 35 e12 A19 c20 e10, rowsO 3 encInt H21 x22] (hS103)
  refine WC.block (WC.seq (WC.region ?_))
  refine seg 2 [.v e4] [4, 5, 6, 9, 29, 30] [(4, (pt g3)), (5, (pt g6)), (6, (pt g9)), (9, (pt g98)), (29, e4), (30, (.func (.func 77) #[] #[(pt g98)]))] [.cell ⟨g9, 0, none⟩ e4] (fun fb => by kernel_rfl) rfl ⟨hS105.cell 5 rfl 0 rfl, trivial⟩ ?_
  obtain ⟨t106, ht107, hf93⟩ := bind_some hf93
  refine WL.call (some 31) 76 #[e4, (.func (.func 77) #[] #[(pt g98)])] (fun fb => by kernel_rfl) (slices_ContainsFunc_int_int_76_with_beatty_logsOf_1_calls _ x22 x84 A19 c20 H21 g98 A85 c86 t106 _ (hS105.ow 6).ofO (hS105.ow 7) (hS105.ow 1) (hS105.rd 0) ht107) (fun v w108 hR109 => ?_)
  obtain ⟨rfl, hk_⟩ := hR109
  have hS110 := hS105.keepN hk_
  refine ⟨trivial, ?_⟩
  refine sg 4 [] [4, 5, 6, 9, 10] [(4, (pt g3)), (5, (pt g6)), (6, (pt g9)), (9, (pt g98)), (10, (bv t106))] (by kernel_rfl) ?_
  refine WL.done rfl (WX.next (WC.seq (WC.region ?_)))
  refine sg 2 [] [4, 5, 6, 9, 33] [(4, (pt g3)), (5, (pt g6)), (6, (pt g9)), (9, (pt g98)), (33, (bv (!t106)))] (by kernel_rfl) ?_
  refine WL.done rfl (WX.next ?_)
  rcases br_some hf93 with ⟨h111, hf93⟩ | ⟨h111, hf93⟩
  ·refine WC.condT2 (fun fb => by kernel_rfl) h111 ?_
   refine WC.seq (WC.region ?_)
   refine seg 1 [.v (sv A85 x84 c86)] [4, 5, 6, 34] [(4, (pt g3)), (5, (pt g6)), (6, (pt g9)), (34, (sv A85 x84 c86))] [.cell ⟨g98, 0, none⟩ (sv A85 x84 c86)] (fun fb => by kernel_rfl) rfl ⟨hS110.cell 1 rfl 0 rfl, trivial⟩ ?_
   obtain ⟨t112, ht113, hf93⟩ := bind_some hf93
   refine WL.call (some 35) 78 #[(sv A85 x84 c86)] (fun fb => by kernel_rfl) (slices_Clone_int_int_calls x84 A85 c86 t112 _ (hS110.rd 0) ht113) (fun v w114 hR115 => ?_)
   obtain ⟨A117, c118, rfl, hk_⟩ := hR115
   have hS116 : St (fpL [blk l78 (LO74 none), blk g3 (.cells #[(.slice A70 l72.length c71)] 35 (0, 0)), rowO 3 encInt A70 c71 l72, blk g6 (.cells #[(.bool b73)] 4 (0, 0)), blk g9 (.cells #[(.slice A19 x22.length c20)] 122 (0, 0)), rowO 35 (encSl Int) A19 c20 (tag H21 x22), rowsO 3 encInt H21 x22]) w90 w114 [rowR encInt A85 c86 x84, rowR enc_Piece Aa ca p0, rowR encInt Ab cb p1] [rowO 3 encInt A117 c118 t112, blk l78 LB75, blk g98 (.cells #[(.slice A85 x84.length c86)] 35 (0, 0)), blk g3 (.cells #[(.slice A70 l72.length c71)] 35 (0, 0)), rowO 3 encInt A70 c71 l72, blk g6 (.cells #[(.bool b73)] 4 (0, 0)), blk g9 (.cells #[(.slice A19 x22.length c20)] 122 (0, 0)), rowO 35 (encSl Int) A19 c20 (tag H21 x22), rowsO 3 encInt H21 x22] := hS110.call hk_ [] [0, 1, 2, 3, 4, 5, 6, 7] (fun g hg => hg.elim) (by simp) (by decide)
   refine ⟨trivial, ?_⟩
   refine WL.store hS116 3 rfl [(0, (sv A117 t112 c118))] #[(sv A117 t112 c118)] (fun fb => by kernel_rfl) (by kernel_rfl) rfl [0, 1, 2, 4, 5, 6, 7, 8] (by decide) (by decide) (fun w119 hS120 => ?_)
   refine ⟨trivial, ?_⟩
   refine WL.store hS120 5 rfl [(0, (bv true))] #[(bv true)] (fun fb => by kernel_rfl) (by kernel_rfl) rfl [0, 1, 2, 3, 4, 6, 7, 8] (by decide) (by decide) (fun w121 hS122 => ?_)
   refine ⟨trivial, ?_⟩
   refine WL.done rfl (WX.next ?_)
   refine WC.ret ?_
   injection hf93 with hf93
   subst hf93
   exact WX.blockR (WX.roundR' hK81 (hS122.blkAt 3 rfl) ⟨(A117, c118), rfl, ((hS122.putO 3 rfl (LO74 (some .ret)) [0, 1, 2, 4, 5, 6, 7, 8] (by decide) (by decide)).sub [0, 2, 3, 1, 6, 7, 8] (by decide)).noR.closeSep⟩)
  refine WC.condF2 (fun fb => by kernel_rfl) h111 ?_
  refine WC.skip ?_
  injection hf93 with hf93
  subst hf93
  exact WX.blockN (WX.roundN' hK81 (hS110.blkAt 0 rfl) ⟨(A70, c71), rfl, ((hS110.putO 0 rfl (LO74 none) [1, 2, 3, 4, 5, 6, 7] (by decide) (by decide)).sub [0, 2, 3, 4, 5, 6, 7] (by decide)).noR.closeSep⟩)
 obtain ⟨t123, ht124, hf⟩ := bind_some hf
 refine (beatty_lists_1_y_calls _ (p1.length : Int) (beatty_logsOf.b1 k x22) ((([] : List Int), false), (0 : Int)) g68 l78 (fun (s_ : ((List Int) × Bool) × Int) (t_ : (Option Addr) × Nat) => sepO (blk l78 (LO74 (pendN [.ret] s_.2)) :: [blk g3 (.cells #[(sv t_.1 s_.1.1 t_.2)] 35 (0, 0)), rowO 3 encInt t_.1 t_.2 s_.1.1, blk g6 (.cells #[(bv s_.1.2)] 4 (0, 0)), blk g9 (.cells #[e4] 122 (0, 0)), rowO 35 (encSl Int) A19 c20 e10, rowsO 3 encInt H21 x22])) (none, 0) (poolO [rowR enc_Piece Aa ca p0, rowR encInt Ab cb p1]) t123 _ (hS83.rdP [0]) (hS83.owT [0] 2 (by decide)) (hS83.io [0] (by decide)) hY87 ht124).post (fun v w125 hR126 => ?_)
 obtain ⟨tt128, rfl, hk_⟩ := hR126
 have hS127 := hS83.go w125 [(fun (s_ : ((List Int) × Bool) × Int) (t_ : (Option Addr) × Nat) => sepO (blk l78 (LO74 (pendN [.ret] s_.2)) :: [blk g3 (.cells #[(sv t_.1 s_.1.1 t_.2)] 35 (0, 0)), rowO 3 encInt t_.1 t_.2 s_.1.1, blk g6 (.cells #[(bv s_.1.2)] 4 (0, 0)), blk g9 (.cells #[e4] 122 (0, 0)), rowO 35 (encSl Int) A19 c20 e10, rowsO 3 encInt H21 x22])) t123 tt128, blk D79 (.deferred (some [])), blk g68 (.cells #[(iv (p1.length : Int))] 3 (0, 0))] (hS83.call hk_ [0] [1, 2] (fun g hg => fpL_sel g hg) (by decide) (by decide))
 have hS129 := hS127.go w125 [blk l78 (LO74 (pendN [.ret] t123.2)), blk g3 (.cells #[(sv tt128.1 t123.1.1 tt128.2)] 35 (0, 0)), rowO 3 encInt tt128.1 tt128.2 t123.1.1, blk g6 (.cells #[(bv t123.1.2)] 4 (0, 0)), blk g9 (.cells #[e4] 122 (0, 0)), rowO 35 e12 A19 c20 e10, rowsO 3 encInt H21 x22, blk D79 (.deferred (some [])), blk g68 (.cells #[(iv (p1.length : Int))] 3 (0, 0))] (hS127.unpack 0 rfl [1, 2] (by decide) (by decide))
 refine ⟨_, hS129.blkAt 0 rfl, ?_⟩
 have hS130 := (hS129.putO 0 rfl (LX77 (pendN [.ret] t123.2)) [1, 2, 3, 4, 5, 6, 7, 8] (by decide) (by decide)).tail
 revert hS130
 generalize World.putObj _ _ _ = w131
 intro hS130
 have hS132 := hS129.go w131 [blk g3 (.cells #[(sv tt128.1 t123.1.1 tt128.2)] 35 (0, 0)), rowO 3 encInt tt128.1 tt128.2 t123.1.1, blk g6 (.cells #[(bv t123.1.2)] 4 (0, 0)), blk g9 (.cells #[e4] 122 (0, 0)), rowO 35 e12 A19 c20 e10, rowsO 3 encInt H21 x22, blk D79 (.deferred (some [])), blk g68 (.cells #[(iv (p1.length : Int))] 3 (0, 0))] (hS130)
 let e13 := sv tt128.1 t123.1.1 tt128.2
 rcases br_some hf with ⟨h133, hf⟩ | ⟨h133, hf⟩
 ·
  have hj_ := eq_of_beq h133
  rw [hj_]
  refine WC.keep [4, 5, 6, 4294967295] [(4, (pt g3)), (5, (pt g6)), (6, (pt g9)), (4294967295, (.func (.yield D79) #[] #[]))] rfl ?_
  refine WC.ret ?_
  injection hf with hf
  subst hf
  exact WX.blockR (WX.thenR (WX.retM hS132 6 rfl rfl [0, 1, 2, 3, 4, 5, 7] (by decide) (by decide) [.v e13, .v (bv t123.1.2)] (.tuple #[e13, (bv t123.1.2)]) [.cell ⟨g3, 0, none⟩ e13, .cell ⟨g6, 0, none⟩ (bv t123.1.2)] (fun fb => by kernel_rfl) (fun w135 hS134 => ⟨⟨hS134.cell 0 rfl 0 rfl, hS134.cell 2 rfl 0 rfl, trivial⟩, ⟨tt128.1, tt128.2, rfl, (hS134.sub [1] (by decide)).noR⟩⟩)))
 obtain ⟨h136, hf⟩ := as_some hf
 rw [h136]
 refine WX.keep [4, 5, 6, 4294967295] [(4, (pt g3)), (5, (pt g6)), (6, (pt g9)), (4294967295, (.func (.yield D79) #[] #[]))] rfl ?_
 refine WX.blockN (WX.next ?_)
 refine WC.seq (WC.region ?_)
 refine WL.store hS132 0 rfl [(0, (.slice none 0 0))] #[(.slice none 0 0)] (fun fb => by kernel_rfl) (by kernel_rfl) rfl [1, 2, 3, 4, 5, 6, 7] (by decide) (by decide) (fun w137 hS138 => ?_)
 refine ⟨trivial, ?_⟩
 refine WL.store hS138 2 rfl [(0, (bv false))] #[(bv false)] (fun fb => by kernel_rfl) (by kernel_rfl) rfl [0, 1, 3, 4, 5, 6, 7] (by decide) (by decide) (fun w139 hS140 => ?_)
 refine ⟨trivial, ?_⟩
 refine WL.done rfl (WX.next ?_)
 refine WC.ret ?_
 have hS141 := hS140.nilrow 3 encInt
 injection hf with hf
 subst hf
 exact WX.retM hS141 7 rfl rfl [0, 1, 2, 3, 4, 5, 6, 8] (by decide) (by decide) [.v (sv none ([] : List Int) 0), .v (bv false)] (.tuple #[(sv none ([] : List Int) 0), (bv false)]) [.cell ⟨g3, 0, none⟩ (sv none ([] : List Int) 0), .cell ⟨g6, 0, none⟩ (bv false)] (fun fb => by kernel_rfl) (fun w143 hS142 => ⟨⟨hS142.cell 2 rfl 0 rfl, hS142.cell 1 rfl 0 rfl, trivial⟩, ⟨none, 0, rfl, (hS142.sub [0] (by decide)).noR⟩⟩)
theorem beatty_lowest_calls (k : Nat) (p0 : Int) (p1 : Int)  (r : Frac) (w : World)  (hf : beatty_lowest k p0 p1 = some r) :
  CallsR Tryz.prog 48 #[(iv p0), (iv p1)] w (fun v w' => v = (.agg #[(iv r.Num), (iv r.Den)]) ∧ Keeps NoS w w') := by
 have hS : St NoS w w [] [] := St.init (ro_nil _ _)
 refine enter 17 Tryz.func48 rfl Tryz.ntmps48 rfl ?_
 unfold beatty_lowest at hf
 refine WC.seq (WC.region ?_)
 refine WL.new hS 4 [] (fun g => (pt g)) (.cells #[(iv 0), (iv 0)] 44 (0, 0)) [] (fun fb g => by kernel_rfl) trivial (fun g2 w3 hS4 => ?_)
 refine ⟨trivial, ?_⟩
 refine WL.done rfl (WX.next (WC.seq (WC.region ?_)))
 refine sg 2 [] [0, 1, 4, 6, 7] [(0, (iv p0)), (1, (iv p1)), (4, (pt g2)), (6, (iv p0)), (7, (iv p1))] (by kernel_rfl) ?_
 obtain ⟨t5, ht6, hf⟩ := bind_some hf
 refine WL.call (some 8) 68 #[(iv p0), (iv p1)] (fun fb => by kernel_rfl) (beatty_gcd_calls _ p0 p1 t5 _ ht6) (fun v w7 hR8 => ?_)
 obtain ⟨rfl, hk_⟩ := hR8
 have hS9 := hS4.keepN hk_
 refine ⟨trivial, ?_⟩
 refine sg 5 [] [0, 1, 4, 5] [(0, (iv p0)), (1, (iv p1)), (4, (pt g2)), (5, (iv (maxI t5 1)))] (by kernel_rfl) ?_
 refine WL.done rfl (WX.next (WC.seq ?_))
 obtain ⟨h12, hf⟩ := as_some hf
 refine WC.regionD ([], [0, 1, 2, 3, 4, 5, 6], [[], [], [0, 1], [], [], [3, 4], [0, 1, 2, 3, 4, 5], [0, 1, 2, 3, 4, 5, 6]]) [[0, 1, 2, 3, 4, 5, 6, 7]] (by kernel_rfl) (by kernel_rfl) (NoPanic.seq (NoPanic.body)) ?_
 have hS11 := hS9.drew
 revert hS11
 generalize World.drew w7 = w10
 intro hS11
 refine ⟨trivial, forallC ?_ (forallN)⟩
 refine seg 7 [] [4, 16] [(4, (pt g2)), (16, (.agg #[(iv (w64 (Int.tdiv p0 (maxI t5 1)))), (iv (w64 (Int.tdiv p1 (maxI t5 1))))]))] [.ne (maxI t5 1), .ne (maxI t5 1)] (fun fb => by kernel_rfl) rfl ⟨h12, h12, trivial⟩ ?_
 refine WL.store hS11 0 rfl [(0, (iv (w64 (Int.tdiv p0 (maxI t5 1))))), (1, (iv (w64 (Int.tdiv p1 (maxI t5 1)))))] #[(iv (w64 (Int.tdiv p0 (maxI t5 1)))), (iv (w64 (Int.tdiv p1 (maxI t5 1))))] (fun fb => by kernel_rfl) (by kernel_rfl) rfl [] (by decide) (by decide) (fun w13 hS14 => ?_)
 refine ⟨trivial, ?_⟩
 refine WL.done rfl (WX.next ?_)
 refine WC.ret ?_
 injection hf with hf
 subst hf
 let e1 := iv (w64 (Int.tdiv p0 (maxI t5 1)))
 let e2 := iv (w64 (Int.tdiv p1 (maxI t5 1)))
 exact WX.ret_ [.v e1, .v e2] (.agg #[e1, e2]) [.cell ⟨g2, 0, none⟩ e1, .cell ⟨g2, 1, none⟩ e2] (fun fb => by kernel_rfl) ⟨hS14.cell 0 rfl 0 rfl, hS14.cell 0 rfl 1 rfl, trivial⟩ ⟨_, rfl, rfl, hS14.keep⟩
theorem beatty_Weigh_calls (k : Nat) (p0 : List Piece) (Aa : Option Addr) (ca : Nat) (r : Weights × Int) (w : World) (hR0 : RO NoS w (rowR enc_Piece Aa ca p0)) (hf : beatty_Weigh k p0 = some r) :
  CallsR Tryz.prog 17 #[(sv Aa p0 ca)] w (fun v w' => ∃ (A1_ : Option Addr), ∃ (c1_ : Nat), ∃ (A2_ : Option Addr), ∃ (c2_ : Nat), ∃ (A3_ : Option Addr), ∃ (c3_ : Nat), ∃ (A4_ : Option Addr), ∃ (c4_ : Nat), ∃ (A5_ : Option Addr), ∃ (c5_ : Nat), v = (.tuple #[(.agg #[(sv A1_ r.1.Values c1_), (sv A2_ r.1.Carries c2_), (sv A3_ r.1.Factors c3_), (sv A4_ r.1.Primes c4_), (sv A5_ r.1.Logs c5_)]), (iv r.2)]) ∧ St NoS w w' [] [rowO 44 enc_Frac A1_ c1_ r.1.Values, rowO 44 enc_Frac A2_ c2_ r.1.Carries, rowO 44 enc_Frac A3_ c3_ r.1.Factors, rowO 3 encInt A4_ c4_ r.1.Primes, rowO 3 encInt A5_ c5_ r.1.Logs]) := by
 have hS : St NoS w w [rowR enc_Piece Aa ca p0] [] := St.init (ro_cons hR0 (ro_nil _ _))
 refine enter 119 Tryz.func17 rfl Tryz.ntmps17 rfl ?_
 unfold beatty_Weigh at hf
 refine WC.seq (WC.region ?_)
 refine WL.new hS 2 [] (fun g => (pt g)) (.cells #[(.slice none 0 0), (.slice none 0 0), (.slice none 0 0), (.slice none 0 0), (.slice none 0 0)] 37 (0, 0)) [] (fun fb g => by kernel_rfl) trivial (fun g6 w7 hS8 => ?_)
 refine ⟨trivial, ?_⟩
 refine sg 2 [] [0, 2] [(0, (sv Aa p0 ca)), (2, (pt g6))] (by kernel_rfl) ?_
 refine WL.done rfl (WX.next (WC.seq (WC.region ?_)))
 refine sg 1 [] [0, 2, 18] [(0, (sv Aa p0 ca)), (2, (pt g6)), (18, (sv Aa p0 ca))] (by kernel_rfl) ?_
 obtain ⟨t9, ht10, hf⟩ := bind_some hf
 refine WL.call (some 19) 35 #[(sv Aa p0 ca)] (fun fb => by kernel_rfl) (beatty_made_calls _ p0 Aa ca t9 _ (hS8.rd 0) ht10) (fun v w11 hR12 => ?_)
 obtain ⟨g14, A15, c16, A18, c19, A20, c21, A22, c23, g24, rfl, hk_⟩ := hR12
 refine ⟨trivial, ?_⟩
 let e7 := sv Aa p0 ca
 let e10 : Nat × Value := (2, (pt g6))
 let e16 : Nat × Value := (27, (iv (p0.length : Int)))
 let e22 : List Nat := [0, 2, 4, 6, 26, 27, 28]
 let e24 := (sv none ([] : List Int) 0)
 rcases optM_some hf with ⟨ho26, hf⟩ | ⟨y25, ho26, hf⟩
 ·
  have ho26 : t9.1 = none := ho26
  have hS13 := hS8.keepN (optS_none ho26 hk_)
  refine WL.reE [0, 2, 18, 19] [(0, (.slice Aa p0.length ca)), (2, (pt g6)), (18, (.slice Aa p0.length ca)), (19, (.tuple #[(optP t9.1 g14), (iv t9.2)]))] [(0, (.slice Aa p0.length ca)), (2, (pt g6)), (18, (.slice Aa p0.length ca)), (19, (.tuple #[(.pointer none), (iv t9.2)]))] rfl (by rw [ho26]; rfl) ?_
  refine sg 7 [] [0, 2, 4, 5] [(0, e7), e10, (4, (.pointer none)), (5, (iv t9.2))] (by kernel_rfl) ?_
  refine WL.done rfl (WX.next (WC.seq (WC.seq (WC.region ?_))))
  refine sg 2 [] [0, 2, 4, 5, 23] [(0, e7), e10, (4, (.pointer none)), (5, (iv t9.2)), (23, (bv (t9.2 != 0)))] (by kernel_rfl) ?_
  refine WL.done rfl (WX.next ?_)
  rcases br_some hf with ⟨h27, hf⟩ | ⟨h27, hf⟩
  ·refine WC.condT2 (fun fb => by kernel_rfl) h27 ?_
   refine WC.seq (WC.region ?_)
   refine sg 2 [] [2, 24, 25] [e10, (24, (.agg #[(.slice none 0 0), (.slice none 0 0), (.slice none 0 0), (.slice none 0 0), (.slice none 0 0)])), (25, (iv t9.2))] (by kernel_rfl) ?_
   refine WL.store hS13 0 rfl [(0, (.slice none 0 0)), (1, (.slice none 0 0)), (2, (.slice none 0 0)), (3, (.slice none 0 0)), (4, (.slice none 0 0))] #[(.slice none 0 0), (.slice none 0 0), (.slice none 0 0), (.slice none 0 0), (.slice none 0 0)] (fun fb => by kernel_rfl) (by kernel_rfl) rfl [] (by decide) (by decide) (fun w28 hS29 => ?_)
   refine ⟨trivial, ?_⟩
   refine sg 4 [] [2, 3] [e10, (3, (iv t9.2))] (by kernel_rfl) ?_
   refine WL.done rfl (WX.next ?_)
   refine WC.ret ?_
   have hS30 := hS29.nilrow 44 enc_Frac
   have hS31 := hS30.nilrow 44 enc_Frac
   have hS32 := hS31.nilrow 44 enc_Frac
   have hS33 := hS32.nilrow 3 encInt
   have hS34 := hS33.nilrow 3 encInt
   injection hf with hf
   subst hf
   exact WX.thenR (WX.ret_ [.v (.slice none 0 0), .v (.slice none 0 0), .v (.slice none 0 0), .v (.slice none 0 0), .v (.slice none 0 0)] (.tuple #[(.agg #[(sv none ([] : List Frac) 0), (sv none ([] : List Frac) 0), (sv none ([] : List Frac) 0), e24, e24]), (iv t9.2)]) [.cell ⟨g6, 0, none⟩ (.slice none 0 0), .cell ⟨g6, 1, none⟩ (.slice none 0 0), .cell ⟨g6, 2, none⟩ (.slice none 0 0), .cell ⟨g6, 3, none⟩ (.slice none 0 0), .cell ⟨g6, 4, none⟩ (.slice none 0 0)] (fun fb => by kernel_rfl) ⟨hS29.cell 0 rfl 0 rfl, hS29.cell 0 rfl 1 rfl, hS29.cell 0 rfl 2 rfl, hS29.cell 0 rfl 3 rfl, hS29.cell 0 rfl 4 rfl, trivial⟩ ⟨_, rfl, none, 0, none, 0, none, 0, none, 0, none, 0, rfl, (hS34.sub [4, 3, 2, 1, 0] (by decide)).noR⟩)
  refine WC.condF2 (fun fb => by kernel_rfl) h27 ?_
  refine WC.skip (WX.next (WC.seq (WC.region ?_)))
  refine sg 1 [] [0, 2, 4, 6] [(0, e7), e10, (4, (.pointer none)), (6, (.slice none 0 0))] (by kernel_rfl) ?_
  refine WL.done rfl (WX.next (WC.seq (WC.seq (WC.region ?_))))
  refine sg 3 [] e22 [(0, e7), e10, (4, (.pointer none)), (6, (.slice none 0 0)), (26, e7), e16, (28, (iv 0))] (by kernel_rfl) ?_
  refine WL.done rfl (WX.next ?_)
  have hS35 := hS13.nilrow 3 encInt
  obtain ⟨x42, hx43, hf⟩ := bind_some hf
  refine WC.cutN (T := (List Int) × (Option Addr) × Nat) (fun t => [(0, e7), e10, (4, (.pointer none)), (6, (sv t.2.1 t.1 t.2.2))]) (fun t w1 => St NoS w w1 [rowR enc_Piece Aa ca p0] [blk g6 (.cells #[(.slice none 0 0), (.slice none 0 0), (.slice none 0 0), (.slice none 0 0), (.slice none 0 0)] 37 (0, 0)), rowO 3 encInt t.2.1 t.2.2 t.1] ∧ x42 = t.1) (fun Kx42 => ?_) ?_
  ·
   refine WC.block ?_
   refine WC.loop (T := ((List Int) × Int) × (Option Addr) × Nat) (fun t => [(0, e7), e10, (4, (.pointer none)), (6, (sv t.2.1 t.1.1 t.2.2)), (26, e7), e16, (28, (iv t.1.2))]) (fun n t w1 => St NoS w w1 [rowR enc_Piece Aa ca p0] [blk g6 (.cells #[(.slice none 0 0), (.slice none 0 0), (.slice none 0 0), (.slice none 0 0), (.slice none 0 0)] 37 (0, 0)), rowO 3 encInt t.2.1 t.2.2 t.1.1] ∧ beatty_Weigh.l0 n t.1.1 t.1.2 p0 = some x42) k ((([] : List Int), 0), none, 0) e22 rfl ⟨(hS35.subR [0]).sub [1, 0] (by decide), hx43⟩ ?_
   rintro k44 ⟨⟨l38, x39⟩, A36, c37⟩ w45 ⟨hS46, hl47⟩
   let e2 := rdD p0 x39 z_Piece
   let e6 : Array Value := #[(iv ((e2.Factor).Num)), (iv ((e2.Factor).Den)), (iv ((e2.Low).Num)), (iv ((e2.Low).Den)), (iv ((e2.High).Num)), (iv ((e2.High).Den))]
   let e14 := e2.Factor
   let e18 := (adr Aa).add ((x39).toNat * 6)
   let e28 := iv (e14.Num)
   let e29 := iv (e14.Den)
   cases k44 with
   | zero => rw [beatty_Weigh.l0] at hl47; cases hl47
   | succ k44 =>
    rw [beatty_Weigh.l0] at hl47
    refine WC.seq (WC.region ?_)
    refine sg 1 [] [0, 2, 4, 6, 26, 27, 28, 29] [(0, e7), e10, (4, (.pointer none)), (6, (sv A36 l38 c37)), (26, e7), e16, (28, (iv x39)), (29, (bv (decide (x39 < (p0.length : Int)))))] (by kernel_rfl) ?_
    refine WL.done rfl (WX.next (WC.seq ?_))
    rcases br_some hl47 with ⟨h48, hl47⟩ | ⟨h48, hl47⟩
    ·refine WC.condT2 (fun fb => by kernel_rfl) h48 ?_
     refine WC.skip (WX.next (WC.seq (WC.block (WC.seq (WC.region ?_)))))
     obtain ⟨h49, hl47⟩ := as_some hl47
     refine seg 2 [.v e28, .v e29, .v (iv ((e2.Low).Num)), .v (iv ((e2.Low).Den)), .v (iv ((e2.High).Num)), .v (iv ((e2.High).Den))] [0, 2, 4, 6, 26, 27, 28, 31] [(0, e7), e10, (4, (.pointer none)), (6, (sv A36 l38 c37)), (26, e7), e16, (28, (iv x39)), (31, (.agg e6))] [.idx Aa x39 p0.length, .cell e18 e28, .cell (e18.add 1) e29, .cell (e18.add 2) (iv ((e2.Low).Num)), .cell (e18.add 3) (iv ((e2.Low).Den)), .cell (e18.add 4) (iv ((e2.High).Num)), .cell (e18.add 5) (iv ((e2.High).Den))] (fun fb => by kernel_rfl) rfl ⟨rowR.adr (hS46.rd 0).1 h49.1 h49.2, rowR.cell (hS46.rd 0).1 z_Piece h49.1 h49.2 0 rfl, rowR.cell (hS46.rd 0).1 z_Piece h49.1 h49.2 1 rfl, rowR.cell (hS46.rd 0).1 z_Piece h49.1 h49.2 2 rfl, rowR.cell (hS46.rd 0).1 z_Piece h49.1 h49.2 3 rfl, rowR.cell (hS46.rd 0).1 z_Piece h49.1 h49.2 4 rfl, rowR.cell (hS46.rd 0).1 z_Piece h49.1 h49.2 5 rfl, trivial⟩ ?_
     refine WL.new hS46 8 [] (fun g => (pt g)) (.cells #[(iv 0), (iv 0), (iv 0), (iv 0), (iv 0), (iv 0)] 66 (0, 0)) [] (fun fb g => by kernel_rfl) trivial (fun g50 w51 hS52 => ?_)
     refine ⟨trivial, ?_⟩
     refine WL.store hS52 0 rfl [(0, e28), (1, e29), (2, (iv ((e2.Low).Num))), (3, (iv ((e2.Low).Den))), (4, (iv ((e2.High).Num))), (5, (iv ((e2.High).Den)))] e6 (fun fb => by kernel_rfl) (by kernel_rfl) rfl [1, 2] (by decide) (by decide) (fun w53 hS54 => ?_)
     refine ⟨trivial, ?_⟩
     refine WL.done rfl (WX.next (WC.region ?_))
     refine seg 7 [.v e28, .v e29] [0, 2, 4, 26, 27, 28, 32, 35, 38] [(0, e7), e10, (4, (.pointer none)), (26, e7), e16, (28, (iv x39)), (32, (sv A36 l38 c37)), (35, e28), (38, e29)] [.cell ⟨g50, 0, none⟩ e28, .cell ⟨g50, 1, none⟩ e29] (fun fb => by kernel_rfl) rfl ⟨hS54.cell 0 rfl 0 rfl, hS54.cell 0 rfl 1 rfl, trivial⟩ ?_
     refine WL.new hS54 39 [] (fun g => (.slice (some ⟨g, 0, none⟩) 2 2)) (.cells #[e28, e29] 3 (0, 0)) [] (fun fb g => by kernel_rfl) trivial (fun g55 w56 hS57 => ?_)
     refine ⟨trivial, ?_⟩
     have hS58 := hS.go w56 [rowO 3 encInt (some ⟨g55, 0, none⟩) 2 [e14.Num, e14.Den], blk g50 (.cells e6 66 (0, 0)), blk g6 (.cells #[(.slice none 0 0), (.slice none 0 0), (.slice none 0 0), (.slice none 0 0), (.slice none 0 0)] 37 (0, 0)), rowO 3 encInt A36 c37 l38] (hS57.map1 0 _ (fun h => rowO.ofBlk h rfl (Nat.le_of_ble_eq_true (by kernel_rfl))) (fun _ h => by obtain ⟨_, h1, h2⟩ := h; injection h1 with h1; subst h1; exact h2) [1, 2, 3] (by decide) (by decide))
     obtain ⟨h59, hl47⟩ := as_some hl47
     refine WL.append hS58 3 (d := 40) (tS := 35) (z := (iv 0)) (bytes := 8) (c2 := 2) rfl (fun fb => by kernel_rfl) (rowO.rd (hS58.own 0).1) (by kernel_rfl) (by kernel_rfl) rfl (by decide) h59 (by decide) [0, 1, 2] (by decide) (by decide) (fun A60 c61 w62 hS63 => ?_)
     refine ⟨trivial, ?_⟩
     refine sg 10 [] e22 [(0, e7), e10, (4, (.pointer none)), (6, (sv A60 (l38 ++ [e14.Num, e14.Den]) c61)), (26, e7), e16, (28, (iv x39))] (by kernel_rfl) ?_
     refine WL.done rfl ?_
     refine WX.blockN (WX.next ?_)
     refine WC.region ?_
     refine sg 2 [] e22 [(0, e7), e10, (4, (.pointer none)), (6, (sv A60 (l38 ++ [e14.Num, e14.Den]) c61)), (26, e7), e16, (28, (iv (w64 (x39 + 1))))] (by kernel_rfl) ?_
     refine WL.done rfl ?_
     exact WX.again k44 (Nat.lt_succ_self _) ((l38 ++ [e14.Num, e14.Den], w64 (x39 + 1)), A60, c61) e22 rfl ⟨(hS63.subR [0]).sub [3, 0] (by decide), hl47⟩
    refine WC.condF2 (fun fb => by kernel_rfl) h48 ?_
    refine WC.exit ?_
    injection hl47 with hl47
    exact WX.thenX (WX.thenX (WX.blockHere (WX.to Kx42 (l38, A36, c37) [0, 2, 4, 6] rfl ⟨(hS46.subR [0]).sub [0, 1] (by decide), hl47.symm⟩)))
  rintro ⟨y68, A40, c41⟩ w65 ⟨hS66, hq67⟩
  subst hq67
  refine WX.next (WC.seq (WC.region ?_))
  refine sg 1 [] [0, 2, 4, 42] [(0, e7), e10, (4, (.pointer none)), (42, (sv A40 x42 c41))] (by kernel_rfl) ?_
  obtain ⟨t69, ht70, hf⟩ := bind_some hf
  refine WL.call (some 43) 46 #[(sv A40 x42 c41)] (fun fb => by kernel_rfl) (beatty_primesOf_calls _ x42 A40 c41 t69 _ (hS66.ow 1).ofO ht70) (fun v w71 hR72 => ?_)
  obtain ⟨A74, c75, rfl, hk_⟩ := hR72
  have hS73 := hS.go w71 [rowO 3 encInt A74 c75 t69, blk g6 (.cells #[(.slice none 0 0), (.slice none 0 0), (.slice none 0 0), (.slice none 0 0), (.slice none 0 0)] 37 (0, 0)), rowO 3 encInt A40 c41 x42] (hS66.call hk_ [] [0, 1] (fun g hg => hg.elim) (by simp) (by decide))
  refine ⟨trivial, ?_⟩
  refine sg 3 [] [0, 2, 4, 44] [(0, e7), e10, (4, (.pointer none)), (44, (.agg #[(.slice none 0 0), (.slice none 0 0), (.slice none 0 0), (sv A74 t69 c75), (.slice none 0 0)]))] (by kernel_rfl) ?_
  refine WL.new hS73 9 [] (fun g => (pt g)) (.cells #[(.slice none 0 0), (.slice none 0 0), (.slice none 0 0), (.slice none 0 0), (.slice none 0 0)] 37 (0, 0)) [] (fun fb g => by kernel_rfl) trivial (fun g76 w77 hS78 => ?_)
  refine ⟨trivial, ?_⟩
  refine WL.store hS78 0 rfl [(0, (.slice none 0 0)), (1, (.slice none 0 0)), (2, (.slice none 0 0)), (3, (sv A74 t69 c75)), (4, (.slice none 0 0))] #[(.slice none 0 0), (.slice none 0 0), (.slice none 0 0), (sv A74 t69 c75), (.slice none 0 0)] (fun fb => by kernel_rfl) (by kernel_rfl) rfl [1, 2, 3] (by decide) (by decide) (fun w79 hS80 => ?_)
  refine ⟨trivial, ?_⟩
  refine WL.done rfl (WX.next (WC.seq (WC.region ?_)))
  refine seg 3 [.v (sv A74 t69 c75)] [0, 2, 4, 9, 46, 48] [(0, e7), e10, (4, (.pointer none)), (9, (pt g76)), (46, e7), (48, (sv A74 t69 c75))] [.cell ⟨g76, 3, none⟩ (sv A74 t69 c75)] (fun fb => by kernel_rfl) rfl ⟨hS80.cell 0 rfl 3 rfl, trivial⟩ ?_
  obtain ⟨t81, ht82, hf⟩ := bind_some hf
  refine WL.call (some 49) 47 #[e7, (sv A74 t69 c75)] (fun fb => by kernel_rfl) (beatty_logsOf_calls _ p0 t69 Aa ca A74 c75 t81 _ (hS80.rd 0) (hS80.ow 1).ofO ht82) (fun v w83 hR84 => ?_)
  obtain ⟨A86, c87, rfl, hk_⟩ := hR84
  have hS85 := hS73.go w83 [rowO 3 encInt A86 c87 t81.1, blk g76 (.cells #[(.slice none 0 0), (.slice none 0 0), (.slice none 0 0), (.slice A74 t69.length c75), (.slice none 0 0)] 37 (0, 0)), rowO 3 encInt A74 c75 t69, blk g6 (.cells #[(.slice none 0 0), (.slice none 0 0), (.slice none 0 0), (.slice none 0 0), (.slice none 0 0)] 37 (0, 0)), rowO 3 encInt A40 c41 x42] (hS80.call hk_ [] [0, 1, 2, 3] (fun g hg => hg.elim) (by simp) (by decide))
  refine ⟨trivial, ?_⟩
  refine sg 9 [] [0, 2, 4, 9, 10, 11] [(0, e7), e10, (4, (.pointer none)), (9, (pt g76)), (10, (sv A86 t81.1 c87)), (11, (bv t81.2))] (by kernel_rfl) ?_
  refine WL.done rfl (WX.next (WC.seq (WC.seq (WC.region ?_))))
  refine sg 2 [] [0, 2, 4, 9, 10, 53] [(0, e7), e10, (4, (.pointer none)), (9, (pt g76)), (10, (sv A86 t81.1 c87)), (53, (bv (!t81.2)))] (by kernel_rfl) ?_
  refine WL.done rfl (WX.next ?_)
  rcases br_some hf with ⟨h88, hf⟩ | ⟨h88, hf⟩
  ·refine WC.condT2 (fun fb => by kernel_rfl) h88 ?_
   refine WC.seq (WC.region ?_)
   refine sg 1 [] [2, 54] [e10, (54, (.agg #[(.slice none 0 0), (.slice none 0 0), (.slice none 0 0), (.slice none 0 0), (.slice none 0 0)]))] (by kernel_rfl) ?_
   refine WL.store hS85 3 rfl [(0, (.slice none 0 0)), (1, (.slice none 0 0)), (2, (.slice none 0 0)), (3, (.slice none 0 0)), (4, (.slice none 0 0))] #[(.slice none 0 0), (.slice none 0 0), (.slice none 0 0), (.slice none 0 0), (.slice none 0 0)] (fun fb => by kernel_rfl) (by kernel_rfl) rfl [0, 1, 2, 4] (by decide) (by decide) (fun w89 hS90 => ?_)
   refine ⟨trivial, ?_⟩
   refine sg 3 [] [2, 3] [e10, (3, (iv 6))] (by kernel_rfl) ?_
   refine WL.done rfl (WX.next ?_)
   refine WC.ret ?_
   have hS91 := hS90.nilrow 44 enc_Frac
   have hS92 := hS91.nilrow 44 enc_Frac
   have hS93 := hS92.nilrow 44 enc_Frac
   have hS94 := hS93.nilrow 3 encInt
   have hS95 := hS94.nilrow 3 encInt
   injection hf with hf
   subst hf
   exact WX.thenR (WX.ret_ [.v (.slice none 0 0), .v (.slice none 0 0), .v (.slice none 0 0), .v (.slice none 0 0), .v (.slice none 0 0)] (.tuple #[(.agg #[(sv none ([] : List Frac) 0), (sv none ([] : List Frac) 0), (sv none ([] : List Frac) 0), e24, e24]), (iv 6)]) [.cell ⟨g6, 0, none⟩ (.slice none 0 0), .cell ⟨g6, 1, none⟩ (.slice none 0 0), .cell ⟨g6, 2, none⟩ (.slice none 0 0), .cell ⟨g6, 3, none⟩ (.slice none 0 0), .cell ⟨g6, 4, none⟩ (.slice none 0 0)] (fun fb => by kernel_rfl) ⟨hS90.cell 0 rfl 0 rfl, hS90.cell 0 rfl 1 rfl, hS90.cell 0 rfl 2 rfl, hS90.cell 0 rfl 3 rfl, hS90.cell 0 rfl 4 rfl, trivial⟩ ⟨_, rfl, none, 0, none, 0, none, 0, none, 0, none, 0, rfl, (hS95.sub [4, 3, 2, 1, 0] (by decide)).noR⟩)
  refine WC.condF2 (fun fb => by kernel_rfl) h88 ?_
  refine WC.skip (WX.next (WC.seq (WC.region ?_)))
  refine sg 2 [] [0, 2, 4, 9, 55, 56] [(0, e7), e10, (4, (.pointer none)), (9, (pt g76)), (55, (sv A86 t81.1 c87)), (56, (.pointer (some ⟨g76, 4, none⟩)))] (by kernel_rfl) ?_
  refine WL.store hS85 1 rfl [(4, (sv A86 t81.1 c87))] #[(.slice none 0 0), (.slice none 0 0), (.slice none 0 0), (sv A74 t69 c75), (sv A86 t81.1 c87)] (fun fb => by kernel_rfl) (by kernel_rfl) rfl [0, 2, 3, 4] (by decide) (by decide) (fun w96 hS97 => ?_)
  refine ⟨trivial, ?_⟩
  refine WL.done rfl (WX.next (WC.seq (WC.seq (WC.region ?_))))
  refine sg 1 [] [0, 2, 4, 9, 57] [(0, e7), e10, (4, (.pointer none)), (9, (pt g76)), (57, (.pointer none))] (by kernel_rfl) ?_
  cases hf
 have ho26 : t9.1 = some y25 := ho26
 have hk_ := optS_some ho26 hk_
 have hS13 := hS.go w11 [blk g14 (.cells #[(.slice Aa p0.length ca), (.slice A15 y25.set.length c16), (.slice A18 y25.piece.length c19), (.slice A20 y25.first.length c21), (.slice A22 y25.carries.length c23), (.map (some g24)), (iv y25.most)] 82 (0, 0)), rowO 64 enc_Tile A15 c16 y25.set, rowO 3 encInt A18 c19 y25.piece, rowO 3 encInt A20 c21 y25.first, rowO 100 enc_Carry A22 c23 y25.carries, blk g24 (mapObj (aggI ints_Carry) (vI .i64) y25.colour), blk g6 (.cells #[(.slice none 0 0), (.slice none 0 0), (.slice none 0 0), (.slice none 0 0), (.slice none 0 0)] 37 (0, 0))] (hS8.call hk_ [] [0] (fun g hg => hg.elim) (by simp) (by decide))
 refine WL.reE [0, 2, 18, 19] [(0, (.slice Aa p0.length ca)), (2, (pt g6)), (18, (.slice Aa p0.length ca)), (19, (.tuple #[(optP t9.1 g14), (iv t9.2)]))] [(0, (.slice Aa p0.length ca)), (2, (pt g6)), (18, (.slice Aa p0.length ca)), (19, (.tuple #[(pt g14), (iv t9.2)]))] rfl (by rw [ho26]; rfl) ?_
 refine sg 7 [] [0, 2, 4, 5] [(0, e7), e10, (4, (pt g14)), (5, (iv t9.2))] (by kernel_rfl) ?_
 refine WL.done rfl (WX.next (WC.seq (WC.seq (WC.region ?_))))
 refine sg 2 [] [0, 2, 4, 5, 23] [(0, e7), e10, (4, (pt g14)), (5, (iv t9.2)), (23, (bv (t9.2 != 0)))] (by kernel_rfl) ?_
 refine WL.done rfl (WX.next ?_)
 rcases br_some hf with ⟨h98, hf⟩ | ⟨h98, hf⟩
 ·refine WC.condT2 (fun fb => by kernel_rfl) h98 ?_
  refine WC.seq (WC.region ?_)
  refine sg 2 [] [2, 24, 25] [e10, (24, (.agg #[(.slice none 0 0), (.slice none 0 0), (.slice none 0 0), (.slice none 0 0), (.slice none 0 0)])), (25, (iv t9.2))] (by kernel_rfl) ?_
  refine WL.store hS13 6 rfl [(0, (.slice none 0 0)), (1, (.slice none 0 0)), (2, (.slice none 0 0)), (3, (.slice none 0 0)), (4, (.slice none 0 0))] #[(.slice none 0 0), (.slice none 0 0), (.slice none 0 0), (.slice none 0 0), (.slice none 0 0)] (fun fb => by kernel_rfl) (by kernel_rfl) rfl [0, 1, 2, 3, 4, 5] (by decide) (by decide) (fun w99 hS100 => ?_)
  refine ⟨trivial, ?_⟩
  refine sg 4 [] [2, 3] [e10, (3, (iv t9.2))] (by kernel_rfl) ?_
  refine WL.done rfl (WX.next ?_)
  refine WC.ret ?_
  have hS101 := hS100.nilrow 44 enc_Frac
  have hS102 := hS101.nilrow 44 enc_Frac
  have hS103 := hS102.nilrow 44 enc_Frac
  have hS104 := hS103.nilrow 3 encInt
  have hS105 := hS104.nilrow 3 encInt
  injection hf with hf
  subst hf
  exact WX.thenR (WX.ret_ [.v (.slice none 0 0), .v (.slice none 0 0), .v (.slice none 0 0), .v (.slice none 0 0), .v (.slice none 0 0)] (.tuple #[(.agg #[(sv none ([] : List Frac) 0), (sv none ([] : List Frac) 0), (sv none ([] : List Frac) 0), e24, e24]), (iv t9.2)]) [.cell ⟨g6, 0, none⟩ (.slice none 0 0), .cell ⟨g6, 1, none⟩ (.slice none 0 0), .cell ⟨g6, 2, none⟩ (.slice none 0 0), .cell ⟨g6, 3, none⟩ (.slice none 0 0), .cell ⟨g6, 4, none⟩ (.slice none 0 0)] (fun fb => by kernel_rfl) ⟨hS100.cell 0 rfl 0 rfl, hS100.cell 0 rfl 1 rfl, hS100.cell 0 rfl 2 rfl, hS100.cell 0 rfl 3 rfl, hS100.cell 0 rfl 4 rfl, trivial⟩ ⟨_, rfl, none, 0, none, 0, none, 0, none, 0, none, 0, rfl, (hS105.sub [4, 3, 2, 1, 0] (by decide)).noR⟩)
 refine WC.condF2 (fun fb => by kernel_rfl) h98 ?_
 refine WC.skip (WX.next (WC.seq (WC.region ?_)))
 refine sg 1 [] [0, 2, 4, 6] [(0, e7), e10, (4, (pt g14)), (6, (.slice none 0 0))] (by kernel_rfl) ?_
 refine WL.done rfl (WX.next (WC.seq (WC.seq (WC.region ?_))))
 refine sg 3 [] e22 [(0, e7), e10, (4, (pt g14)), (6, (.slice none 0 0)), (26, e7), e16, (28, (iv 0))] (by kernel_rfl) ?_
 refine WL.done rfl (WX.next ?_)
 have hS106 := hS13.nilrow 3 encInt
 obtain ⟨x113, hx114, hf⟩ := bind_some hf
 let e31 : Nat × Value := (4, (pt g14))
 refine WC.cutN (T := (List Int) × (Option Addr) × Nat) (fun t => [(0, e7), e10, e31, (6, (sv t.2.1 t.1 t.2.2))]) (fun t w1 => St NoS w w1 [rowR enc_Piece Aa ca p0] [blk g6 (.cells #[(.slice none 0 0), (.slice none 0 0), (.slice none 0 0), (.slice none 0 0), (.slice none 0 0)] 37 (0, 0)), blk g14 (.cells #[e7, (sv A15 y25.set c16), (sv A18 y25.piece c19), (sv A20 y25.first c21), (sv A22 y25.carries c23), (.map (some g24)), (iv y25.most)] 82 (0, 0)), rowO 64 enc_Tile A15 c16 y25.set, rowO 3 encInt A18 c19 y25.piece, rowO 3 encInt A20 c21 y25.first, rowO 100 enc_Carry A22 c23 y25.carries, blk g24 (mapObj (aggI ints_Carry) (vI .i64) y25.colour), rowO 3 encInt t.2.1 t.2.2 t.1] ∧ x113 = t.1) (fun Kx113 => ?_) ?_
 ·
  refine WC.block ?_
  refine WC.loop (T := ((List Int) × Int) × (Option Addr) × Nat) (fun t => [(0, e7), e10, e31, (6, (sv t.2.1 t.1.1 t.2.2)), (26, e7), e16, (28, (iv t.1.2))]) (fun n t w1 => St NoS w w1 [rowR enc_Piece Aa ca p0] [blk g6 (.cells #[(.slice none 0 0), (.slice none 0 0), (.slice none 0 0), (.slice none 0 0), (.slice none 0 0)] 37 (0, 0)), blk g14 (.cells #[e7, (sv A15 y25.set c16), (sv A18 y25.piece c19), (sv A20 y25.first c21), (sv A22 y25.carries c23), (.map (some g24)), (iv y25.most)] 82 (0, 0)), rowO 64 enc_Tile A15 c16 y25.set, rowO 3 encInt A18 c19 y25.piece, rowO 3 encInt A20 c21 y25.first, rowO 100 enc_Carry A22 c23 y25.carries, blk g24 (mapObj (aggI ints_Carry) (vI .i64) y25.colour), rowO 3 encInt t.2.1 t.2.2 t.1.1] ∧ beatty_Weigh.l1 n t.1.1 t.1.2 p0 = some x113) k ((([] : List Int), 0), none, 0) e22 rfl ⟨(hS106.subR [0]).sub [7, 1, 2, 3, 4, 5, 6, 0] (by decide), hx114⟩ ?_
  rintro k115 ⟨⟨l109, x110⟩, A107, c108⟩ w116 ⟨hS117, hl118⟩
  let e1 := rdD p0 x110 z_Piece
  let e5 : Array Value := #[(iv ((e1.Factor).Num)), (iv ((e1.Factor).Den)), (iv ((e1.Low).Num)), (iv ((e1.Low).Den)), (iv ((e1.High).Num)), (iv ((e1.High).Den))]
  let e13 := e1.Factor
  let e17 := (adr Aa).add ((x110).toNat * 6)
  let e26 := iv (e13.Num)
  let e27 := iv (e13.Den)
  cases k115 with
  | zero => rw [beatty_Weigh.l1] at hl118; cases hl118
  | succ k115 =>
   rw [beatty_Weigh.l1] at hl118
   refine WC.seq (WC.region ?_)
   refine sg 1 [] [0, 2, 4, 6, 26, 27, 28, 29] [(0, e7), e10, e31, (6, (sv A107 l109 c108)), (26, e7), e16, (28, (iv x110)), (29, (bv (decide (x110 < (p0.length : Int)))))] (by kernel_rfl) ?_
   refine WL.done rfl (WX.next (WC.seq ?_))
   rcases br_some hl118 with ⟨h119, hl118⟩ | ⟨h119, hl118⟩
   ·refine WC.condT2 (fun fb => by kernel_rfl) h119 ?_
    refine WC.skip (WX.next (WC.seq (WC.block (WC.seq (WC.region ?_)))))
    obtain ⟨h120, hl118⟩ := as_some hl118
    refine seg 2 [.v e26, .v e27, .v (iv ((e1.Low).Num)), .v (iv ((e1.Low).Den)), .v (iv ((e1.High).Num)), .v (iv ((e1.High).Den))] [0, 2, 4, 6, 26, 27, 28, 31] [(0, e7), e10, e31, (6, (sv A107 l109 c108)), (26, e7), e16, (28, (iv x110)), (31, (.agg e5))] [.idx Aa x110 p0.length, .cell e17 e26, .cell (e17.add 1) e27, .cell (e17.add 2) (iv ((e1.Low).Num)), .cell (e17.add 3) (iv ((e1.Low).Den)), .cell (e17.add 4) (iv ((e1.High).Num)), .cell (e17.add 5) (iv ((e1.High).Den))] (fun fb => by kernel_rfl) rfl ⟨rowR.adr (hS117.rd 0).1 h120.1 h120.2, rowR.cell (hS117.rd 0).1 z_Piece h120.1 h120.2 0 rfl, rowR.cell (hS117.rd 0).1 z_Piece h120.1 h120.2 1 rfl, rowR.cell (hS117.rd 0).1 z_Piece h120.1 h120.2 2 rfl, rowR.cell (hS117.rd 0).1 z_Piece h120.1 h120.2 3 rfl, rowR.cell (hS117.rd 0).1 z_Piece h120.1 h120.2 4 rfl, rowR.cell (hS117.rd 0).1 z_Piece h120.1 h120.2 5 rfl, trivial⟩ ?_
    refine WL.new hS117 8 [] (fun g => (pt g)) (.cells #[(iv 0), (iv 0), (iv 0), (iv 0), (iv 0), (iv 0)] 66 (0, 0)) [] (fun fb g => by kernel_rfl) trivial (fun g121 w122 hS123 => ?_)
    refine ⟨trivial, ?_⟩
    refine WL.store hS123 0 rfl [(0, e26), (1, e27), (2, (iv ((e1.Low).Num))), (3, (iv ((e1.Low).Den))), (4, (iv ((e1.High).Num))), (5, (iv ((e1.High).Den)))] e5 (fun fb => by kernel_rfl) (by kernel_rfl) rfl [1, 2, 3, 4, 5, 6, 7, 8] (by decide) (by decide) (fun w124 hS125 => ?_)
    refine ⟨trivial, ?_⟩
    refine WL.done rfl (WX.next (WC.region ?_))
    refine seg 7 [.v e26, .v e27] [0, 2, 4, 26, 27, 28, 32, 35, 38] [(0, e7), e10, e31, (26, e7), e16, (28, (iv x110)), (32, (sv A107 l109 c108)), (35, e26), (38, e27)] [.cell ⟨g121, 0, none⟩ e26, .cell ⟨g121, 1, none⟩ e27] (fun fb => by kernel_rfl) rfl ⟨hS125.cell 0 rfl 0 rfl, hS125.cell 0 rfl 1 rfl, trivial⟩ ?_
    refine WL.new hS125 39 [] (fun g => (.slice (some ⟨g, 0, none⟩) 2 2)) (.cells #[e26, e27] 3 (0, 0)) [] (fun fb g => by kernel_rfl) trivial (fun g126 w127 hS128 => ?_)
    refine ⟨trivial, ?_⟩
    have hS129 := hS13.go w127 [rowO 3 encInt (some ⟨g126, 0, none⟩) 2 [e13.Num, e13.Den], blk g121 (.cells e5 66 (0, 0)), blk g6 (.cells #[(.slice none 0 0), (.slice none 0 0), (.slice none 0 0), (.slice none 0 0), (.slice none 0 0)] 37 (0, 0)), blk g14 (.cells #[e7, (sv A15 y25.set c16), (sv A18 y25.piece c19), (sv A20 y25.first c21), (sv A22 y25.carries c23), (.map (some g24)), (iv y25.most)] 82 (0, 0)), rowO 64 enc_Tile A15 c16 y25.set, rowO 3 encInt A18 c19 y25.piece, rowO 3 encInt A20 c21 y25.first, rowO 100 enc_Carry A22 c23 y25.carries, blk g24 (mapObj (aggI ints_Carry) (vI .i64) y25.colour), rowO 3 encInt A107 c108 l109] (hS128.map1 0 _ (fun h => rowO.ofBlk h rfl (Nat.le_of_ble_eq_true (by kernel_rfl))) (fun _ h => by obtain ⟨_, h1, h2⟩ := h; injection h1 with h1; subst h1; exact h2) [1, 2, 3, 4, 5, 6, 7, 8, 9] (by decide) (by decide))
    obtain ⟨h130, hl118⟩ := as_some hl118
    refine WL.append hS129 9 (d := 40) (tS := 35) (z := (iv 0)) (bytes := 8) (c2 := 2) rfl (fun fb => by kernel_rfl) (rowO.rd (hS129.own 0).1) (by kernel_rfl) (by kernel_rfl) rfl (by decide) h130 (by decide) [0, 1, 2, 3, 4, 5, 6, 7, 8] (by decide) (by decide) (fun A131 c132 w133 hS134 => ?_)
    refine ⟨trivial, ?_⟩
    refine sg 10 [] e22 [(0, e7), e10, e31, (6, (sv A131 (l109 ++ [e13.Num, e13.Den]) c132)), (26, e7), e16, (28, (iv x110))] (by kernel_rfl) ?_
    refine WL.done rfl ?_
    refine WX.blockN (WX.next ?_)
    refine WC.region ?_
    refine sg 2 [] e22 [(0, e7), e10, e31, (6, (sv A131 (l109 ++ [e13.Num, e13.Den]) c132)), (26, e7), e16, (28, (iv (w64 (x110 + 1))))] (by kernel_rfl) ?_
    refine WL.done rfl ?_
    exact WX.again k115 (Nat.lt_succ_self _) ((l109 ++ [e13.Num, e13.Den], w64 (x110 + 1)), A131, c132) e22 rfl ⟨(hS134.subR [0]).sub [3, 4, 5, 6, 7, 8, 9, 0] (by decide), hl118⟩
   refine WC.condF2 (fun fb => by kernel_rfl) h119 ?_
   refine WC.exit ?_
   injection hl118 with hl118
   exact WX.thenX (WX.thenX (WX.blockHere (WX.to Kx113 (l109, A107, c108) [0, 2, 4, 6] rfl ⟨(hS117.subR [0]).sub [0, 1, 2, 3, 4, 5, 6, 7] (by decide), hl118.symm⟩)))
 rintro ⟨y138, A111, c112⟩ w135 ⟨hS136, hq137⟩
 subst hq137
 refine WX.next (WC.seq (WC.region ?_))
 refine sg 1 [] [0, 2, 4, 42] [(0, e7), e10, e31, (42, (sv A111 x113 c112))] (by kernel_rfl) ?_
 obtain ⟨t139, ht140, hf⟩ := bind_some hf
 refine WL.call (some 43) 46 #[(sv A111 x113 c112)] (fun fb => by kernel_rfl) (beatty_primesOf_calls _ x113 A111 c112 t139 _ (hS136.ow 7).ofO ht140) (fun v w141 hR142 => ?_)
 obtain ⟨A144, c145, rfl, hk_⟩ := hR142
 have hS143 := hS13.go w141 [rowO 3 encInt A144 c145 t139, blk g6 (.cells #[(.slice none 0 0), (.slice none 0 0), (.slice none 0 0), (.slice none 0 0), (.slice none 0 0)] 37 (0, 0)), blk g14 (.cells #[(.slice Aa p0.length ca), (.slice A15 y25.set.length c16), (.slice A18 y25.piece.length c19), (.slice A20 y25.first.length c21), (.slice A22 y25.carries.length c23), (.map (some g24)), (iv y25.most)] 82 (0, 0)), rowO 64 enc_Tile A15 c16 y25.set, rowO 3 encInt A18 c19 y25.piece, rowO 3 encInt A20 c21 y25.first, rowO 100 enc_Carry A22 c23 y25.carries, blk g24 (mapObj (aggI ints_Carry) (vI .i64) y25.colour), rowO 3 encInt A111 c112 x113] (hS136.call hk_ [] [0, 1, 2, 3, 4, 5, 6, 7] (fun g hg => hg.elim) (by simp) (by decide))
 refine ⟨trivial, ?_⟩
 refine sg 3 [] [0, 2, 4, 44] [(0, e7), e10, e31, (44, (.agg #[(.slice none 0 0), (.slice none 0 0), (.slice none 0 0), (sv A144 t139 c145), (.slice none 0 0)]))] (by kernel_rfl) ?_
 refine WL.new hS143 9 [] (fun g => (pt g)) (.cells #[(.slice none 0 0), (.slice none 0 0), (.slice none 0 0), (.slice none 0 0), (.slice none 0 0)] 37 (0, 0)) [] (fun fb g => by kernel_rfl) trivial (fun g146 w147 hS148 => ?_)
 refine ⟨trivial, ?_⟩
 refine WL.store hS148 0 rfl [(0, (.slice none 0 0)), (1, (.slice none 0 0)), (2, (.slice none 0 0)), (3, (sv A144 t139 c145)), (4, (.slice none 0 0))] #[(.slice none 0 0), (.slice none 0 0), (.slice none 0 0), (sv A144 t139 c145), (.slice none 0 0)] (fun fb => by kernel_rfl) (by kernel_rfl) rfl [1, 2, 3, 4, 5, 6, 7, 8, 9] (by decide) (by decide) (fun w149 hS150 => ?_)
 refine ⟨trivial, ?_⟩
 refine WL.done rfl (WX.next (WC.seq (WC.region ?_)))
 refine seg 3 [.v (sv A144 t139 c145)] [0, 2, 4, 9, 46, 48] [(0, e7), e10, e31, (9, (pt g146)), (46, e7), (48, (sv A144 t139 c145))] [.cell ⟨g146, 3, none⟩ (sv A144 t139 c145)] (fun fb => by kernel_rfl) rfl ⟨hS150.cell 0 rfl 3 rfl, trivial⟩ ?_
 obtain ⟨t151, ht152, hf⟩ := bind_some hf
 refine WL.call (some 49) 47 #[e7, (sv A144 t139 c145)] (fun fb => by kernel_rfl) (beatty_logsOf_calls _ p0 t139 Aa ca A144 c145 t151 _ (hS150.rd 0) (hS150.ow 1).ofO ht152) (fun v w153 hR154 => ?_)
 obtain ⟨A156, c157, rfl, hk_⟩ := hR154
 have hS155 := hS143.go w153 [rowO 3 encInt A156 c157 t151.1, blk g146 (.cells #[(.slice none 0 0), (.slice none 0 0), (.slice none 0 0), (.slice A144 t139.length c145), (.slice none 0 0)] 37 (0, 0)), rowO 3 encInt A144 c145 t139, blk g6 (.cells #[(.slice none 0 0), (.slice none 0 0), (.slice none 0 0), (.slice none 0 0), (.slice none 0 0)] 37 (0, 0)), blk g14 (.cells #[(.slice Aa p0.length ca), (.slice A15 y25.set.length c16), (.slice A18 y25.piece.length c19), (.slice A20 y25.first.length c21), (.slice A22 y25.carries.length c23), (.map (some g24)), (iv y25.most)] 82 (0, 0)), rowO 64 enc_Tile A15 c16 y25.set, rowO 3 encInt A18 c19 y25.piece, rowO 3 encInt A20 c21 y25.first, rowO 100 enc_Carry A22 c23 y25.carries, blk g24 (mapObj (aggI ints_Carry) (vI .i64) y25.colour), rowO 3 encInt A111 c112 x113] (hS150.call hk_ [] [0, 1, 2, 3, 4, 5, 6, 7, 8, 9] (fun g hg => hg.elim) (by simp) (by decide))
 refine ⟨trivial, ?_⟩
 refine sg 9 [] [0, 2, 4, 9, 10, 11] [(0, e7), e10, e31, (9, (pt g146)), (10, (sv A156 t151.1 c157)), (11, (bv t151.2))] (by kernel_rfl) ?_
 refine WL.done rfl (WX.next (WC.seq (WC.seq (WC.region ?_))))
 refine sg 2 [] [0, 2, 4, 9, 10, 53] [(0, e7), e10, e31, (9, (pt g146)), (10, (sv A156 t151.1 c157)), (53, (bv (!t151.2)))] (by kernel_rfl) ?_
 refine WL.done rfl (WX.next ?_)
 rcases br_some hf with ⟨h158, hf⟩ | ⟨h158, hf⟩
 ·refine WC.condT2 (fun fb => by kernel_rfl) h158 ?_
  refine WC.seq (WC.region ?_)
  refine sg 1 [] [2, 54] [e10, (54, (.agg #[(.slice none 0 0), (.slice none 0 0), (.slice none 0 0), (.slice none 0 0), (.slice none 0 0)]))] (by kernel_rfl) ?_
  refine WL.store hS155 3 rfl [(0, (.slice none 0 0)), (1, (.slice none 0 0)), (2, (.slice none 0 0)), (3, (.slice none 0 0)), (4, (.slice none 0 0))] #[(.slice none 0 0), (.slice none 0 0), (.slice none 0 0), (.slice none 0 0), (.slice none 0 0)] (fun fb => by kernel_rfl) (by kernel_rfl) rfl [0, 1, 2, 4, 5, 6, 7, 8, 9, 10] (by decide) (by decide) (fun w159 hS160 => ?_)
  refine ⟨trivial, ?_⟩
  refine sg 3 [] [2, 3] [e10, (3, (iv 6))] (by kernel_rfl) ?_
  refine WL.done rfl (WX.next ?_)
  refine WC.ret ?_
  have hS161 := hS160.nilrow 44 enc_Frac
  have hS162 := hS161.nilrow 44 enc_Frac
  have hS163 := hS162.nilrow 44 enc_Frac
  have hS164 := hS163.nilrow 3 encInt
  have hS165 := hS164.nilrow 3 encInt
  injection hf with hf
  subst hf
  exact WX.thenR (WX.ret_ [.v (.slice none 0 0), .v (.slice none 0 0), .v (.slice none 0 0), .v (.slice none 0 0), .v (.slice none 0 0)] (.tuple #[(.agg #[(sv none ([] : List Frac) 0), (sv none ([] : List Frac) 0), (sv none ([] : List Frac) 0), e24, e24]), (iv 6)]) [.cell ⟨g6, 0, none⟩ (.slice none 0 0), .cell ⟨g6, 1, none⟩ (.slice none 0 0), .cell ⟨g6, 2, none⟩ (.slice none 0 0), .cell ⟨g6, 3, none⟩ (.slice none 0 0), .cell ⟨g6, 4, none⟩ (.slice none 0 0)] (fun fb => by kernel_rfl) ⟨hS160.cell 0 rfl 0 rfl, hS160.cell 0 rfl 1 rfl, hS160.cell 0 rfl 2 rfl, hS160.cell 0 rfl 3 rfl, hS160.cell 0 rfl 4 rfl, trivial⟩ ⟨_, rfl, none, 0, none, 0, none, 0, none, 0, none, 0, rfl, (hS165.sub [4, 3, 2, 1, 0] (by decide)).noR⟩)
 refine WC.condF2 (fun fb => by kernel_rfl) h158 ?_
 refine WC.skip (WX.next (WC.seq (WC.region ?_)))
 refine sg 2 [] [0, 2, 4, 9, 55, 56] [(0, e7), e10, e31, (9, (pt g146)), (55, (sv A156 t151.1 c157)), (56, (.pointer (some ⟨g146, 4, none⟩)))] (by kernel_rfl) ?_
 refine WL.store hS155 1 rfl [(4, (sv A156 t151.1 c157))] #[(.slice none 0 0), (.slice none 0 0), (.slice none 0 0), (sv A144 t139 c145), (sv A156 t151.1 c157)] (fun fb => by kernel_rfl) (by kernel_rfl) rfl [0, 2, 3, 4, 5, 6, 7, 8, 9, 10] (by decide) (by decide) (fun w166 hS167 => ?_)
 refine ⟨trivial, ?_⟩
 refine WL.done rfl (WX.next (WC.seq (WC.seq (WC.region ?_))))
 refine seg 6 [.v (iv y25.most)] [0, 2, 4, 9, 61, 62] [(0, e7), e10, e31, (9, (pt g146)), (61, (iv (w64 (y25.most + 1)))), (62, (iv 0))] [.cell ⟨g14, 6, none⟩ (iv y25.most)] (fun fb => by kernel_rfl) rfl ⟨hS167.cell 4 rfl 6 rfl, trivial⟩ ?_
 refine WL.done rfl (WX.next ?_)
 have hS168 := hS167.nilrow 44 enc_Frac
 obtain ⟨x175, hx176, hf⟩ := bind_some hf
 let e19 : Nat × Value := (61, (iv (w64 (y25.most + 1))))
 let e25 : Nat × Value := (9, (pt g146))
 let e35 := sv A156 t151.1 c157
 refine WC.cutN (T := (List Frac) × (Option Addr) × Nat) (fun t => [(0, e7), e10, e31, e25]) (fun t w1 => St NoS w w1 [rowR enc_Piece Aa ca p0] [blk g6 (.cells #[(.slice none 0 0), (.slice none 0 0), (.slice none 0 0), (.slice none 0 0), (.slice none 0 0)] 37 (0, 0)), blk g14 (.cells #[e7, (sv A15 y25.set c16), (sv A18 y25.piece c19), (sv A20 y25.first c21), (sv A22 y25.carries c23), (.map (some g24)), (iv y25.most)] 82 (0, 0)), rowO 64 enc_Tile A15 c16 y25.set, rowO 3 encInt A18 c19 y25.piece, rowO 3 encInt A20 c21 y25.first, rowO 100 enc_Carry A22 c23 y25.carries, blk g24 (mapObj (aggI ints_Carry) (vI .i64) y25.colour), blk g146 (.cells #[(sv t.2.1 t.1 t.2.2), (.slice none 0 0), (.slice none 0 0), (sv A144 t139 c145), e35] 37 (0, 0)), rowO 44 enc_Frac t.2.1 t.2.2 t.1, rowO 3 encInt A144 c145 t139, rowO 3 encInt A156 c157 t151.1] ∧ x175 = t.1) (fun Kx175 => ?_) ?_
 ·
  refine WC.block ?_
  refine WC.loop (T := ((List Frac) × Int) × (Option Addr) × Nat) (fun t => [(0, e7), e10, e31, e25, e19, (62, (iv t.1.2))]) (fun n t w1 => St NoS w w1 [rowR enc_Piece Aa ca p0] [blk g6 (.cells #[(.slice none 0 0), (.slice none 0 0), (.slice none 0 0), (.slice none 0 0), (.slice none 0 0)] 37 (0, 0)), blk g14 (.cells #[e7, (sv A15 y25.set c16), (sv A18 y25.piece c19), (sv A20 y25.first c21), (sv A22 y25.carries c23), (.map (some g24)), (iv y25.most)] 82 (0, 0)), rowO 64 enc_Tile A15 c16 y25.set, rowO 3 encInt A18 c19 y25.piece, rowO 3 encInt A20 c21 y25.first, rowO 100 enc_Carry A22 c23 y25.carries, blk g24 (mapObj (aggI ints_Carry) (vI .i64) y25.colour), blk g146 (.cells #[(sv t.2.1 t.1.1 t.2.2), (.slice none 0 0), (.slice none 0 0), (sv A144 t139 c145), e35] 37 (0, 0)), rowO 44 enc_Frac t.2.1 t.2.2 t.1.1, rowO 3 encInt A144 c145 t139, rowO 3 encInt A156 c157 t151.1] ∧ beatty_Weigh.l2 n t.1.1 t.1.2 y25 = some x175) k ((([] : List Frac), 0), none, 0) [0, 2, 4, 9, 61, 62] rfl ⟨(hS168.subR [0]).sub [4, 5, 6, 7, 8, 9, 10, 1, 0, 3, 2] (by decide), hx176⟩ ?_
  rintro k177 ⟨⟨l171, x172⟩, A169, c170⟩ w178 ⟨hS179, hl180⟩
  let e32 := [(Frac.mk x172 1)]
  cases k177 with
  | zero => rw [beatty_Weigh.l2] at hl180; cases hl180
  | succ k177 =>
   rw [beatty_Weigh.l2] at hl180
   refine WC.seq (WC.region ?_)
   refine sg 1 [] [0, 2, 4, 9, 61, 62, 63] [(0, e7), e10, e31, e25, e19, (62, (iv x172)), (63, (bv (decide (x172 < w64 (y25.most + 1)))))] (by kernel_rfl) ?_
   refine WL.done rfl (WX.next (WC.seq ?_))
   rcases br_some hl180 with ⟨h181, hl180⟩ | ⟨h181, hl180⟩
   ·refine WC.condT2 (fun fb => by kernel_rfl) h181 ?_
    refine WC.skip (WX.next (WC.seq (WC.block (WC.seq (WC.region ?_)))))
    refine sg 2 [] [0, 2, 4, 9, 12, 61, 62] [(0, e7), e10, e31, e25, (12, (iv x172)), e19, (62, (iv x172))] (by kernel_rfl) ?_
    refine WL.done rfl (WX.next (WC.region ?_))
    refine seg 4 [.v (sv A169 l171 c170)] [0, 2, 4, 9, 61, 62, 66, 68] [(0, e7), e10, e31, e25, e19, (62, (iv x172)), (66, (sv A169 l171 c170)), (68, (.agg #[(iv x172), (iv 1)]))] [.cell ⟨g146, 0, none⟩ (sv A169 l171 c170)] (fun fb => by kernel_rfl) rfl ⟨hS179.cell 7 rfl 0 rfl, trivial⟩ ?_
    refine WL.new hS179 69 [] (fun g => (.slice (some ⟨g, 0, none⟩) 1 1)) (.cells #[(iv x172), (iv 1)] 44 (0, 0)) [] (fun fb g => by kernel_rfl) trivial (fun g182 w183 hS184 => ?_)
    refine ⟨trivial, ?_⟩
    have hS185 := hS155.go w183 [rowO 44 enc_Frac (some ⟨g182, 0, none⟩) 1 e32, blk g6 (.cells #[(.slice none 0 0), (.slice none 0 0), (.slice none 0 0), (.slice none 0 0), (.slice none 0 0)] 37 (0, 0)), blk g14 (.cells #[e7, (sv A15 y25.set c16), (sv A18 y25.piece c19), (sv A20 y25.first c21), (sv A22 y25.carries c23), (.map (some g24)), (iv y25.most)] 82 (0, 0)), rowO 64 enc_Tile A15 c16 y25.set, rowO 3 encInt A18 c19 y25.piece, rowO 3 encInt A20 c21 y25.first, rowO 100 enc_Carry A22 c23 y25.carries, blk g24 (mapObj (aggI ints_Carry) (vI .i64) y25.colour), blk g146 (.cells #[(sv A169 l171 c170), (.slice none 0 0), (.slice none 0 0), (sv A144 t139 c145), e35] 37 (0, 0)), rowO 44 enc_Frac A169 c170 l171, rowO 3 encInt A144 c145 t139, rowO 3 encInt A156 c157 t151.1] (hS184.map1 0 _ (fun h => rowO.ofBlk h rfl (Nat.le_of_ble_eq_true (by kernel_rfl))) (fun _ h => by obtain ⟨_, h1, h2⟩ := h; injection h1 with h1; subst h1; exact h2) [1, 2, 3, 4, 5, 6, 7, 8, 9, 10, 11] (by decide) (by decide))
    obtain ⟨h186, hl180⟩ := as_some hl180
    refine WL.append hS185 9 (d := 70) (tS := 34) (z := (.agg #[(iv 0), (iv 0)])) (bytes := 16) (c2 := 1) rfl (fun fb => by kernel_rfl) (rowO.rd (hS185.own 0).1) (by kernel_rfl) (by kernel_rfl) rfl (by decide) h186 (by decide) [0, 1, 2, 3, 4, 5, 6, 7, 8, 10, 11] (by decide) (by decide) (fun A187 c188 w189 hS190 => ?_)
    refine ⟨trivial, ?_⟩
    refine sg 7 [] [0, 2, 4, 9, 61, 62, 70, 71] [(0, e7), e10, e31, e25, e19, (62, (iv x172)), (70, (sv A187 (l171 ++ e32) c188)), (71, (pt g146))] (by kernel_rfl) ?_
    refine WL.store hS190 9 rfl [(0, (sv A187 (l171 ++ e32) c188))] #[(sv A187 (l171 ++ e32) c188), (.slice none 0 0), (.slice none 0 0), (sv A144 t139 c145), e35] (fun fb => by kernel_rfl) (by kernel_rfl) rfl [0, 1, 2, 3, 4, 5, 6, 7, 8, 10, 11] (by decide) (by decide) (fun w191 hS192 => ?_)
    refine ⟨trivial, ?_⟩
    refine WL.done rfl ?_
    refine WX.blockN (WX.next ?_)
    refine WC.region ?_
    refine sg 2 [] [0, 2, 4, 9, 61, 62] [(0, e7), e10, e31, e25, e19, (62, (iv (w64 (x172 + 1))))] (by kernel_rfl) ?_
    refine WL.done rfl ?_
    exact WX.again k177 (Nat.lt_succ_self _) ((l171 ++ e32, w64 (x172 + 1)), A187, c188) [0, 2, 4, 9, 61, 62] rfl ⟨(hS192.subR [0]).sub [3, 4, 5, 6, 7, 8, 9, 0, 1, 10, 11] (by decide), hl180⟩
   refine WC.condF2 (fun fb => by kernel_rfl) h181 ?_
   refine WC.exit ?_
   injection hl180 with hl180
   exact WX.thenX (WX.thenX (WX.blockHere (WX.to Kx175 (l171, A169, c170) [0, 2, 4, 9] rfl ⟨(hS179.subR [0]).sub [0, 1, 2, 3, 4, 5, 6, 7, 8, 9, 10] (by decide), hl180.symm⟩)))
 rintro ⟨y196, A173, c174⟩ w193 ⟨hS194, hq195⟩
 subst hq195
 refine WX.next (WC.seq (WC.seq (WC.region ?_)))
 refine seg 6 [.v (sv A22 y25.carries c23)] [0, 2, 4, 9, 76, 77, 78] [(0, e7), e10, e31, e25, (76, (sv A22 y25.carries c23)), (77, (iv (y25.carries.length : Int))), (78, (iv 0))] [.cell ⟨g14, 4, none⟩ (sv A22 y25.carries c23)] (fun fb => by kernel_rfl) rfl ⟨hS194.cell 1 rfl 4 rfl, trivial⟩ ?_
 refine WL.done rfl (WX.next ?_)
 have hS197 := hS194.nilrow 44 enc_Frac
 obtain ⟨x204, hx205, hf⟩ := bind_some hf
 let e11 : Nat × Value := (77, (iv (y25.carries.length : Int)))
 let e12 := sv A22 y25.carries c23
 refine WC.cutN (T := (List Frac) × (Option Addr) × Nat) (fun t => [(0, e7), e10, e31, e25]) (fun t w1 => St NoS w w1 [rowR enc_Piece Aa ca p0] [blk g6 (.cells #[(.slice none 0 0), (.slice none 0 0), (.slice none 0 0), (.slice none 0 0), (.slice none 0 0)] 37 (0, 0)), blk g14 (.cells #[e7, (sv A15 y25.set c16), (sv A18 y25.piece c19), (sv A20 y25.first c21), e12, (.map (some g24)), (iv y25.most)] 82 (0, 0)), rowO 64 enc_Tile A15 c16 y25.set, rowO 3 encInt A18 c19 y25.piece, rowO 3 encInt A20 c21 y25.first, rowO 100 enc_Carry A22 c23 y25.carries, blk g24 (mapObj (aggI ints_Carry) (vI .i64) y25.colour), blk g146 (.cells #[(sv A173 x175 c174), (sv t.2.1 t.1 t.2.2), (.slice none 0 0), (sv A144 t139 c145), e35] 37 (0, 0)), rowO 44 enc_Frac A173 c174 x175, rowO 44 enc_Frac t.2.1 t.2.2 t.1, rowO 3 encInt A144 c145 t139, rowO 3 encInt A156 c157 t151.1] ∧ x204 = t.1) (fun Kx204 => ?_) ?_
 ·
  refine WC.block ?_
  refine WC.loop (T := ((List Frac) × Int) × (Option Addr) × Nat) (fun t => [(0, e7), e10, e31, e25, (76, e12), e11, (78, (iv t.1.2))]) (fun n t w1 => St NoS w w1 [rowR enc_Piece Aa ca p0] [blk g6 (.cells #[(.slice none 0 0), (.slice none 0 0), (.slice none 0 0), (.slice none 0 0), (.slice none 0 0)] 37 (0, 0)), blk g14 (.cells #[e7, (sv A15 y25.set c16), (sv A18 y25.piece c19), (sv A20 y25.first c21), e12, (.map (some g24)), (iv y25.most)] 82 (0, 0)), rowO 64 enc_Tile A15 c16 y25.set, rowO 3 encInt A18 c19 y25.piece, rowO 3 encInt A20 c21 y25.first, rowO 100 enc_Carry A22 c23 y25.carries, blk g24 (mapObj (aggI ints_Carry) (vI .i64) y25.colour), blk g146 (.cells #[(sv A173 x175 c174), (sv t.2.1 t.1.1 t.2.2), (.slice none 0 0), (sv A144 t139 c145), e35] 37 (0, 0)), rowO 44 enc_Frac A173 c174 x175, rowO 44 enc_Frac t.2.1 t.2.2 t.1.1, rowO 3 encInt A144 c145 t139, rowO 3 encInt A156 c157 t151.1] ∧ beatty_Weigh.l3 n t.1.1 t.1.2 p0 y25 = some x204) k ((([] : List Frac), 0), none, 0) [0, 2, 4, 9, 76, 77, 78] rfl ⟨(hS197.subR [0]).sub [1, 2, 3, 4, 5, 6, 7, 8, 9, 0, 10, 11] (by decide), hx205⟩ ?_
  rintro k206 ⟨⟨l200, x201⟩, A198, c199⟩ w207 ⟨hS208, hl209⟩
  let e3 := rdD y25.carries x201 z_Carry
  let e9 := ((rdD p0 (e3.piece) z_Piece).Factor).Den
  let e21 := iv (e3.piece)
  let e23 := iv (e3.n)
  let e30 := sv A198 l200 c199
  let e33 : Nat × Addr × Value := (10, (((adr Aa).add ((e3.piece).toNat * 6)).add 1), (iv e9))
  cases k206 with
  | zero => rw [beatty_Weigh.l3] at hl209; cases hl209
  | succ k206 =>
   rw [beatty_Weigh.l3] at hl209
   refine WC.seq (WC.region ?_)
   refine sg 1 [] [0, 2, 4, 9, 76, 77, 78, 79] [(0, e7), e10, e31, e25, (76, e12), e11, (78, (iv x201)), (79, (bv (decide (x201 < (y25.carries.length : Int)))))] (by kernel_rfl) ?_
   refine WL.done rfl (WX.next (WC.seq ?_))
   rcases br_some hl209 with ⟨h210, hl209⟩ | ⟨h210, hl209⟩
   ·refine WC.condT2 (fun fb => by kernel_rfl) h210 ?_
    refine WC.skip (WX.next (WC.seq (WC.block (WC.seq (WC.region ?_)))))
    obtain ⟨h211, hl209⟩ := as_some hl209
    refine seg 2 [.v e21, .v e23] [0, 2, 4, 9, 76, 77, 78, 81] [(0, e7), e10, e31, e25, (76, e12), e11, (78, (iv x201)), (81, (.agg #[e21, e23]))] [.idx A22 x201 y25.carries.length, .cell ((adr A22).add ((x201).toNat * 2)) e21, .cell (((adr A22).add ((x201).toNat * 2)).add 1) e23] (fun fb => by kernel_rfl) rfl ⟨rowR.adr (rowO.rd (hS208.own 5).1) h211.1 h211.2, rowR.cell (rowO.rd (hS208.own 5).1) z_Carry h211.1 h211.2 0 rfl, rowR.cell (rowO.rd (hS208.own 5).1) z_Carry h211.1 h211.2 1 rfl, trivial⟩ ?_
    refine WL.new hS208 14 [] (fun g => (pt g)) (.cells #[(iv 0), (iv 0)] 100 (0, 0)) [] (fun fb g => by kernel_rfl) trivial (fun g212 w213 hS214 => ?_)
    refine ⟨trivial, ?_⟩
    refine WL.store hS214 0 rfl [(0, e21), (1, e23)] #[e21, e23] (fun fb => by kernel_rfl) (by kernel_rfl) rfl [1, 2, 3, 4, 5, 6, 7, 8, 9, 10, 11, 12] (by decide) (by decide) (fun w215 hS216 => ?_)
    refine ⟨trivial, ?_⟩
    refine WL.done rfl (WX.next ?_)
    obtain ⟨h219, hl209⟩ := as_some hl209
    refine WC.regionD ([(1, ⟨g146, 1, none⟩, e30), (3, ⟨g212, 1, none⟩, e23), (6, ⟨g212, 0, none⟩, e21), e33], [0, 1, 2, 3, 4, 5, 6, 7, 8, 9, 10, 14], [[], [0], [], [2], [], [], [5], [4, 5, 6], [4, 5, 6, 7], [4, 5, 6, 7, 8], [4, 5, 6, 7, 8, 9], [2, 3, 4, 5, 6, 7, 8, 9, 10], [2, 3, 4, 5, 6, 7, 8, 9, 10, 11], [0, 1, 2, 3, 4, 5, 6, 7, 8, 9, 10, 11, 12], [0, 1, 2, 3, 4, 5, 6, 7, 8, 9, 10, 11, 12, 13], [0, 1, 2, 3, 4, 5, 6, 7, 8, 9, 10, 11, 12, 13, 14]]) [[0, 1, 2, 3, 4, 5, 6, 7, 8, 9, 10, 11, 12, 13, 14, 15]] (by kernel_rfl) (by kernel_rfl) (NoPanic.block (NoPanic.seq (NoPanic.seq (NoPanic.block (NoPanic.seq (NoPanic.body)))))) ?_
    have hS218 := hS216.drew
    revert hS218
    generalize World.drew w215 = w217
    intro hS218
    refine ⟨⟨hS218.cell 8 rfl 1 rfl, hS218.cell 0 rfl 1 rfl, hS218.cell 0 rfl 0 rfl, rowR.cell (hS218.rd 0).1 z_Piece h219.1 h219.2 1 rfl, trivial⟩, forallC ?_ (forallN)⟩
    refine segF 11 [.v e30, .v e23, .v e21, .v (iv e9)] [0, 2, 4, 9, 76, 77, 78, 83, 85, 92] [(0, e7), e10, e31, e25, (76, e12), e11, (78, (iv x201)), (83, e30), (85, e23), (92, (iv e9))] [.idx Aa (e3.piece) p0.length] [0, 1, 2, 3] [(1, ⟨g146, 1, none⟩, e30), (3, ⟨g212, 1, none⟩, e23), (6, ⟨g212, 0, none⟩, e21), e33] (fun fb => by kernel_rfl) rfl ⟨rowR.adr (hS218.rd 0).1 h219.1 h219.2, trivial⟩ rfl ?_
    obtain ⟨t220, ht221, hl209⟩ := bind_some hl209
    refine WL.call (some 93) 48 #[e23, (iv e9)] (fun fb => by kernel_rfl) (beatty_lowest_calls _ (e3.n) e9 t220 _ ht221) (fun v w222 hR223 => ?_)
    obtain ⟨rfl, hk_⟩ := hR223
    have hS224 := hS218.keepN hk_
    refine ⟨⟨hS224.cell 8 rfl 1 rfl, trivial⟩, ?_⟩
    refine WL.new hS224 94 [] (fun g => (.slice (some ⟨g, 0, none⟩) 1 1)) (.cells #[(iv t220.Num), (iv t220.Den)] 44 (0, 0)) [] (fun fb g => by kernel_rfl) trivial (fun g225 w226 hS227 => ?_)
    refine ⟨⟨hS227.cell 9 rfl 1 rfl, trivial⟩, ?_⟩
    have hS228 := hS155.go w226 [rowO 44 enc_Frac (some ⟨g225, 0, none⟩) 1 [t220], blk g212 (.cells #[e21, e23] 100 (0, 0)), blk g6 (.cells #[(.slice none 0 0), (.slice none 0 0), (.slice none 0 0), (.slice none 0 0), (.slice none 0 0)] 37 (0, 0)), blk g14 (.cells #[e7, (sv A15 y25.set c16), (sv A18 y25.piece c19), (sv A20 y25.first c21), e12, (.map (some g24)), (iv y25.most)] 82 (0, 0)), rowO 64 enc_Tile A15 c16 y25.set, rowO 3 encInt A18 c19 y25.piece, rowO 3 encInt A20 c21 y25.first, rowO 100 enc_Carry A22 c23 y25.carries, blk g24 (mapObj (aggI ints_Carry) (vI .i64) y25.colour), blk g146 (.cells #[(sv A173 x175 c174), e30, (.slice none 0 0), (sv A144 t139 c145), e35] 37 (0, 0)), rowO 44 enc_Frac A173 c174 x175, rowO 44 enc_Frac A198 c199 l200, rowO 3 encInt A144 c145 t139, rowO 3 encInt A156 c157 t151.1] (hS227.map1 0 _ (fun h => rowO.ofBlk h rfl (Nat.le_of_ble_eq_true (by kernel_rfl))) (fun _ h => by obtain ⟨_, h1, h2⟩ := h; injection h1 with h1; subst h1; exact h2) [1, 2, 3, 4, 5, 6, 7, 8, 9, 10, 11, 12, 13] (by decide) (by decide))
    obtain ⟨h229, hl209⟩ := as_some hl209
    refine WL.append hS228 11 (d := 95) (tS := 34) (z := (.agg #[(iv 0), (iv 0)])) (bytes := 16) (c2 := 1) rfl (fun fb => by kernel_rfl) (rowO.rd (hS228.own 0).1) (by kernel_rfl) (by kernel_rfl) rfl (by decide) h229 (by decide) [0, 1, 2, 3, 4, 5, 6, 7, 8, 9, 10, 12, 13] (by decide) (by decide) (fun A230 c231 w232 hS233 => ?_)
    refine ⟨trivial, ?_⟩
    refine sg 15 [] [0, 2, 4, 9, 76, 77, 78, 95, 96] [(0, e7), e10, e31, e25, (76, e12), e11, (78, (iv x201)), (95, (sv A230 (l200 ++ [t220]) c231)), (96, (.pointer (some ⟨g146, 1, none⟩)))] (by kernel_rfl) ?_
    refine WL.store hS233 10 rfl [(1, (sv A230 (l200 ++ [t220]) c231))] #[(sv A173 x175 c174), (sv A230 (l200 ++ [t220]) c231), (.slice none 0 0), (sv A144 t139 c145), e35] (fun fb => by kernel_rfl) (by kernel_rfl) rfl [0, 1, 2, 3, 4, 5, 6, 7, 8, 9, 11, 12, 13] (by decide) (by decide) (fun w234 hS235 => ?_)
    refine ⟨trivial, ?_⟩
    refine WL.done rfl ?_
    refine WX.blockN (WX.next ?_)
    refine WC.region ?_
    refine sg 2 [] [0, 2, 4, 9, 76, 77, 78] [(0, e7), e10, e31, e25, (76, e12), e11, (78, (iv (w64 (x201 + 1))))] (by kernel_rfl) ?_
    refine WL.done rfl ?_
    exact WX.again k206 (Nat.lt_succ_self _) ((l200 ++ [t220], w64 (x201 + 1)), A230, c231) [0, 2, 4, 9, 76, 77, 78] rfl ⟨(hS235.subR [0]).sub [4, 5, 6, 7, 8, 9, 10, 0, 11, 1, 12, 13] (by decide), hl209⟩
   refine WC.condF2 (fun fb => by kernel_rfl) h210 ?_
   refine WC.exit ?_
   injection hl209 with hl209
   exact WX.thenX (WX.thenX (WX.blockHere (WX.to Kx204 (l200, A198, c199) [0, 2, 4, 9] rfl ⟨(hS208.subR [0]).sub [0, 1, 2, 3, 4, 5, 6, 7, 8, 9, 10, 11] (by decide), hl209.symm⟩)))
 rintro ⟨y239, A202, c203⟩ w236 ⟨hS237, hq238⟩
 subst hq238
 refine WX.next (WC.seq (WC.seq (WC.region ?_)))
 refine seg 6 [.v (sv A18 y25.piece c19)] [0, 2, 9, 101, 102, 103] [(0, e7), e10, e25, (101, (sv A18 y25.piece c19)), (102, (iv (y25.piece.length : Int))), (103, (iv 0))] [.cell ⟨g14, 2, none⟩ (sv A18 y25.piece c19)] (fun fb => by kernel_rfl) rfl ⟨hS237.cell 1 rfl 2 rfl, trivial⟩ ?_
 refine WL.done rfl (WX.next ?_)
 have hS240 := hS237.nilrow 44 enc_Frac
 obtain ⟨x247, hx248, hf⟩ := bind_some hf
 let e15 : Nat × Value := (102, (iv (y25.piece.length : Int)))
 let e20 : Nat × Value := (101, (sv A18 y25.piece c19))
 refine WC.cutN (T := (List Frac) × (Option Addr) × Nat) (fun t => [e10, e25]) (fun t w1 => St NoS w w1 [rowR enc_Piece Aa ca p0] [blk g6 (.cells #[(.slice none 0 0), (.slice none 0 0), (.slice none 0 0), (.slice none 0 0), (.slice none 0 0)] 37 (0, 0)), blk g146 (.cells #[(sv A173 x175 c174), (sv A202 x204 c203), (sv t.2.1 t.1 t.2.2), (sv A144 t139 c145), e35] 37 (0, 0)), rowO 44 enc_Frac A173 c174 x175, rowO 44 enc_Frac A202 c203 x204, rowO 44 enc_Frac t.2.1 t.2.2 t.1, rowO 3 encInt A144 c145 t139, rowO 3 encInt A156 c157 t151.1] ∧ x247 = t.1) (fun Kx247 => ?_) ?_
 ·
  refine WC.block ?_
  refine WC.loop (T := ((List Frac) × Int) × (Option Addr) × Nat) (fun t => [(0, e7), e10, e25, e20, e15, (103, (iv t.1.2))]) (fun n t w1 => St NoS w w1 [rowR enc_Piece Aa ca p0] [blk g6 (.cells #[(.slice none 0 0), (.slice none 0 0), (.slice none 0 0), (.slice none 0 0), (.slice none 0 0)] 37 (0, 0)), blk g146 (.cells #[(sv A173 x175 c174), (sv A202 x204 c203), (sv t.2.1 t.1.1 t.2.2), (sv A144 t139 c145), e35] 37 (0, 0)), rowO 44 enc_Frac A173 c174 x175, rowO 44 enc_Frac A202 c203 x204, rowO 44 enc_Frac t.2.1 t.2.2 t.1.1, rowO 3 encInt A144 c145 t139, rowO 3 encInt A156 c157 t151.1, rowO 3 encInt A18 c19 y25.piece] ∧ beatty_Weigh.l4 n t.1.1 t.1.2 p0 y25 = some x247) k ((([] : List Frac), 0), none, 0) [0, 2, 9, 101, 102, 103] rfl ⟨(hS240.subR [0]).sub [1, 8, 9, 10, 0, 11, 12, 4] (by decide), hx248⟩ ?_
  rintro k249 ⟨⟨l243, x244⟩, A241, c242⟩ w250 ⟨hS251, hl252⟩
  let e4 := (rdD p0 (rdD y25.piece x244 0) z_Piece).Factor
  let e8 : List (Nat × Addr × Value) := [(1, ⟨g146, 2, none⟩, (sv A241 l243 c242)), (6, ((adr Aa).add (((rdD y25.piece x244 0)).toNat * 6)), (iv (e4.Num))), (6, (((adr Aa).add (((rdD y25.piece x244 0)).toNat * 6)).add 1), (iv (e4.Den)))]
  let e34 := rdD y25.piece x244 0
  cases k249 with
  | zero => rw [beatty_Weigh.l4] at hl252; cases hl252
  | succ k249 =>
   rw [beatty_Weigh.l4] at hl252
   refine WC.seq (WC.region ?_)
   refine sg 1 [] [0, 2, 9, 101, 102, 103, 104] [(0, e7), e10, e25, e20, e15, (103, (iv x244)), (104, (bv (decide (x244 < (y25.piece.length : Int)))))] (by kernel_rfl) ?_
   refine WL.done rfl (WX.next (WC.seq ?_))
   rcases br_some hl252 with ⟨h253, hl252⟩ | ⟨h253, hl252⟩
   ·refine WC.condT2 (fun fb => by kernel_rfl) h253 ?_
    refine WC.skip (WX.next (WC.seq (WC.block (WC.seq (WC.region ?_)))))
    obtain ⟨h254, hl252⟩ := as_some hl252
    refine seg 3 [.v (iv e34)] [0, 2, 9, 16, 101, 102, 103] [(0, e7), e10, e25, (16, (iv e34)), e20, e15, (103, (iv x244))] [.idx A18 x244 y25.piece.length, .cell ((adr A18).add ((x244).toNat * 1)) (iv e34)] (fun fb => by kernel_rfl) rfl ⟨rowR.adr (rowO.rd (hS251.own 7).1) h254.1 h254.2, rowR.cell (rowO.rd (hS251.own 7).1) 0 h254.1 h254.2 0 rfl, trivial⟩ ?_
    refine WL.done rfl (WX.next ?_)
    obtain ⟨h257, hl252⟩ := as_some hl252
    refine WC.regionD (e8, [0, 1, 2, 3, 4, 5, 6, 9], [[], [0], [], [], [2, 3], [2, 3, 4], [2, 3, 4, 5], [2, 3, 4, 5, 6], [0, 1, 2, 3, 4, 5, 6, 7], [0, 1, 2, 3, 4, 5, 6, 7, 8], [0, 1, 2, 3, 4, 5, 6, 7, 8, 9]]) [[0, 1, 2, 3, 4, 5, 6, 7, 8, 9, 10]] (by kernel_rfl) (by kernel_rfl) (NoPanic.block (NoPanic.seq (NoPanic.seq (NoPanic.block (NoPanic.seq (NoPanic.body)))))) ?_
    have hS256 := hS251.drew
    revert hS256
    generalize World.drew w250 = w255
    intro hS256
    refine ⟨⟨hS256.cell 1 rfl 2 rfl, rowR.cell (hS256.rd 0).1 z_Piece h257.1 h257.2 0 rfl, rowR.cell (hS256.rd 0).1 z_Piece h257.1 h257.2 1 rfl, trivial⟩, forallC ?_ (forallN)⟩
    refine segF 7 [.v (sv A241 l243 c242), .v (iv (e4.Num)), .v (iv (e4.Den))] [0, 2, 9, 101, 102, 103, 108, 113] [(0, e7), e10, e25, e20, e15, (103, (iv x244)), (108, (sv A241 l243 c242)), (113, (.agg #[(iv (e4.Num)), (iv (e4.Den))]))] [.idx Aa e34 p0.length] [0, 1, 2] e8 (fun fb => by kernel_rfl) rfl ⟨rowR.adr (hS256.rd 0).1 h257.1 h257.2, trivial⟩ rfl ?_
    refine WL.new hS256 114 [] (fun g => (.slice (some ⟨g, 0, none⟩) 1 1)) (.cells #[(iv (e4.Num)), (iv (e4.Den))] 44 (0, 0)) [] (fun fb g => by kernel_rfl) trivial (fun g258 w259 hS260 => ?_)
    refine ⟨⟨hS260.cell 2 rfl 2 rfl, trivial⟩, ?_⟩
    have hS261 := hS155.go w259 [rowO 44 enc_Frac (some ⟨g258, 0, none⟩) 1 [e4], blk g6 (.cells #[(.slice none 0 0), (.slice none 0 0), (.slice none 0 0), (.slice none 0 0), (.slice none 0 0)] 37 (0, 0)), blk g146 (.cells #[(sv A173 x175 c174), (sv A202 x204 c203), (sv A241 l243 c242), (sv A144 t139 c145), e35] 37 (0, 0)), rowO 44 enc_Frac A173 c174 x175, rowO 44 enc_Frac A202 c203 x204, rowO 44 enc_Frac A241 c242 l243, rowO 3 encInt A144 c145 t139, rowO 3 encInt A156 c157 t151.1, rowO 3 encInt A18 c19 y25.piece] (hS260.map1 0 _ (fun h => rowO.ofBlk h rfl (Nat.le_of_ble_eq_true (by kernel_rfl))) (fun _ h => by obtain ⟨_, h1, h2⟩ := h; injection h1 with h1; subst h1; exact h2) [1, 2, 3, 4, 5, 6, 7, 8] (by decide) (by decide))
    obtain ⟨h262, hl252⟩ := as_some hl252
    refine WL.append hS261 5 (d := 115) (tS := 34) (z := (.agg #[(iv 0), (iv 0)])) (bytes := 16) (c2 := 1) rfl (fun fb => by kernel_rfl) (rowO.rd (hS261.own 0).1) (by kernel_rfl) (by kernel_rfl) rfl (by decide) h262 (by decide) [0, 1, 2, 3, 4, 6, 7, 8] (by decide) (by decide) (fun A263 c264 w265 hS266 => ?_)
    refine ⟨trivial, ?_⟩
    refine sg 10 [] [0, 2, 9, 101, 102, 103, 115, 116] [(0, e7), e10, e25, e20, e15, (103, (iv x244)), (115, (sv A263 (l243 ++ [e4]) c264)), (116, (.pointer (some ⟨g146, 2, none⟩)))] (by kernel_rfl) ?_
    refine WL.store hS266 3 rfl [(2, (sv A263 (l243 ++ [e4]) c264))] #[(sv A173 x175 c174), (sv A202 x204 c203), (sv A263 (l243 ++ [e4]) c264), (sv A144 t139 c145), e35] (fun fb => by kernel_rfl) (by kernel_rfl) rfl [0, 1, 2, 4, 5, 6, 7, 8] (by decide) (by decide) (fun w267 hS268 => ?_)
    refine ⟨trivial, ?_⟩
    refine WL.done rfl ?_
    refine WX.blockN (WX.next ?_)
    refine WC.region ?_
    refine sg 2 [] [0, 2, 9, 101, 102, 103] [(0, e7), e10, e25, e20, e15, (103, (iv (w64 (x244 + 1))))] (by kernel_rfl) ?_
    refine WL.done rfl ?_
    exact WX.again k249 (Nat.lt_succ_self _) ((l243 ++ [e4], w64 (x244 + 1)), A263, c264) [0, 2, 9, 101, 102, 103] rfl ⟨(hS268.subR [0]).sub [3, 0, 4, 5, 1, 6, 7, 8] (by decide), hl252⟩
   refine WC.condF2 (fun fb => by kernel_rfl) h253 ?_
   refine WC.exit ?_
   injection hl252 with hl252
   exact WX.thenX (WX.thenX (WX.blockHere (WX.to Kx247 (l243, A241, c242) [2, 9] rfl ⟨(hS251.subR [0]).sub [0, 1, 2, 3, 4, 5, 6] (by decide), hl252.symm⟩)))
 rintro ⟨y272, A245, c246⟩ w269 ⟨hS270, hq271⟩
 subst hq271
 refine WX.next (WC.seq (WC.region ?_))
 refine seg 1 [.v (sv A173 x175 c174), .v (sv A202 x204 c203), .v (sv A245 x247 c246), .v (sv A144 t139 c145), .v e35] [2, 118] [e10, (118, (.agg #[(sv A173 x175 c174), (sv A202 x204 c203), (sv A245 x247 c246), (sv A144 t139 c145), e35]))] [.cell ⟨g146, 0, none⟩ (sv A173 x175 c174), .cell ⟨g146, 1, none⟩ (sv A202 x204 c203), .cell ⟨g146, 2, none⟩ (sv A245 x247 c246), .cell ⟨g146, 3, none⟩ (sv A144 t139 c145), .cell ⟨g146, 4, none⟩ e35] (fun fb => by kernel_rfl) rfl ⟨hS270.cell 1 rfl 0 rfl, hS270.cell 1 rfl 1 rfl, hS270.cell 1 rfl 2 rfl, hS270.cell 1 rfl 3 rfl, hS270.cell 1 rfl 4 rfl, trivial⟩ ?_
 refine WL.store hS270 0 rfl [(0, (sv A173 x175 c174)), (1, (sv A202 x204 c203)), (2, (sv A245 x247 c246)), (3, (sv A144 t139 c145)), (4, e35)] #[(sv A173 x175 c174), (sv A202 x204 c203), (sv A245 x247 c246), (sv A144 t139 c145), e35] (fun fb => by kernel_rfl) (by kernel_rfl) rfl [1, 2, 3, 4, 5, 6] (by decide) (by decide) (fun w273 hS274 => ?_)
 refine ⟨trivial, ?_⟩
 refine sg 3 [] [2, 3] [e10, (3, (iv 0))] (by kernel_rfl) ?_
 refine WL.done rfl (WX.next ?_)
 refine WC.ret ?_
 injection hf with hf
 subst hf
 exact WX.ret_ [.v (sv A173 x175 c174), .v (sv A202 x204 c203), .v (sv A245 x247 c246), .v (sv A144 t139 c145), .v e35] (.tuple #[(.agg #[(sv A173 x175 c174), (sv A202 x204 c203), (sv A245 x247 c246), (sv A144 t139 c145), e35]), (iv 0)]) [.cell ⟨g6, 0, none⟩ (sv A173 x175 c174), .cell ⟨g6, 1, none⟩ (sv A202 x204 c203), .cell ⟨g6, 2, none⟩ (sv A245 x247 c246), .cell ⟨g6, 3, none⟩ (sv A144 t139 c145), .cell ⟨g6, 4, none⟩ e35] (fun fb => by kernel_rfl) ⟨hS274.cell 0 rfl 0 rfl, hS274.cell 0 rfl 1 rfl, hS274.cell 0 rfl 2 rfl, hS274.cell 0 rfl 3 rfl, hS274.cell 0 rfl 4 rfl, trivial⟩ ⟨_, rfl, A173, c174, A202, c203, A245, c246, A144, c145, A156, c157, rfl, (hS274.sub [2, 3, 4, 5, 6] (by decide)).noR⟩
theorem law07_Kari_1_calls (p0 : Int) (p1 : Int)  (r : Frac) (w : World)  (hf : law07_Kari_1 p0 p1 = some r) :
  CallsR Tryz.prog 65 #[(iv p0), (iv p1)] w (fun v w' => v = (.agg #[(iv r.Num), (iv r.Den)]) ∧ Keeps NoS w w') := by
 have hS : St NoS w w [] [] := St.init (ro_nil _ _)
 refine enter 8 Tryz.func65 rfl Tryz.ntmps65 rfl ?_
 unfold law07_Kari_1 at hf
 refine WC.seq (WC.region ?_)
 refine WL.new hS 4 [] (fun g => (pt g)) (.cells #[(iv 0), (iv 0)] 44 (0, 0)) [] (fun fb g => by kernel_rfl) trivial (fun g2 w3 hS4 => ?_)
 refine ⟨trivial, ?_⟩
 refine WL.done rfl (WX.next (WC.seq (WC.region ?_)))
 refine sg 3 [] [4, 7] [(4, (pt g2)), (7, (.agg #[(iv p0), (iv p1)]))] (by kernel_rfl) ?_
 refine WL.store hS4 0 rfl [(0, (iv p0)), (1, (iv p1))] #[(iv p0), (iv p1)] (fun fb => by kernel_rfl) (by kernel_rfl) rfl [] (by decide) (by decide) (fun w5 hS6 => ?_)
 refine ⟨trivial, ?_⟩
 refine WL.done rfl (WX.next ?_)
 refine WC.ret ?_
 injection hf with hf
 subst hf
 exact WX.ret_ [.v (iv p0), .v (iv p1)] (.agg #[(iv p0), (iv p1)]) [.cell ⟨g2, 0, none⟩ (iv p0), .cell ⟨g2, 1, none⟩ (iv p1)] (fun fb => by kernel_rfl) ⟨hS6.cell 0 rfl 0 rfl, hS6.cell 0 rfl 1 rfl, trivial⟩ ⟨_, rfl, rfl, hS6.keep⟩
theorem law07_Kari_calls   (r : (List Piece)) (w : World)  (hf : law07_Kari = some r) :
  CallsR Tryz.prog 28 #[] w (fun v w' => ∃ (A1_ : Option Addr), ∃ (c1_ : Nat), v = (sv A1_ r c1_) ∧ St NoS w w' [] [rowO 66 enc_Piece A1_ c1_ r]) := by
 have hS : St NoS w w [] [] := St.init (ro_nil _ _)
 refine enter 17 Tryz.func28 rfl Tryz.ntmps28 rfl ?_
 unfold law07_Kari at hf
 refine WC.seq (WC.region ?_)
 refine sg 1 [] [] [] (by kernel_rfl) ?_
 refine WL.done rfl (WX.next (WC.seq (WC.region ?_)))
 refine sg 1 [] [1] [(1, (.func (.func 65) #[] #[]))] (by kernel_rfl) ?_
 refine WL.done rfl (WX.next (WC.seq (WC.region ?_)))
 refine sg 1 [] [1, 2] [(1, (.func (.func 65) #[] #[])), (2, (.func (.func 65) #[] #[]))] (by kernel_rfl) ?_
 obtain ⟨t3, ht4, hf⟩ := bind_some hf
 refine WL.call (some 3) 65 #[(iv 2), (iv 1)] (fun fb => by kernel_rfl) (law07_Kari_1_calls 2 1 t3 _ ht4) (fun v w5 hR6 => ?_)
 obtain ⟨rfl, hk_⟩ := hR6
 have hS8 := hS.keepN hk_
 refine ⟨trivial, ?_⟩
 refine sg 3 [] [1, 3, 4] [(1, (.func (.func 65) #[] #[])), (3, (.agg #[(iv t3.Num), (iv t3.Den)])), (4, (.func (.func 65) #[] #[]))] (by kernel_rfl) ?_
 obtain ⟨t9, ht10, hf⟩ := bind_some hf
 refine WL.call (some 5) 65 #[(iv 2), (iv 3)] (fun fb => by kernel_rfl) (law07_Kari_1_calls 2 3 t9 _ ht10) (fun v w11 hR12 => ?_)
 obtain ⟨rfl, hk_⟩ := hR12
 have hS13 := hS8.keepN hk_
 refine ⟨trivial, ?_⟩
 refine sg 5 [] [1, 3, 5, 6] [(1, (.func (.func 65) #[] #[])), (3, (.agg #[(iv t3.Num), (iv t3.Den)])), (5, (.agg #[(iv t9.Num), (iv t9.Den)])), (6, (.func (.func 65) #[] #[]))] (by kernel_rfl) ?_
 obtain ⟨t14, ht15, hf⟩ := bind_some hf
 refine WL.call (some 7) 65 #[(iv 1), (iv 1)] (fun fb => by kernel_rfl) (law07_Kari_1_calls 1 1 t14 _ ht15) (fun v w16 hR17 => ?_)
 obtain ⟨rfl, hk_⟩ := hR17
 have hS18 := hS13.keepN hk_
 refine ⟨trivial, ?_⟩
 refine sg 8 [] [1, 8, 9] [(1, (.func (.func 65) #[] #[])), (8, (.agg #[(iv t3.Num), (iv t3.Den), (iv t9.Num), (iv t9.Den), (iv t14.Num), (iv t14.Den)])), (9, (.func (.func 65) #[] #[]))] (by kernel_rfl) ?_
 obtain ⟨t19, ht20, hf⟩ := bind_some hf
 refine WL.call (some 10) 65 #[(iv 2), (iv 3)] (fun fb => by kernel_rfl) (law07_Kari_1_calls 2 3 t19 _ ht20) (fun v w21 hR22 => ?_)
 obtain ⟨rfl, hk_⟩ := hR22
 have hS23 := hS18.keepN hk_
 refine ⟨trivial, ?_⟩
 refine sg 10 [] [1, 8, 10, 11] [(1, (.func (.func 65) #[] #[])), (8, (.agg #[(iv t3.Num), (iv t3.Den), (iv t9.Num), (iv t9.Den), (iv t14.Num), (iv t14.Den)])), (10, (.agg #[(iv t19.Num), (iv t19.Den)])), (11, (.func (.func 65) #[] #[]))] (by kernel_rfl) ?_
 obtain ⟨t24, ht25, hf⟩ := bind_some hf
 refine WL.call (some 12) 65 #[(iv 1), (iv 1)] (fun fb => by kernel_rfl) (law07_Kari_1_calls 1 1 t24 _ ht25) (fun v w26 hR27 => ?_)
 obtain ⟨rfl, hk_⟩ := hR27
 have hS29 := hS23.keepN hk_
 refine ⟨trivial, ?_⟩
 refine sg 12 [] [8, 10, 12, 13] [(8, (.agg #[(iv t3.Num), (iv t3.Den), (iv t9.Num), (iv t9.Den), (iv t14.Num), (iv t14.Den)])), (10, (.agg #[(iv t19.Num), (iv t19.Den)])), (12, (.agg #[(iv t24.Num), (iv t24.Den)])), (13, (.func (.func 65) #[] #[]))] (by kernel_rfl) ?_
 obtain ⟨t30, ht31, hf⟩ := bind_some hf
 refine WL.call (some 14) 65 #[(iv 2), (iv 1)] (fun fb => by kernel_rfl) (law07_Kari_1_calls 2 1 t30 _ ht31) (fun v w32 hR33 => ?_)
 obtain ⟨rfl, hk_⟩ := hR33
 have hS34 := hS29.keepN hk_
 refine ⟨trivial, ?_⟩
 refine sg 14 [] [8, 15] [(8, (.agg #[(iv t3.Num), (iv t3.Den), (iv t9.Num), (iv t9.Den), (iv t14.Num), (iv t14.Den)])), (15, (.agg #[(iv t19.Num), (iv t19.Den), (iv t24.Num), (iv t24.Den), (iv t30.Num), (iv t30.Den)]))] (by kernel_rfl) ?_
 refine WL.new hS34 16 [] (fun g => (.slice (some ⟨g, 0, none⟩) 2 2)) (.cells #[(iv t3.Num), (iv t3.Den), (iv t9.Num), (iv t9.Den), (iv t14.Num), (iv t14.Den), (iv t19.Num), (iv t19.Den), (iv t24.Num), (iv t24.Den), (iv t30.Num), (iv t30.Den)] 66 (0, 0)) [] (fun fb g => by kernel_rfl) trivial (fun g35 w36 hS37 => ?_)
 refine ⟨trivial, ?_⟩
 have hS38 := hS.go w36 [rowO 66 enc_Piece (some ⟨g35, 0, none⟩) 2 [(Piece.mk t3 t9 t14), (Piece.mk t19 t24 t30)]] (hS37.map1 0 _ (fun h => rowO.ofBlk h rfl (Nat.le_of_ble_eq_true (by kernel_rfl))) (fun _ h => by obtain ⟨_, h1, h2⟩ := h; injection h1 with h1; subst h1; exact h2) [] (by decide) (by decide))
 refine sg 16 [] [0] [(0, (sv (some ⟨g35, 0, none⟩) [(Piece.mk t3 t9 t14), (Piece.mk t19 t24 t30)] 2))] (by kernel_rfl) ?_
 refine WL.done rfl (WX.next ?_)
 refine WC.ret ?_
 injection hf with hf
 subst hf
 exact WX.ret_ [] (sv (some ⟨g35, 0, none⟩) [(Piece.mk t3 t9 t14), (Piece.mk t19 t24 t30)] 2) [] (fun fb => by kernel_rfl) trivial ⟨_, rfl, (some ⟨g35, 0, none⟩), 2, rfl, (hS38.sub [0] (by decide)).noR⟩
theorem beatty_ratio_times_calls (p0 : Ratio) (p1 : Ratio)  (r : Ratio) (w : World)  (hf : beatty_ratio_times p0 p1 = some r) :
  CallsR Tryz.prog 31 #[(.agg #[(iv p0.n), (iv p0.d)]), (.agg #[(iv p1.n), (iv p1.d)])] w (fun v w' => v = (.agg #[(iv r.n), (iv r.d)]) ∧ Keeps NoS w w') := by
 have hS : St NoS w w [] [] := St.init (ro_nil _ _)
 refine enter 16 Tryz.func31 rfl Tryz.ntmps31 rfl ?_
 unfold beatty_ratio_times at hf
 refine WC.seq (WC.region ?_)
 refine WL.new hS 2 [] (fun g => (pt g)) (.cells #[(iv p0.n), (iv p0.d)] 70 (0, 0)) [] (fun fb g => by kernel_rfl) trivial (fun g2 w3 hS4 => ?_)
 refine ⟨trivial, ?_⟩
 refine WL.new hS4 3 [] (fun g => (pt g)) (.cells #[(iv p1.n), (iv p1.d)] 70 (0, 0)) [] (fun fb g => by kernel_rfl) trivial (fun g5 w6 hS7 => ?_)
 refine ⟨trivial, ?_⟩
 refine WL.new hS7 4 [] (fun g => (pt g)) (.cells #[(iv 0), (iv 0)] 70 (0, 0)) [] (fun fb g => by kernel_rfl) trivial (fun g8 w9 hS10 => ?_)
 refine ⟨trivial, ?_⟩
 refine WL.done rfl (WX.next (WC.seq (WC.region ?_)))
 refine seg 11 [.v (iv p0.n), .v (iv p1.n), .v (iv p0.d), .v (iv p1.d)] [4, 15] [(4, (pt g8)), (15, (.agg #[(iv (w64 (p0.n * p1.n))), (iv (w64 (p0.d * p1.d)))]))] [.cell ⟨g2, 0, none⟩ (iv p0.n), .cell ⟨g5, 0, none⟩ (iv p1.n), .cell ⟨g2, 1, none⟩ (iv p0.d), .cell ⟨g5, 1, none⟩ (iv p1.d)] (fun fb => by kernel_rfl) rfl ⟨hS10.cell 2 rfl 0 rfl, hS10.cell 1 rfl 0 rfl, hS10.cell 2 rfl 1 rfl, hS10.cell 1 rfl 1 rfl, trivial⟩ ?_
 refine WL.store hS10 0 rfl [(0, (iv (w64 (p0.n * p1.n)))), (1, (iv (w64 (p0.d * p1.d))))] #[(iv (w64 (p0.n * p1.n))), (iv (w64 (p0.d * p1.d)))] (fun fb => by kernel_rfl) (by kernel_rfl) rfl [1, 2] (by decide) (by decide) (fun w11 hS12 => ?_)
 refine ⟨trivial, ?_⟩
 refine WL.done rfl (WX.next ?_)
 refine WC.ret ?_
 injection hf with hf
 subst hf
 exact WX.ret_ [.v (iv (w64 (p0.n * p1.n))), .v (iv (w64 (p0.d * p1.d)))] (.agg #[(iv (w64 (p0.n * p1.n))), (iv (w64 (p0.d * p1.d)))]) [.cell ⟨g8, 0, none⟩ (iv (w64 (p0.n * p1.n))), .cell ⟨g8, 1, none⟩ (iv (w64 (p0.d * p1.d)))] (fun fb => by kernel_rfl) ⟨hS12.cell 0 rfl 0 rfl, hS12.cell 0 rfl 1 rfl, trivial⟩ ⟨_, rfl, rfl, hS12.keep⟩
end Gp
