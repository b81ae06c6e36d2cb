/- Walks: each function of the program computes its plain function. -/
import Derived.Test.YtgdijgbjlioekaaDoorGx0
set_option linter.unusedVariables false
set_option linter.unusedSimpArgs false
set_option maxHeartbeats 4000000
namespace Gp
open Go Gw Go.Proofs
theorem ref01_Parse_calls (k : Nat) (p0 : ByteArray)  (r : (List Tile) × Bool) (w : World)  (hf : ref01_Parse k p0 = some r) :
  CallsR Tryd.prog 7 #[(.string p0)] w (fun v w' => ∃ (A1_ : Option Addr), ∃ (c1_ : Nat), v = (.tuple #[(sv A1_ r.1 c1_), (bv r.2)]) ∧ St NoS w w' [] [rowO 50 enc_Tile A1_ c1_ r.1]) := by
 have hS : St NoS w w [] [] := St.init (ro_nil _ _)
 refine enter 115 Tryd.func7 rfl Tryd.ntmps7 rfl ?_
 unfold ref01_Parse at hf
 refine WC.seq (WC.region ?_)
 refine seg 2 [] [0] [(0, (.string p0))] [] (fun fb => by kernel_rfl) rfl trivial ?_
 refine WL.done rfl (WX.next (WC.seq (WC.region ?_)))
 refine seg 1 [] [0, 4] [(0, (.string p0)), (4, (.slice none 0 0))] [] (fun fb => by kernel_rfl) rfl trivial ?_
 refine WL.done rfl (WX.next (WC.seq (WC.seq (WC.region ?_))))
 refine seg 1 [] [0, 4, 10] [(0, (.string p0)), (4, (.slice none 0 0)), (10, (.string p0))] [] (fun fb => by kernel_rfl) rfl trivial ?_
 refine seg 2 [] [0, 4, 11] [(0, (.string p0)), (4, (.slice none 0 0)), (11, (bv (p0.toList == (⟨#[]⟩ : ByteArray).toList)))] [] (fun fb => by kernel_rfl) rfl trivial ?_
 refine WL.setB 11 (strEq_raw p0 (⟨#[]⟩ : ByteArray)) rfl ?_
 refine WL.done rfl (WX.next ?_)
 rcases br_some hf with ⟨h3, hf⟩ | ⟨h3, hf⟩
 ·refine WC.condT2 (fun fb => by kernel_rfl) h3 ?_
  refine WC.seq (WC.region ?_)
  refine seg 2 [] [2, 3] [(2, (.slice none 0 0)), (3, (bv true))] [] (fun fb => by kernel_rfl) rfl trivial ?_
  refine WL.done rfl (WX.next ?_)
  refine WC.ret ?_
  have hS4 := hS.nilrow 50 enc_Tile
  injection hf with hf
  subst hf
  exact WX.thenR (WX.ret_ [] (.tuple #[(sv none ([] : List Tile) 0), (bv true)]) [] (fun fb => by kernel_rfl) trivial ⟨_, rfl, none, 0, rfl, (hS4.sub [0] (by decide)).noR⟩)
 refine WC.condF2 (fun fb => by kernel_rfl) h3 ?_
 refine WC.skip (WX.next (WC.seq (WC.region ?_)))
 refine WL.new hS 5 [] (fun g => (pt g)) (.cells #[(iv 0), (iv 0), (iv 0), (iv 0)] 44 (0, 0)) [] (fun fb g => by kernel_rfl) trivial (fun g5 w6 hS9 => ?_)
 refine ⟨trivial, ?_⟩
 refine WL.done rfl (WX.next (WC.seq (WC.region ?_)))
 refine seg 3 [] [0, 4, 5, 6, 7, 8] [(0, (.string p0)), (4, (.slice none 0 0)), (5, (pt g5)), (6, (iv 0)), (7, (iv 0)), (8, (iv 0))] [] (fun fb => by kernel_rfl) rfl trivial ?_
 refine WL.done rfl (WX.next (WC.seq (WC.seq (WC.region ?_))))
 refine seg 1 [] [0, 4, 5, 6, 7, 8, 9] [(0, (.string p0)), (4, (.slice none 0 0)), (5, (pt g5)), (6, (iv 0)), (7, (iv 0)), (8, (iv 0)), (9, (iv 0))] [] (fun fb => by kernel_rfl) rfl trivial ?_
 refine WL.done rfl (WX.next ?_)
 have hS10 := hS9.nilrow 50 enc_Tile
 obtain ⟨x24, hx25, hf⟩ := bind_some hf
 refine WC.cutN (T := ((List Tile) × Int) × (Option Addr) × Nat) (fun t => [(0, (.string p0)), (4, (sv t.2.1 t.1.1 t.2.2)), (6, (iv t.1.2))]) (fun t w1 => St NoS w w1 [] [rowO 50 enc_Tile t.2.1 t.2.2 t.1.1] ∧ x24 = .inr t.1) (fun Kx24 => ?_) ?_
 ·
  refine WC.block ?_
  refine WC.loop (T := ((List Tile) × Int × Int × Int × Int × Int × Int × Int × Int) × (Option Addr) × Nat) (fun t => [(0, (.string p0)), (4, (sv t.2.1 t.1.1 t.2.2)), (5, (pt g5)), (6, (iv t.1.2.2.2.2.2.1)), (7, (iv t.1.2.2.2.2.2.2.1)), (8, (iv t.1.2.2.2.2.2.2.2.1)), (9, (iv t.1.2.2.2.2.2.2.2.2))]) (fun n t w1 => St NoS w w1 [] [rowO 50 enc_Tile t.2.1 t.2.2 t.1.1, blk g5 (.cells #[(iv t.1.2.1), (iv t.1.2.2.1), (iv t.1.2.2.2.1), (iv t.1.2.2.2.2.1)] 44 (0, 0))] ∧ ref01_Parse.l0 n t.1.1 t.1.2.1 t.1.2.2.1 t.1.2.2.2.1 t.1.2.2.2.2.1 t.1.2.2.2.2.2.1 t.1.2.2.2.2.2.2.1 t.1.2.2.2.2.2.2.2.1 t.1.2.2.2.2.2.2.2.2 p0 = some x24) k ((([] : List Tile), 0, 0, 0, 0, 0, 0, 0, 0), none, 0) [0, 4, 5, 6, 7, 8, 9] rfl ⟨(hS10.subR []).sub [0, 1] (by decide), hx25⟩ ?_
  rintro k26 ⟨⟨l13, x14, x15, x16, x17, x18, x19, x20, x21⟩, A11, c12⟩ w27 ⟨hS28, hl29⟩
  cases k26 with
  | zero => rw [ref01_Parse.l0] at hl29; cases hl29
  | succ k26 =>
   rw [ref01_Parse.l0] at hl29
   refine WC.seq (WC.seq (WC.region ?_))
   refine seg 4 [] [0, 4, 5, 6, 7, 8, 9, 15] [(0, (.string p0)), (4, (sv A11 l13 c12)), (5, (pt g5)), (6, (iv x18)), (7, (iv x19)), (8, (iv x20)), (9, (iv x21)), (15, (bv (decide (x21 ≤ (p0.size : Int)))))] [] (fun fb => by kernel_rfl) rfl trivial ?_
   refine WL.done rfl (WX.next ?_)
   rcases br_some hl29 with ⟨h30, hl29⟩ | ⟨h30, hl29⟩
   ·refine WC.condT2 (fun fb => by kernel_rfl) h30 ?_
    refine WC.skip (WX.next (WC.seq ?_))
    obtain ⟨x33, hx34, hl29⟩ := bind_some hl29
    refine WC.cutN (T := ((List Tile) × Int × Int × Int × Int × Int × Int × Int) × (Option Addr) × Nat) (fun t => [(0, (.string p0)), (4, (sv t.2.1 t.1.1 t.2.2)), (5, (pt g5)), (6, (iv t.1.2.2.2.2.2.1)), (7, (iv t.1.2.2.2.2.2.2.1)), (8, (iv t.1.2.2.2.2.2.2.2)), (9, (iv x21))]) (fun t w1 => St NoS w w1 [] [rowO 50 enc_Tile t.2.1 t.2.2 t.1.1, blk g5 (.cells #[(iv t.1.2.1), (iv t.1.2.2.1), (iv t.1.2.2.2.1), (iv t.1.2.2.2.2.1)] 44 (0, 0))] ∧ x33 = .inr t.1) (fun Kx33 => ?_) ?_
    ·
     refine WC.block (WC.seq (WC.seq (WC.region ?_)))
     refine seg 5 [] [0, 4, 5, 6, 7, 8, 9, 22] [(0, (.string p0)), (4, (sv A11 l13 c12)), (5, (pt g5)), (6, (iv x18)), (7, (iv x19)), (8, (iv x20)), (9, (iv x21)), (22, (bv (decide (x21 < (p0.size : Int)))))] [] (fun fb => by kernel_rfl) rfl trivial ?_
     obtain ⟨b35, hv36, hx34⟩ := bind_some hx34
     refine WL.cutV (T := Unit) 10 (fun t => [(27, (bv b35)), (0, (.string p0)), (4, (sv A11 l13 c12)), (5, (pt g5)), (6, (iv x18)), (7, (iv x19)), (8, (iv x20)), (9, (iv x21))]) (fun t => True) (fun K => ?_) ?_
     ·
      rcases br_some hv36 with ⟨h37, hv36⟩ | ⟨h37, hv36⟩
      ·
       refine WL.setB 22 h37 rfl ?_
       refine seg 7 [] [0, 4, 5, 6, 7, 8, 9, 22, 23, 24] [(0, (.string p0)), (4, (sv A11 l13 c12)), (5, (pt g5)), (6, (iv x18)), (7, (iv x19)), (8, (iv x20)), (9, (iv x21)), (22, (bv true)), (23, (.string p0)), (24, (iv x21))] [] (fun fb => by kernel_rfl) rfl trivial ?_
       obtain ⟨h38, hv36⟩ := as_some hv36
       refine seg 10 [] [0, 4, 5, 6, 7, 8, 9, 27] [(0, (.string p0)), (4, (sv A11 l13 c12)), (5, (pt g5)), (6, (iv x18)), (7, (iv x19)), (8, (iv x20)), (9, (iv x21)), (27, (bv (decide (strAt p0 x21 ≥ 48))))] [.idx (some ⟨0, 0, none⟩) x21 p0.size] (fun fb => by kernel_rfl) rfl ⟨⟨h38.1, h38.2, rfl⟩, trivial⟩ ?_
       injection hv36 with hv36
       subst hv36
       exact WL.toV K () [27, 0, 4, 5, 6, 7, 8, 9] rfl trivial
      refine WL.setB 22 h37 rfl ?_
      refine seg 10 [] [0, 4, 5, 6, 7, 8, 9, 27] [(0, (.string p0)), (4, (sv A11 l13 c12)), (5, (pt g5)), (6, (iv x18)), (7, (iv x19)), (8, (iv x20)), (9, (iv x21)), (27, (bv false))] [] (fun fb => by kernel_rfl) rfl trivial ?_
      injection hv36 with hv36
      subst hv36
      exact WL.toV K () [27, 0, 4, 5, 6, 7, 8, 9] rfl trivial
     rintro _ _
     refine seg 11 [] [0, 4, 5, 6, 7, 8, 9, 28] [(0, (.string p0)), (4, (sv A11 l13 c12)), (5, (pt g5)), (6, (iv x18)), (7, (iv x19)), (8, (iv x20)), (9, (iv x21)), (28, (bv b35))] [] (fun fb => by kernel_rfl) rfl trivial ?_
     obtain ⟨b39, hv40, hx34⟩ := bind_some hx34
     refine WL.cutV (T := Unit) 16 (fun t => [(33, (bv b39)), (0, (.string p0)), (4, (sv A11 l13 c12)), (5, (pt g5)), (6, (iv x18)), (7, (iv x19)), (8, (iv x20)), (9, (iv x21))]) (fun t => True) (fun K => ?_) ?_
     ·
      rcases br_some hv40 with ⟨h41, hv40⟩ | ⟨h41, hv40⟩
      ·
       refine WL.setB 28 h41 rfl ?_
       refine seg 13 [] [0, 4, 5, 6, 7, 8, 9, 28, 29, 30] [(0, (.string p0)), (4, (sv A11 l13 c12)), (5, (pt g5)), (6, (iv x18)), (7, (iv x19)), (8, (iv x20)), (9, (iv x21)), (28, (bv true)), (29, (.string p0)), (30, (iv x21))] [] (fun fb => by kernel_rfl) rfl trivial ?_
       obtain ⟨h42, hv40⟩ := as_some hv40
       refine seg 16 [] [0, 4, 5, 6, 7, 8, 9, 33] [(0, (.string p0)), (4, (sv A11 l13 c12)), (5, (pt g5)), (6, (iv x18)), (7, (iv x19)), (8, (iv x20)), (9, (iv x21)), (33, (bv (decide (strAt p0 x21 ≤ 57))))] [.idx (some ⟨0, 0, none⟩) x21 p0.size] (fun fb => by kernel_rfl) rfl ⟨⟨h42.1, h42.2, rfl⟩, trivial⟩ ?_
       injection hv40 with hv40
       subst hv40
       exact WL.toV K () [33, 0, 4, 5, 6, 7, 8, 9] rfl trivial
      refine WL.setB 28 h41 rfl ?_
      refine seg 16 [] [0, 4, 5, 6, 7, 8, 9, 33] [(0, (.string p0)), (4, (sv A11 l13 c12)), (5, (pt g5)), (6, (iv x18)), (7, (iv x19)), (8, (iv x20)), (9, (iv x21)), (33, (bv false))] [] (fun fb => by kernel_rfl) rfl trivial ?_
      injection hv40 with hv40
      subst hv40
      exact WL.toV K () [33, 0, 4, 5, 6, 7, 8, 9] rfl trivial
     rintro _ _
     refine seg 17 [] [0, 4, 5, 6, 7, 8, 9, 34] [(0, (.string p0)), (4, (sv A11 l13 c12)), (5, (pt g5)), (6, (iv x18)), (7, (iv x19)), (8, (iv x20)), (9, (iv x21)), (34, (bv b39))] [] (fun fb => by kernel_rfl) rfl trivial ?_
     refine WL.cutV (T := Bool) 20 (fun t => [(37, (bv t)), (0, (.string p0)), (4, (sv A11 l13 c12)), (5, (pt g5)), (6, (iv x18)), (7, (iv x19)), (8, (iv x20)), (9, (iv x21))]) (fun t => (b39 && (decide (x20 < 4))) = t) (fun K => ?_) ?_
     ·
      rcases Bool.eq_false_or_eq_true b39 with h43 | h43
      ·
       refine WL.setB 34 h43 rfl ?_
       refine seg 20 [] [0, 4, 5, 6, 7, 8, 9, 37] [(0, (.string p0)), (4, (sv A11 l13 c12)), (5, (pt g5)), (6, (iv x18)), (7, (iv x19)), (8, (iv x20)), (9, (iv x21)), (37, (bv (decide (x20 < 4))))] [] (fun fb => by kernel_rfl) rfl trivial ?_
       exact WL.toV K (decide (x20 < 4)) [37, 0, 4, 5, 6, 7, 8, 9] rfl (by first | (rw [h43]; done) | (rw [h43]; rfl))
      refine WL.setB 34 h43 rfl ?_
      refine seg 20 [] [0, 4, 5, 6, 7, 8, 9, 37] [(0, (.string p0)), (4, (sv A11 l13 c12)), (5, (pt g5)), (6, (iv x18)), (7, (iv x19)), (8, (iv x20)), (9, (iv x21)), (37, (bv false))] [] (fun fb => by kernel_rfl) rfl trivial ?_
      exact WL.toV K false [37, 0, 4, 5, 6, 7, 8, 9] rfl (by first | (rw [h43]; done) | (rw [h43]; rfl))
     rintro b44 rfl
     refine WL.done rfl (WX.next ?_)
     rcases br_some hx34 with ⟨h45, hx34⟩ | ⟨h45, hx34⟩
     ·refine WC.condT2 (fun fb => by kernel_rfl) h45 ?_
      refine WC.seq (WC.region ?_)
      refine seg 4 [] [0, 4, 5, 6, 8, 9, 39, 40, 41] [(0, (.string p0)), (4, (sv A11 l13 c12)), (5, (pt g5)), (6, (iv x18)), (8, (iv x20)), (9, (iv x21)), (39, (iv (w64 (10 * x19)))), (40, (.string p0)), (41, (iv x21))] [] (fun fb => by kernel_rfl) rfl trivial ?_
      obtain ⟨h46, hx34⟩ := as_some hx34
      refine seg 12 [] [0, 4, 5, 6, 7, 8, 9] [(0, (.string p0)), (4, (sv A11 l13 c12)), (5, (pt g5)), (6, (iv x18)), (7, (iv (w64 ((w64 (10 * x19)) + (w64 (IntKind.wrap .u8 ((strAt p0 x21) - 48))))))), (8, (iv (w64 (x20 + 1)))), (9, (iv x21))] [.idx (some ⟨0, 0, none⟩) x21 p0.size] (fun fb => by kernel_rfl) rfl ⟨⟨h46.1, h46.2, rfl⟩, trivial⟩ ?_
      refine WL.done rfl (WX.next ?_)
      refine WC.exit ?_
      injection hx34 with hx34
      exact WX.thenX (WX.blockHere (WX.to Kx33 ((l13, x14, x15, x16, x17, x18, w64 ((w64 (10 * x19)) + (w64 (IntKind.wrap .u8 ((strAt p0 x21) - 48)))), w64 (x20 + 1)), A11, c12) [0, 4, 5, 6, 7, 8, 9] rfl ⟨(hS28.subR []).sub [0, 1] (by decide), hx34.symm⟩))
     refine WC.condF2 (fun fb => by kernel_rfl) h45 ?_
     refine WC.skip (WX.next (WC.seq (WC.seq (WC.region ?_))))
     refine seg 3 [] [0, 4, 5, 6, 7, 9, 50] [(0, (.string p0)), (4, (sv A11 l13 c12)), (5, (pt g5)), (6, (iv x18)), (7, (iv x19)), (9, (iv x21)), (50, (bv (x20 == 0)))] [] (fun fb => by kernel_rfl) rfl trivial ?_
     obtain ⟨b47, hv48, hx34⟩ := bind_some hx34
     refine WL.cutV (T := Unit) 18 (fun t => [(65, (bv b47)), (0, (.string p0)), (4, (sv A11 l13 c12)), (5, (pt g5)), (6, (iv x18)), (7, (iv x19)), (9, (iv x21))]) (fun t => True) (fun K => ?_) ?_
     ·
      rcases br_some hv48 with ⟨h49, hv48⟩ | ⟨h49, hv48⟩
      ·
       refine WL.setB 50 h49 rfl ?_
       refine seg 18 [] [0, 4, 5, 6, 7, 9, 65] [(0, (.string p0)), (4, (sv A11 l13 c12)), (5, (pt g5)), (6, (iv x18)), (7, (iv x19)), (9, (iv x21)), (65, (bv true))] [] (fun fb => by kernel_rfl) rfl trivial ?_
       injection hv48 with hv48
       subst hv48
       exact WL.toV K () [65, 0, 4, 5, 6, 7, 9] rfl trivial
      refine WL.setB 50 h49 rfl ?_
      refine seg 6 [] [0, 4, 5, 6, 7, 9, 50, 53] [(0, (.string p0)), (4, (sv A11 l13 c12)), (5, (pt g5)), (6, (iv x18)), (7, (iv x19)), (9, (iv x21)), (50, (bv false)), (53, (bv (x18 == 3)))] [] (fun fb => by kernel_rfl) rfl trivial ?_
      refine WL.cutV (T := Bool) 11 (fun t => [(58, (bv t)), (0, (.string p0)), (4, (sv A11 l13 c12)), (5, (pt g5)), (6, (iv x18)), (7, (iv x19)), (9, (iv x21)), (50, (bv false))]) (fun t => ((x18 == 3) && (decide (x21 < (p0.size : Int)))) = t) (fun K => ?_) ?_
      ·
       rcases Bool.eq_false_or_eq_true (x18 == 3) with h50 | h50
       ·
        refine WL.setB 53 h50 rfl ?_
        refine seg 11 [] [0, 4, 5, 6, 7, 9, 50, 58] [(0, (.string p0)), (4, (sv A11 l13 c12)), (5, (pt g5)), (6, (iv x18)), (7, (iv x19)), (9, (iv x21)), (50, (bv false)), (58, (bv (decide (x21 < (p0.size : Int)))))] [] (fun fb => by kernel_rfl) rfl trivial ?_
        exact WL.toV K (decide (x21 < (p0.size : Int))) [58, 0, 4, 5, 6, 7, 9, 50] rfl (by first | (rw [h50]; done) | (rw [h50]; rfl))
       refine WL.setB 53 h50 rfl ?_
       refine seg 11 [] [0, 4, 5, 6, 7, 9, 50, 58] [(0, (.string p0)), (4, (sv A11 l13 c12)), (5, (pt g5)), (6, (iv x18)), (7, (iv x19)), (9, (iv x21)), (50, (bv false)), (58, (bv false))] [] (fun fb => by kernel_rfl) rfl trivial ?_
       exact WL.toV K false [58, 0, 4, 5, 6, 7, 9, 50] rfl (by first | (rw [h50]; done) | (rw [h50]; rfl))
      rintro b51 rfl
      refine seg 12 [] [0, 4, 5, 6, 7, 9, 50, 59] [(0, (.string p0)), (4, (sv A11 l13 c12)), (5, (pt g5)), (6, (iv x18)), (7, (iv x19)), (9, (iv x21)), (50, (bv false)), (59, (bv ((x18 == 3) && (decide (x21 < (p0.size : Int))))))] [] (fun fb => by kernel_rfl) rfl trivial ?_
      obtain ⟨b52, hv53, hv48⟩ := bind_some hv48
      refine WL.cutV (T := Unit) 17 (fun t => [(64, (bv b52)), (0, (.string p0)), (4, (sv A11 l13 c12)), (5, (pt g5)), (6, (iv x18)), (7, (iv x19)), (9, (iv x21)), (50, (bv false))]) (fun t => True) (fun K => ?_) ?_
      ·
       rcases br_some hv53 with ⟨h54, hv53⟩ | ⟨h54, hv53⟩
       ·
        refine WL.setB 59 h54 rfl ?_
        refine seg 14 [] [0, 4, 5, 6, 7, 9, 50, 59, 60, 61] [(0, (.string p0)), (4, (sv A11 l13 c12)), (5, (pt g5)), (6, (iv x18)), (7, (iv x19)), (9, (iv x21)), (50, (bv false)), (59, (bv true)), (60, (.string p0)), (61, (iv x21))] [] (fun fb => by kernel_rfl) rfl trivial ?_
        obtain ⟨h55, hv53⟩ := as_some hv53
        refine seg 17 [] [0, 4, 5, 6, 7, 9, 50, 64] [(0, (.string p0)), (4, (sv A11 l13 c12)), (5, (pt g5)), (6, (iv x18)), (7, (iv x19)), (9, (iv x21)), (50, (bv false)), (64, (bv ((strAt p0 x21) != 32)))] [.idx (some ⟨0, 0, none⟩) x21 p0.size] (fun fb => by kernel_rfl) rfl ⟨⟨h55.1, h55.2, rfl⟩, trivial⟩ ?_
        injection hv53 with hv53
        subst hv53
        exact WL.toV K () [64, 0, 4, 5, 6, 7, 9, 50] rfl trivial
       refine WL.setB 59 h54 rfl ?_
       refine seg 17 [] [0, 4, 5, 6, 7, 9, 50, 64] [(0, (.string p0)), (4, (sv A11 l13 c12)), (5, (pt g5)), (6, (iv x18)), (7, (iv x19)), (9, (iv x21)), (50, (bv false)), (64, (bv false))] [] (fun fb => by kernel_rfl) rfl trivial ?_
       injection hv53 with hv53
       subst hv53
       exact WL.toV K () [64, 0, 4, 5, 6, 7, 9, 50] rfl trivial
      rintro _ _
      refine seg 18 [] [0, 4, 5, 6, 7, 9, 65] [(0, (.string p0)), (4, (sv A11 l13 c12)), (5, (pt g5)), (6, (iv x18)), (7, (iv x19)), (9, (iv x21)), (65, (bv b52))] [] (fun fb => by kernel_rfl) rfl trivial ?_
      injection hv48 with hv48
      subst hv48
      exact WL.toV K () [65, 0, 4, 5, 6, 7, 9] rfl trivial
     rintro _ _
     refine seg 19 [] [0, 4, 5, 6, 7, 9, 66] [(0, (.string p0)), (4, (sv A11 l13 c12)), (5, (pt g5)), (6, (iv x18)), (7, (iv x19)), (9, (iv x21)), (66, (bv b47))] [] (fun fb => by kernel_rfl) rfl trivial ?_
     obtain ⟨b56, hv57, hx34⟩ := bind_some hx34
     refine WL.cutV (T := Unit) 34 (fun t => [(81, (bv b56)), (0, (.string p0)), (4, (sv A11 l13 c12)), (5, (pt g5)), (6, (iv x18)), (7, (iv x19)), (9, (iv x21))]) (fun t => True) (fun K => ?_) ?_
     ·
      rcases br_some hv57 with ⟨h58, hv57⟩ | ⟨h58, hv57⟩
      ·
       refine WL.setB 66 h58 rfl ?_
       refine seg 34 [] [0, 4, 5, 6, 7, 9, 81] [(0, (.string p0)), (4, (sv A11 l13 c12)), (5, (pt g5)), (6, (iv x18)), (7, (iv x19)), (9, (iv x21)), (81, (bv true))] [] (fun fb => by kernel_rfl) rfl trivial ?_
       injection hv57 with hv57
       subst hv57
       exact WL.toV K () [81, 0, 4, 5, 6, 7, 9] rfl trivial
      refine WL.setB 66 h58 rfl ?_
      refine seg 22 [] [0, 4, 5, 6, 7, 9, 66, 69] [(0, (.string p0)), (4, (sv A11 l13 c12)), (5, (pt g5)), (6, (iv x18)), (7, (iv x19)), (9, (iv x21)), (66, (bv false)), (69, (bv (decide (x18 < 3))))] [] (fun fb => by kernel_rfl) rfl trivial ?_
      obtain ⟨b59, hv60, hv57⟩ := bind_some hv57
      refine WL.cutV (T := Unit) 33 (fun t => [(80, (bv b59)), (0, (.string p0)), (4, (sv A11 l13 c12)), (5, (pt g5)), (6, (iv x18)), (7, (iv x19)), (9, (iv x21)), (66, (bv false))]) (fun t => True) (fun K => ?_) ?_
      ·
       rcases br_some hv60 with ⟨h61, hv60⟩ | ⟨h61, hv60⟩
       ·
        refine WL.setB 69 h61 rfl ?_
        refine seg 27 [] [0, 4, 5, 6, 7, 9, 66, 69, 74] [(0, (.string p0)), (4, (sv A11 l13 c12)), (5, (pt g5)), (6, (iv x18)), (7, (iv x19)), (9, (iv x21)), (66, (bv false)), (69, (bv true)), (74, (bv (x21 == (p0.size : Int))))] [] (fun fb => by kernel_rfl) rfl trivial ?_
        obtain ⟨b62, hv63, hv60⟩ := bind_some hv60
        refine WL.cutV (T := Unit) 32 (fun t => [(79, (bv b62)), (0, (.string p0)), (4, (sv A11 l13 c12)), (5, (pt g5)), (6, (iv x18)), (7, (iv x19)), (9, (iv x21)), (66, (bv false)), (69, (bv true))]) (fun t => True) (fun K => ?_) ?_
        ·
         rcases br_some hv63 with ⟨h65, hv63⟩ | ⟨h65, hv63⟩
         ·
          refine WL.setB 74 h65 rfl ?_
          refine seg 32 [] [0, 4, 5, 6, 7, 9, 66, 69, 79] [(0, (.string p0)), (4, (sv A11 l13 c12)), (5, (pt g5)), (6, (iv x18)), (7, (iv x19)), (9, (iv x21)), (66, (bv false)), (69, (bv true)), (79, (bv true))] [] (fun fb => by kernel_rfl) rfl trivial ?_
          injection hv63 with hv63
          subst hv63
          exact WL.toV K () [79, 0, 4, 5, 6, 7, 9, 66, 69] rfl trivial
         refine WL.setB 74 h65 rfl ?_
         refine seg 29 [] [0, 4, 5, 6, 7, 9, 66, 69, 74, 75, 76] [(0, (.string p0)), (4, (sv A11 l13 c12)), (5, (pt g5)), (6, (iv x18)), (7, (iv x19)), (9, (iv x21)), (66, (bv false)), (69, (bv true)), (74, (bv false)), (75, (.string p0)), (76, (iv x21))] [] (fun fb => by kernel_rfl) rfl trivial ?_
         obtain ⟨h66, hv63⟩ := as_some hv63
         refine seg 32 [] [0, 4, 5, 6, 7, 9, 66, 69, 79] [(0, (.string p0)), (4, (sv A11 l13 c12)), (5, (pt g5)), (6, (iv x18)), (7, (iv x19)), (9, (iv x21)), (66, (bv false)), (69, (bv true)), (79, (bv ((strAt p0 x21) != 46)))] [.idx (some ⟨0, 0, none⟩) x21 p0.size] (fun fb => by kernel_rfl) rfl ⟨⟨h66.1, h66.2, rfl⟩, trivial⟩ ?_
         injection hv63 with hv63
         subst hv63
         exact WL.toV K () [79, 0, 4, 5, 6, 7, 9, 66, 69] rfl trivial
        rintro _ _
        refine seg 33 [] [0, 4, 5, 6, 7, 9, 66, 80] [(0, (.string p0)), (4, (sv A11 l13 c12)), (5, (pt g5)), (6, (iv x18)), (7, (iv x19)), (9, (iv x21)), (66, (bv false)), (80, (bv b62))] [] (fun fb => by kernel_rfl) rfl trivial ?_
        injection hv60 with hv60
        subst hv60
        exact WL.toV K () [80, 0, 4, 5, 6, 7, 9, 66] rfl trivial
       refine WL.setB 69 h61 rfl ?_
       refine seg 33 [] [0, 4, 5, 6, 7, 9, 66, 80] [(0, (.string p0)), (4, (sv A11 l13 c12)), (5, (pt g5)), (6, (iv x18)), (7, (iv x19)), (9, (iv x21)), (66, (bv false)), (80, (bv false))] [] (fun fb => by kernel_rfl) rfl trivial ?_
       injection hv60 with hv60
       subst hv60
       exact WL.toV K () [80, 0, 4, 5, 6, 7, 9, 66] rfl trivial
      rintro _ _
      refine seg 34 [] [0, 4, 5, 6, 7, 9, 81] [(0, (.string p0)), (4, (sv A11 l13 c12)), (5, (pt g5)), (6, (iv x18)), (7, (iv x19)), (9, (iv x21)), (81, (bv b59))] [] (fun fb => by kernel_rfl) rfl trivial ?_
      injection hv57 with hv57
      subst hv57
      exact WL.toV K () [81, 0, 4, 5, 6, 7, 9] rfl trivial
     rintro _ _
     refine WL.done rfl (WX.next ?_)
     rcases br_some hx34 with ⟨h67, hx34⟩ | ⟨h67, hx34⟩
     ·refine WC.condT2 (fun fb => by kernel_rfl) h67 ?_
      refine WC.seq (WC.region ?_)
      refine seg 2 [] [2, 3] [(2, (.slice none 0 0)), (3, (bv false))] [] (fun fb => by kernel_rfl) rfl trivial ?_
      refine WL.done rfl (WX.next ?_)
      refine WC.ret ?_
      have hS68 := hS28.nilrow 50 enc_Tile
      injection hx34 with hx34
      subst hx34
      injection hl29 with hl29
      subst hl29
      injection hf with hf
      subst hf
      exact WX.thenR (WX.blockR (WX.thenR (WX.thenR (WX.blockR (WX.thenR (WX.ret_ [] (.tuple #[(sv none ([] : List Tile) 0), (bv false)]) [] (fun fb => by kernel_rfl) trivial ⟨_, rfl, none, 0, rfl, (hS68.sub [0] (by decide)).noR⟩))))))
     refine WC.condF2 (fun fb => by kernel_rfl) h67 ?_
     refine WC.skip (WX.next (WC.seq (WC.region ?_)))
     refine seg 2 [] [0, 4, 5, 6, 9, 82, 83] [(0, (.string p0)), (4, (sv A11 l13 c12)), (5, (pt g5)), (6, (iv x18)), (9, (iv x21)), (82, (iv x18)), (83, (iv x19))] [] (fun fb => by kernel_rfl) rfl trivial ?_
     rcases br_some hx34 with ⟨h69, hx34⟩ | ⟨h69, hx34⟩
     ·
      refine WL.setI 82 (eq_of_beq h69) rfl ?_
      refine seg 3 [] [0, 4, 5, 6, 9, 83, 84] [(0, (.string p0)), (4, (sv A11 l13 c12)), (5, (pt g5)), (6, (iv x18)), (9, (iv x21)), (83, (iv x19)), (84, (pt g5))] [] (fun fb => by kernel_rfl) rfl trivial ?_
      refine WL.store hS28 1 rfl [(0, (iv x19))] #[(iv x19), (iv x15), (iv x16), (iv x17)] (fun fb => by kernel_rfl) (by kernel_rfl) rfl [0] (by decide) (by decide) (fun w70 hS71 => ?_)
      refine ⟨trivial, ?_⟩
      refine WL.done rfl (WX.next (WC.seq (WC.region ?_)))
      refine seg 5 [] [0, 4, 5, 6, 7, 8, 9] [(0, (.string p0)), (4, (sv A11 l13 c12)), (5, (pt g5)), (6, (iv (w64 (x18 + 1)))), (7, (iv 0)), (8, (iv 0)), (9, (iv x21))] [] (fun fb => by kernel_rfl) rfl trivial ?_
      refine WL.done rfl (WX.next (WC.seq (WC.region ?_)))
      refine seg 2 [] [0, 4, 5, 6, 7, 8, 9, 88] [(0, (.string p0)), (4, (sv A11 l13 c12)), (5, (pt g5)), (6, (iv (w64 (x18 + 1)))), (7, (iv 0)), (8, (iv 0)), (9, (iv x21)), (88, (bv ((w64 (x18 + 1)) == 4)))] [] (fun fb => by kernel_rfl) rfl trivial ?_
      refine WL.done rfl (WX.next ?_)
      obtain ⟨x74, hx75, hx34⟩ := bind_some hx34
      refine WC.cutN (T := ((List Tile) × Int) × (Option Addr) × Nat) (fun t => [(0, (.string p0)), (4, (sv t.2.1 t.1.1 t.2.2)), (5, (pt g5)), (6, (iv t.1.2)), (7, (iv 0)), (8, (iv 0)), (9, (iv x21))]) (fun t w1 => St NoS w w1 [] [rowO 50 enc_Tile t.2.1 t.2.2 t.1.1, blk g5 (.cells #[(iv x19), (iv x15), (iv x16), (iv x17)] 44 (0, 0))] ∧ x74 = t.1) (fun Kx74 => ?_) ?_
      ·
       rcases br_some hx75 with ⟨h76, hx75⟩ | ⟨h76, hx75⟩
       ·refine WC.condT2 (fun fb => by kernel_rfl) h76 ?_
        refine WC.seq (WC.region ?_)
        refine seg 10 [.v (iv x19), .v (iv x15), .v (iv x16), .v (iv x17)] [0, 5, 7, 8, 9, 89, 98] [(0, (.string p0)), (5, (pt g5)), (7, (iv 0)), (8, (iv 0)), (9, (iv x21)), (89, (sv A11 l13 c12)), (98, (.agg #[(iv x19), (iv x15), (iv x16), (iv x17)]))] [.cell ⟨g5, 0, none⟩ (iv x19), .cell ⟨g5, 1, none⟩ (iv x15), .cell ⟨g5, 2, none⟩ (iv x16), .cell ⟨g5, 3, none⟩ (iv x17)] (fun fb => by kernel_rfl) rfl ⟨hS71.cell 0 rfl 0 rfl, hS71.cell 0 rfl 1 rfl, hS71.cell 0 rfl 2 rfl, hS71.cell 0 rfl 3 rfl, trivial⟩ ?_
        refine WL.new hS71 99 [] (fun g => (.slice (some ⟨g, 0, none⟩) 1 1)) (.cells #[(iv x19), (iv x15), (iv x16), (iv x17)] 50 (0, 0)) [] (fun fb g => by kernel_rfl) trivial (fun g77 w78 hS79 => ?_)
        refine ⟨trivial, ?_⟩
        have hS80 := hS.go w78 [rowO 50 enc_Tile (some ⟨g77, 0, none⟩) 1 [(Tile.mk x19 x15 x16 x17)], blk g5 (.cells #[(iv x19), (iv x15), (iv x16), (iv x17)] 44 (0, 0)), rowO 50 enc_Tile A11 c12 l13] (hS79.map1 0 _ (fun h => rowO.ofBlk h rfl (Nat.le_of_ble_eq_true (by kernel_rfl))) (fun _ h => by obtain ⟨_, h1, h2⟩ := h; injection h1 with h1; subst h1; exact h2) [1, 2] (by decide) (by decide))
        obtain ⟨h81, hx75⟩ := as_some hx75
        refine WL.append hS80 2 (d := 100) (tS := 23) (z := (.agg #[(iv 0), (iv 0), (iv 0), (iv 0)])) (bytes := 32) (c2 := 1) rfl (fun fb => by kernel_rfl) (rowO.rd (hS80.own 0).1) (by kernel_rfl) (by kernel_rfl) rfl (by decide) h81 (by decide) [0, 1] (by decide) (by decide) (fun A82 c83 w84 hS85 => ?_)
        refine ⟨trivial, ?_⟩
        refine seg 13 [] [0, 4, 5, 7, 8, 9] [(0, (.string p0)), (4, (sv A82 (l13 ++ [(Tile.mk x19 x15 x16 x17)]) c83)), (5, (pt g5)), (7, (iv 0)), (8, (iv 0)), (9, (iv x21))] [] (fun fb => by kernel_rfl) rfl trivial ?_
        refine WL.done rfl (WX.next (WC.region ?_))
        refine seg 1 [] [0, 4, 5, 6, 7, 8, 9] [(0, (.string p0)), (4, (sv A82 (l13 ++ [(Tile.mk x19 x15 x16 x17)]) c83)), (5, (pt g5)), (6, (iv 0)), (7, (iv 0)), (8, (iv 0)), (9, (iv x21))] [] (fun fb => by kernel_rfl) rfl trivial ?_
        refine WL.done rfl ?_
        injection hx75 with hx75
        exact WX.to Kx74 ((l13 ++ [(Tile.mk x19 x15 x16 x17)], 0), A82, c83) [0, 4, 5, 6, 7, 8, 9] rfl ⟨(hS85.subR []).sub [0, 2] (by decide), hx75.symm⟩
       refine WC.condF2 (fun fb => by kernel_rfl) h76 ?_
       refine WC.skip ?_
       injection hx75 with hx75
       exact WX.to Kx74 ((l13, w64 (x18 + 1)), A11, c12) [0, 4, 5, 6, 7, 8, 9] rfl ⟨(hS71.subR []).sub [1, 0] (by decide), hx75.symm⟩
      rintro ⟨y89, A72, c73⟩ w86 ⟨hS87, hq88⟩
      subst hq88
      injection hx34 with hx34
      exact WX.blockN (WX.to Kx33 ((x74.1, x19, x15, x16, x17, x74.2, 0, 0), A72, c73) [0, 4, 5, 6, 7, 8, 9] rfl ⟨(hS87.subR []).sub [0, 1] (by decide), hx34.symm⟩)
     rcases br_some hx34 with ⟨h90, hx34⟩ | ⟨h90, hx34⟩
     ·
      refine WL.setI 82 (eq_of_beq h90) rfl ?_
      refine seg 3 [] [0, 4, 5, 6, 9, 83, 84] [(0, (.string p0)), (4, (sv A11 l13 c12)), (5, (pt g5)), (6, (iv x18)), (9, (iv x21)), (83, (iv x19)), (84, (.pointer (some ⟨g5, 1, none⟩)))] [] (fun fb => by kernel_rfl) rfl trivial ?_
      refine WL.store hS28 1 rfl [(1, (iv x19))] #[(iv x14), (iv x19), (iv x16), (iv x17)] (fun fb => by kernel_rfl) (by kernel_rfl) rfl [0] (by decide) (by decide) (fun w91 hS92 => ?_)
      refine ⟨trivial, ?_⟩
      refine WL.done rfl (WX.next (WC.seq (WC.region ?_)))
      refine seg 5 [] [0, 4, 5, 6, 7, 8, 9] [(0, (.string p0)), (4, (sv A11 l13 c12)), (5, (pt g5)), (6, (iv (w64 (x18 + 1)))), (7, (iv 0)), (8, (iv 0)), (9, (iv x21))] [] (fun fb => by kernel_rfl) rfl trivial ?_
      refine WL.done rfl (WX.next (WC.seq (WC.region ?_)))
      refine seg 2 [] [0, 4, 5, 6, 7, 8, 9, 88] [(0, (.string p0)), (4, (sv A11 l13 c12)), (5, (pt g5)), (6, (iv (w64 (x18 + 1)))), (7, (iv 0)), (8, (iv 0)), (9, (iv x21)), (88, (bv ((w64 (x18 + 1)) == 4)))] [] (fun fb => by kernel_rfl) rfl trivial ?_
      refine WL.done rfl (WX.next ?_)
      obtain ⟨x95, hx96, hx34⟩ := bind_some hx34
      refine WC.cutN (T := ((List Tile) × Int) × (Option Addr) × Nat) (fun t => [(0, (.string p0)), (4, (sv t.2.1 t.1.1 t.2.2)), (5, (pt g5)), (6, (iv t.1.2)), (7, (iv 0)), (8, (iv 0)), (9, (iv x21))]) (fun t w1 => St NoS w w1 [] [rowO 50 enc_Tile t.2.1 t.2.2 t.1.1, blk g5 (.cells #[(iv x14), (iv x19), (iv x16), (iv x17)] 44 (0, 0))] ∧ x95 = t.1) (fun Kx95 => ?_) ?_
      ·
       rcases br_some hx96 with ⟨h97, hx96⟩ | ⟨h97, hx96⟩
       ·refine WC.condT2 (fun fb => by kernel_rfl) h97 ?_
        refine WC.seq (WC.region ?_)
        refine seg 10 [.v (iv x14), .v (iv x19), .v (iv x16), .v (iv x17)] [0, 5, 7, 8, 9, 89, 98] [(0, (.string p0)), (5, (pt g5)), (7, (iv 0)), (8, (iv 0)), (9, (iv x21)), (89, (sv A11 l13 c12)), (98, (.agg #[(iv x14), (iv x19), (iv x16), (iv x17)]))] [.cell ⟨g5, 0, none⟩ (iv x14), .cell ⟨g5, 1, none⟩ (iv x19), .cell ⟨g5, 2, none⟩ (iv x16), .cell ⟨g5, 3, none⟩ (iv x17)] (fun fb => by kernel_rfl) rfl ⟨hS92.cell 0 rfl 0 rfl, hS92.cell 0 rfl 1 rfl, hS92.cell 0 rfl 2 rfl, hS92.cell 0 rfl 3 rfl, trivial⟩ ?_
        refine WL.new hS92 99 [] (fun g => (.slice (some ⟨g, 0, none⟩) 1 1)) (.cells #[(iv x14), (iv x19), (iv x16), (iv x17)] 50 (0, 0)) [] (fun fb g => by kernel_rfl) trivial (fun g98 w99 hS100 => ?_)
        refine ⟨trivial, ?_⟩
        have hS101 := hS.go w99 [rowO 50 enc_Tile (some ⟨g98, 0, none⟩) 1 [(Tile.mk x14 x19 x16 x17)], blk g5 (.cells #[(iv x14), (iv x19), (iv x16), (iv x17)] 44 (0, 0)), rowO 50 enc_Tile A11 c12 l13] (hS100.map1 0 _ (fun h => rowO.ofBlk h rfl (Nat.le_of_ble_eq_true (by kernel_rfl))) (fun _ h => by obtain ⟨_, h1, h2⟩ := h; injection h1 with h1; subst h1; exact h2) [1, 2] (by decide) (by decide))
        obtain ⟨h102, hx96⟩ := as_some hx96
        refine WL.append hS101 2 (d := 100) (tS := 23) (z := (.agg #[(iv 0), (iv 0), (iv 0), (iv 0)])) (bytes := 32) (c2 := 1) rfl (fun fb => by kernel_rfl) (rowO.rd (hS101.own 0).1) (by kernel_rfl) (by kernel_rfl) rfl (by decide) h102 (by decide) [0, 1] (by decide) (by decide) (fun A103 c104 w105 hS106 => ?_)
        refine ⟨trivial, ?_⟩
        refine seg 13 [] [0, 4, 5, 7, 8, 9] [(0, (.string p0)), (4, (sv A103 (l13 ++ [(Tile.mk x14 x19 x16 x17)]) c104)), (5, (pt g5)), (7, (iv 0)), (8, (iv 0)), (9, (iv x21))] [] (fun fb => by kernel_rfl) rfl trivial ?_
        refine WL.done rfl (WX.next (WC.region ?_))
        refine seg 1 [] [0, 4, 5, 6, 7, 8, 9] [(0, (.string p0)), (4, (sv A103 (l13 ++ [(Tile.mk x14 x19 x16 x17)]) c104)), (5, (pt g5)), (6, (iv 0)), (7, (iv 0)), (8, (iv 0)), (9, (iv x21))] [] (fun fb => by kernel_rfl) rfl trivial ?_
        refine WL.done rfl ?_
        injection hx96 with hx96
        exact WX.to Kx95 ((l13 ++ [(Tile.mk x14 x19 x16 x17)], 0), A103, c104) [0, 4, 5, 6, 7, 8, 9] rfl ⟨(hS106.subR []).sub [0, 2] (by decide), hx96.symm⟩
       refine WC.condF2 (fun fb => by kernel_rfl) h97 ?_
       refine WC.skip ?_
       injection hx96 with hx96
       exact WX.to Kx95 ((l13, w64 (x18 + 1)), A11, c12) [0, 4, 5, 6, 7, 8, 9] rfl ⟨(hS92.subR []).sub [1, 0] (by decide), hx96.symm⟩
      rintro ⟨y110, A93, c94⟩ w107 ⟨hS108, hq109⟩
      subst hq109
      injection hx34 with hx34
      exact WX.blockN (WX.to Kx33 ((x95.1, x14, x19, x16, x17, x95.2, 0, 0), A93, c94) [0, 4, 5, 6, 7, 8, 9] rfl ⟨(hS108.subR []).sub [0, 1] (by decide), hx34.symm⟩)
     rcases br_some hx34 with ⟨h111, hx34⟩ | ⟨h111, hx34⟩
     ·
      refine WL.setI 82 (eq_of_beq h111) rfl ?_
      refine seg 3 [] [0, 4, 5, 6, 9, 83, 84] [(0, (.string p0)), (4, (sv A11 l13 c12)), (5, (pt g5)), (6, (iv x18)), (9, (iv x21)), (83, (iv x19)), (84, (.pointer (some ⟨g5, 2, none⟩)))] [] (fun fb => by kernel_rfl) rfl trivial ?_
      refine WL.store hS28 1 rfl [(2, (iv x19))] #[(iv x14), (iv x15), (iv x19), (iv x17)] (fun fb => by kernel_rfl) (by kernel_rfl) rfl [0] (by decide) (by decide) (fun w112 hS113 => ?_)
      refine ⟨trivial, ?_⟩
      refine WL.done rfl (WX.next (WC.seq (WC.region ?_)))
      refine seg 5 [] [0, 4, 5, 6, 7, 8, 9] [(0, (.string p0)), (4, (sv A11 l13 c12)), (5, (pt g5)), (6, (iv (w64 (x18 + 1)))), (7, (iv 0)), (8, (iv 0)), (9, (iv x21))] [] (fun fb => by kernel_rfl) rfl trivial ?_
      refine WL.done rfl (WX.next (WC.seq (WC.region ?_)))
      refine seg 2 [] [0, 4, 5, 6, 7, 8, 9, 88] [(0, (.string p0)), (4, (sv A11 l13 c12)), (5, (pt g5)), (6, (iv (w64 (x18 + 1)))), (7, (iv 0)), (8, (iv 0)), (9, (iv x21)), (88, (bv ((w64 (x18 + 1)) == 4)))] [] (fun fb => by kernel_rfl) rfl trivial ?_
      refine WL.done rfl (WX.next ?_)
      obtain ⟨x116, hx117, hx34⟩ := bind_some hx34
      refine WC.cutN (T := ((List Tile) × Int) × (Option Addr) × Nat) (fun t => [(0, (.string p0)), (4, (sv t.2.1 t.1.1 t.2.2)), (5, (pt g5)), (6, (iv t.1.2)), (7, (iv 0)), (8, (iv 0)), (9, (iv x21))]) (fun t w1 => St NoS w w1 [] [rowO 50 enc_Tile t.2.1 t.2.2 t.1.1, blk g5 (.cells #[(iv x14), (iv x15), (iv x19), (iv x17)] 44 (0, 0))] ∧ x116 = t.1) (fun Kx116 => ?_) ?_
      ·
       rcases br_some hx117 with ⟨h118, hx117⟩ | ⟨h118, hx117⟩
       ·refine WC.condT2 (fun fb => by kernel_rfl) h118 ?_
        refine WC.seq (WC.region ?_)
        refine seg 10 [.v (iv x14), .v (iv x15), .v (iv x19), .v (iv x17)] [0, 5, 7, 8, 9, 89, 98] [(0, (.string p0)), (5, (pt g5)), (7, (iv 0)), (8, (iv 0)), (9, (iv x21)), (89, (sv A11 l13 c12)), (98, (.agg #[(iv x14), (iv x15), (iv x19), (iv x17)]))] [.cell ⟨g5, 0, none⟩ (iv x14), .cell ⟨g5, 1, none⟩ (iv x15), .cell ⟨g5, 2, none⟩ (iv x19), .cell ⟨g5, 3, none⟩ (iv x17)] (fun fb => by kernel_rfl) rfl ⟨hS113.cell 0 rfl 0 rfl, hS113.cell 0 rfl 1 rfl, hS113.cell 0 rfl 2 rfl, hS113.cell 0 rfl 3 rfl, trivial⟩ ?_
        refine WL.new hS113 99 [] (fun g => (.slice (some ⟨g, 0, none⟩) 1 1)) (.cells #[(iv x14), (iv x15), (iv x19), (iv x17)] 50 (0, 0)) [] (fun fb g => by kernel_rfl) trivial (fun g119 w120 hS121 => ?_)
        refine ⟨trivial, ?_⟩
        have hS122 := hS.go w120 [rowO 50 enc_Tile (some ⟨g119, 0, none⟩) 1 [(Tile.mk x14 x15 x19 x17)], blk g5 (.cells #[(iv x14), (iv x15), (iv x19), (iv x17)] 44 (0, 0)), rowO 50 enc_Tile A11 c12 l13] (hS121.map1 0 _ (fun h => rowO.ofBlk h rfl (Nat.le_of_ble_eq_true (by kernel_rfl))) (fun _ h => by obtain ⟨_, h1, h2⟩ := h; injection h1 with h1; subst h1; exact h2) [1, 2] (by decide) (by decide))
        obtain ⟨h123, hx117⟩ := as_some hx117
        refine WL.append hS122 2 (d := 100) (tS := 23) (z := (.agg #[(iv 0), (iv 0), (iv 0), (iv 0)])) (bytes := 32) (c2 := 1) rfl (fun fb => by kernel_rfl) (rowO.rd (hS122.own 0).1) (by kernel_rfl) (by kernel_rfl) rfl (by decide) h123 (by decide) [0, 1] (by decide) (by decide) (fun A124 c125 w126 hS127 => ?_)
        refine ⟨trivial, ?_⟩
        refine seg 13 [] [0, 4, 5, 7, 8, 9] [(0, (.string p0)), (4, (sv A124 (l13 ++ [(Tile.mk x14 x15 x19 x17)]) c125)), (5, (pt g5)), (7, (iv 0)), (8, (iv 0)), (9, (iv x21))] [] (fun fb => by kernel_rfl) rfl trivial ?_
        refine WL.done rfl (WX.next (WC.region ?_))
        refine seg 1 [] [0, 4, 5, 6, 7, 8, 9] [(0, (.string p0)), (4, (sv A124 (l13 ++ [(Tile.mk x14 x15 x19 x17)]) c125)), (5, (pt g5)), (6, (iv 0)), (7, (iv 0)), (8, (iv 0)), (9, (iv x21))] [] (fun fb => by kernel_rfl) rfl trivial ?_
        refine WL.done rfl ?_
        injection hx117 with hx117
        exact WX.to Kx116 ((l13 ++ [(Tile.mk x14 x15 x19 x17)], 0), A124, c125) [0, 4, 5, 6, 7, 8, 9] rfl ⟨(hS127.subR []).sub [0, 2] (by decide), hx117.symm⟩
       refine WC.condF2 (fun fb => by kernel_rfl) h118 ?_
       refine WC.skip ?_
       injection hx117 with hx117
       exact WX.to Kx116 ((l13, w64 (x18 + 1)), A11, c12) [0, 4, 5, 6, 7, 8, 9] rfl ⟨(hS113.subR []).sub [1, 0] (by decide), hx117.symm⟩
      rintro ⟨y131, A114, c115⟩ w128 ⟨hS129, hq130⟩
      subst hq130
      injection hx34 with hx34
      exact WX.blockN (WX.to Kx33 ((x116.1, x14, x15, x19, x17, x116.2, 0, 0), A114, c115) [0, 4, 5, 6, 7, 8, 9] rfl ⟨(hS129.subR []).sub [0, 1] (by decide), hx34.symm⟩)
     rcases br_some hx34 with ⟨h132, hx34⟩ | ⟨h132, hx34⟩
     ·
      refine WL.setI 82 (eq_of_beq h132) rfl ?_
      refine seg 3 [] [0, 4, 5, 6, 9, 83, 84] [(0, (.string p0)), (4, (sv A11 l13 c12)), (5, (pt g5)), (6, (iv x18)), (9, (iv x21)), (83, (iv x19)), (84, (.pointer (some ⟨g5, 3, none⟩)))] [] (fun fb => by kernel_rfl) rfl trivial ?_
      refine WL.store hS28 1 rfl [(3, (iv x19))] #[(iv x14), (iv x15), (iv x16), (iv x19)] (fun fb => by kernel_rfl) (by kernel_rfl) rfl [0] (by decide) (by decide) (fun w133 hS134 => ?_)
      refine ⟨trivial, ?_⟩
      refine WL.done rfl (WX.next (WC.seq (WC.region ?_)))
      refine seg 5 [] [0, 4, 5, 6, 7, 8, 9] [(0, (.string p0)), (4, (sv A11 l13 c12)), (5, (pt g5)), (6, (iv (w64 (x18 + 1)))), (7, (iv 0)), (8, (iv 0)), (9, (iv x21))] [] (fun fb => by kernel_rfl) rfl trivial ?_
      refine WL.done rfl (WX.next (WC.seq (WC.region ?_)))
      refine seg 2 [] [0, 4, 5, 6, 7, 8, 9, 88] [(0, (.string p0)), (4, (sv A11 l13 c12)), (5, (pt g5)), (6, (iv (w64 (x18 + 1)))), (7, (iv 0)), (8, (iv 0)), (9, (iv x21)), (88, (bv ((w64 (x18 + 1)) == 4)))] [] (fun fb => by kernel_rfl) rfl trivial ?_
      refine WL.done rfl (WX.next ?_)
      obtain ⟨x137, hx138, hx34⟩ := bind_some hx34
      refine WC.cutN (T := ((List Tile) × Int) × (Option Addr) × Nat) (fun t => [(0, (.string p0)), (4, (sv t.2.1 t.1.1 t.2.2)), (5, (pt g5)), (6, (iv t.1.2)), (7, (iv 0)), (8, (iv 0)), (9, (iv x21))]) (fun t w1 => St NoS w w1 [] [rowO 50 enc_Tile t.2.1 t.2.2 t.1.1, blk g5 (.cells #[(iv x14), (iv x15), (iv x16), (iv x19)] 44 (0, 0))] ∧ x137 = t.1) (fun Kx137 => ?_) ?_
      ·
       rcases br_some hx138 with ⟨h139, hx138⟩ | ⟨h139, hx138⟩
       ·refine WC.condT2 (fun fb => by kernel_rfl) h139 ?_
        refine WC.seq (WC.region ?_)
        refine seg 10 [.v (iv x14), .v (iv x15), .v (iv x16), .v (iv x19)] [0, 5, 7, 8, 9, 89, 98] [(0, (.string p0)), (5, (pt g5)), (7, (iv 0)), (8, (iv 0)), (9, (iv x21)), (89, (sv A11 l13 c12)), (98, (.agg #[(iv x14), (iv x15), (iv x16), (iv x19)]))] [.cell ⟨g5, 0, none⟩ (iv x14), .cell ⟨g5, 1, none⟩ (iv x15), .cell ⟨g5, 2, none⟩ (iv x16), .cell ⟨g5, 3, none⟩ (iv x19)] (fun fb => by kernel_rfl) rfl ⟨hS134.cell 0 rfl 0 rfl, hS134.cell 0 rfl 1 rfl, hS134.cell 0 rfl 2 rfl, hS134.cell 0 rfl 3 rfl, trivial⟩ ?_
        refine WL.new hS134 99 [] (fun g => (.slice (some ⟨g, 0, none⟩) 1 1)) (.cells #[(iv x14), (iv x15), (iv x16), (iv x19)] 50 (0, 0)) [] (fun fb g => by kernel_rfl) trivial (fun g140 w141 hS142 => ?_)
        refine ⟨trivial, ?_⟩
        have hS143 := hS.go w141 [rowO 50 enc_Tile (some ⟨g140, 0, none⟩) 1 [(Tile.mk x14 x15 x16 x19)], blk g5 (.cells #[(iv x14), (iv x15), (iv x16), (iv x19)] 44 (0, 0)), rowO 50 enc_Tile A11 c12 l13] (hS142.map1 0 _ (fun h => rowO.ofBlk h rfl (Nat.le_of_ble_eq_true (by kernel_rfl))) (fun _ h => by obtain ⟨_, h1, h2⟩ := h; injection h1 with h1; subst h1; exact h2) [1, 2] (by decide) (by decide))
        obtain ⟨h144, hx138⟩ := as_some hx138
        refine WL.append hS143 2 (d := 100) (tS := 23) (z := (.agg #[(iv 0), (iv 0), (iv 0), (iv 0)])) (bytes := 32) (c2 := 1) rfl (fun fb => by kernel_rfl) (rowO.rd (hS143.own 0).1) (by kernel_rfl) (by kernel_rfl) rfl (by decide) h144 (by decide) [0, 1] (by decide) (by decide) (fun A145 c146 w147 hS148 => ?_)
        refine ⟨trivial, ?_⟩
        refine seg 13 [] [0, 4, 5, 7, 8, 9] [(0, (.string p0)), (4, (sv A145 (l13 ++ [(Tile.mk x14 x15 x16 x19)]) c146)), (5, (pt g5)), (7, (iv 0)), (8, (iv 0)), (9, (iv x21))] [] (fun fb => by kernel_rfl) rfl trivial ?_
        refine WL.done rfl (WX.next (WC.region ?_))
        refine seg 1 [] [0, 4, 5, 6, 7, 8, 9] [(0, (.string p0)), (4, (sv A145 (l13 ++ [(Tile.mk x14 x15 x16 x19)]) c146)), (5, (pt g5)), (6, (iv 0)), (7, (iv 0)), (8, (iv 0)), (9, (iv x21))] [] (fun fb => by kernel_rfl) rfl trivial ?_
        refine WL.done rfl ?_
        injection hx138 with hx138
        exact WX.to Kx137 ((l13 ++ [(Tile.mk x14 x15 x16 x19)], 0), A145, c146) [0, 4, 5, 6, 7, 8, 9] rfl ⟨(hS148.subR []).sub [0, 2] (by decide), hx138.symm⟩
       refine WC.condF2 (fun fb => by kernel_rfl) h139 ?_
       refine WC.skip ?_
       injection hx138 with hx138
       exact WX.to Kx137 ((l13, w64 (x18 + 1)), A11, c12) [0, 4, 5, 6, 7, 8, 9] rfl ⟨(hS134.subR []).sub [1, 0] (by decide), hx138.symm⟩
      rintro ⟨y152, A135, c136⟩ w149 ⟨hS150, hq151⟩
      subst hq151
      injection hx34 with hx34
      exact WX.blockN (WX.to Kx33 ((x137.1, x14, x15, x16, x19, x137.2, 0, 0), A135, c136) [0, 4, 5, 6, 7, 8, 9] rfl ⟨(hS150.subR []).sub [0, 1] (by decide), hx34.symm⟩)
     cases hx34
    rintro ⟨y156, A31, c32⟩ w153 ⟨hS154, hq155⟩
    subst hq155
    have hl29 := sum_inr hl29
    refine WX.next (WC.region ?_)
    refine seg 3 [] [0, 4, 5, 6, 7, 8, 9] [(0, (.string p0)), (4, (sv A31 y156.1 c32)), (5, (pt g5)), (6, (iv y156.2.2.2.2.2.1)), (7, (iv y156.2.2.2.2.2.2.1)), (8, (iv y156.2.2.2.2.2.2.2)), (9, (iv (w64 (x21 + 1))))] [] (fun fb => by kernel_rfl) rfl trivial ?_
    refine WL.done rfl ?_
    exact WX.again k26 (Nat.lt_succ_self _) ((y156.1, y156.2.1, y156.2.2.1, y156.2.2.2.1, y156.2.2.2.2.1, y156.2.2.2.2.2.1, y156.2.2.2.2.2.2.1, y156.2.2.2.2.2.2.2, w64 (x21 + 1)), A31, c32) [0, 4, 5, 6, 7, 8, 9] rfl ⟨(hS154.subR []).sub [0, 1] (by decide), hl29⟩
   refine WC.condF2 (fun fb => by kernel_rfl) h30 ?_
   refine WC.exit ?_
   injection hl29 with hl29
   exact WX.thenX (WX.thenX (WX.blockHere (WX.to Kx24 ((l13, x18), A11, c12) [0, 4, 6] rfl ⟨(hS28.subR []).sub [0] (by decide), hl29.symm⟩)))
 rintro ⟨y160, A22, c23⟩ w157 ⟨hS158, hq159⟩
 subst hq159
 have hf := sum_inr hf
 refine WX.next (WC.seq (WC.seq (WC.region ?_)))
 refine seg 3 [] [0, 4, 103] [(0, (.string p0)), (4, (sv A22 y160.1 c23)), (103, (bv (y160.2 != 0)))] [] (fun fb => by kernel_rfl) rfl trivial ?_
 obtain ⟨x161, hx162, hf⟩ := bind_some hf
 refine WL.cutW (T := Bool) 7 (fun t => [(0, (.string p0)), (4, (sv A22 y160.1 c23)), (107, (bv t))]) (fun t w1 => (St NoS w w1 [] [rowO 50 enc_Tile A22 c23 y160.1] ∧ x161 = t) ∧ CellsOK [] w1) (fun K => ?_) ?_
 ·
  rcases br_some hx162 with ⟨h163, hx162⟩ | ⟨h163, hx162⟩
  ·
   refine WL.setB 103 h163 rfl ?_
   refine seg 7 [] [0, 4, 107] [(0, (.string p0)), (4, (sv A22 y160.1 c23)), (107, (bv true))] [] (fun fb => by kernel_rfl) rfl trivial ?_
   injection hx162 with hx162
   exact WL.to K true [0, 4, 107] rfl ⟨⟨(hS158.subR []).sub [0] (by decide), hx162.symm⟩, trivial⟩
  refine WL.setB 103 h163 rfl ?_
  refine seg 4 [] [0, 4, 103, 104] [(0, (.string p0)), (4, (sv A22 y160.1 c23)), (103, (bv false)), (104, (sv A22 y160.1 c23))] [] (fun fb => by kernel_rfl) rfl trivial ?_
  obtain ⟨t164, ht165, hx162⟩ := bind_some hx162
  refine WL.call (some 105) 15 #[(sv A22 y160.1 c23)] (fun fb => by kernel_rfl) (ref01_Valid_calls _ y160.1 A22 c23 t164 _ (hS158.ow 0).ofO ht165) (fun v w166 hR167 => ?_)
  obtain ⟨rfl, hk_⟩ := hR167
  have hS168 := hS158.keepN hk_
  refine ⟨trivial, ?_⟩
  refine seg 7 [] [0, 4, 107] [(0, (.string p0)), (4, (sv A22 y160.1 c23)), (107, (bv (!t164)))] [] (fun fb => by kernel_rfl) rfl trivial ?_
  injection hx162 with hx162
  exact WL.to K (!t164) [0, 4, 107] rfl ⟨⟨(hS168.subR []).sub [0] (by decide), hx162.symm⟩, trivial⟩
 rintro y169 w171 ⟨⟨hS172, hq170⟩, hF173⟩
 subst hq170
 refine seg 8 [] [0, 4, 108] [(0, (.string p0)), (4, (sv A22 y160.1 c23)), (108, (bv x161))] [] (fun fb => by kernel_rfl) rfl trivial ?_
 obtain ⟨x174, hx175, hf⟩ := bind_some hf
 refine WL.cutW (T := Bool) 13 (fun t => [(4, (sv A22 y160.1 c23)), (113, (bv t))]) (fun t w1 => (St NoS w w1 [] [rowO 50 enc_Tile A22 c23 y160.1] ∧ x174 = t) ∧ CellsOK [] w1) (fun K => ?_) ?_
 ·
  rcases br_some hx175 with ⟨h176, hx175⟩ | ⟨h176, hx175⟩
  ·
   refine WL.setB 108 h176 rfl ?_
   refine seg 13 [] [4, 113] [(4, (sv A22 y160.1 c23)), (113, (bv true))] [] (fun fb => by kernel_rfl) rfl trivial ?_
   injection hx175 with hx175
   exact WL.to K true [4, 113] rfl ⟨⟨(hS172.subR []).sub [0] (by decide), hx175.symm⟩, trivial⟩
  refine WL.setB 108 h176 rfl ?_
  refine seg 9 [] [0, 4, 108, 109] [(0, (.string p0)), (4, (sv A22 y160.1 c23)), (108, (bv false)), (109, (sv A22 y160.1 c23))] [] (fun fb => by kernel_rfl) rfl trivial ?_
  obtain ⟨t177, ht178, hx175⟩ := bind_some hx175
  refine WL.call (some 110) 17 #[(sv A22 y160.1 c23)] (fun fb => by kernel_rfl) (ref01_Text_calls _ y160.1 A22 c23 t177 _ (hS172.ow 0).ofO ht178) (fun v w179 hR180 => ?_)
  obtain ⟨rfl, hk_⟩ := hR180
  have hS181 := hS172.keepN hk_
  refine ⟨trivial, ?_⟩
  refine seg 11 [] [4, 108, 110, 111] [(4, (sv A22 y160.1 c23)), (108, (bv false)), (110, (.string t177)), (111, (.string p0))] [] (fun fb => by kernel_rfl) rfl trivial ?_
  refine seg 12 [] [4, 108, 112] [(4, (sv A22 y160.1 c23)), (108, (bv false)), (112, (bv (!(t177.toList == p0.toList))))] [] (fun fb => by kernel_rfl) rfl trivial ?_
  refine WL.setB 112 (congrArg not (strEq_raw t177 p0)) rfl ?_
  refine seg 13 [] [4, 113] [(4, (sv A22 y160.1 c23)), (113, (bv (!(strEq t177 p0))))] [] (fun fb => by kernel_rfl) rfl trivial ?_
  injection hx175 with hx175
  exact WL.to K (!(strEq t177 p0)) [4, 113] rfl ⟨⟨(hS181.subR []).sub [0] (by decide), hx175.symm⟩, trivial⟩
 rintro y182 w184 ⟨⟨hS185, hq183⟩, hF186⟩
 subst hq183
 refine WL.done rfl (WX.next ?_)
 rcases br_some hf with ⟨h187, hf⟩ | ⟨h187, hf⟩
 ·refine WC.condT2 (fun fb => by kernel_rfl) h187 ?_
  refine WC.seq (WC.region ?_)
  refine seg 2 [] [2, 3] [(2, (.slice none 0 0)), (3, (bv false))] [] (fun fb => by kernel_rfl) rfl trivial ?_
  refine WL.done rfl (WX.next ?_)
  refine WC.ret ?_
  have hS188 := hS185.nilrow 50 enc_Tile
  injection hf with hf
  subst hf
  exact WX.thenR (WX.ret_ [] (.tuple #[(sv none ([] : List Tile) 0), (bv false)]) [] (fun fb => by kernel_rfl) trivial ⟨_, rfl, none, 0, rfl, (hS188.sub [0] (by decide)).noR⟩)
 refine WC.condF2 (fun fb => by kernel_rfl) h187 ?_
 refine WC.skip (WX.next (WC.seq (WC.region ?_)))
 refine seg 3 [] [2, 3] [(2, (sv A22 y160.1 c23)), (3, (bv true))] [] (fun fb => by kernel_rfl) rfl trivial ?_
 refine WL.done rfl (WX.next ?_)
 refine WC.ret ?_
 injection hf with hf
 subst hf
 exact WX.ret_ [] (.tuple #[(sv A22 y160.1 c23), (bv true)]) [] (fun fb => by kernel_rfl) trivial ⟨_, rfl, A22, c23, rfl, (hS185.sub [0] (by decide)).noR⟩
theorem ref01_SameSet_calls (k : Nat) (p0 : List Tile) (p1 : List Tile) (Aa : Option Addr) (ca : Nat) (Ab : Option Addr) (cb : Nat) (r : Bool) (w : World) (hR0 : RO NoS w (rowR enc_Tile Aa ca p0)) (hR1 : RO NoS w (rowR enc_Tile Ab cb p1)) (hf : ref01_SameSet k p0 p1 = some r) :
  CallsR Tryd.prog 9 #[(sv Aa p0 ca), (sv Ab p1 cb)] w (fun v w' => v = (bv r) ∧ Keeps NoS w w') := by
 have hS : St NoS w w [rowR enc_Tile Aa ca p0, rowR enc_Tile Ab cb p1] [] := St.init (ro_cons hR0 (ro_cons hR1 (ro_nil _ _)))
 refine enter 26 Tryd.func9 rfl Tryd.ntmps9 rfl ?_
 unfold ref01_SameSet at hf
 refine WC.seq (WC.region ?_)
 refine seg 1 [] [0, 1] [(0, (sv Aa p0 ca)), (1, (sv Ab p1 cb))] [] (fun fb => by kernel_rfl) rfl trivial ?_
 refine WL.done rfl (WX.next (WC.seq (WC.seq (WC.region ?_))))
 refine seg 5 [] [0, 1, 10] [(0, (sv Aa p0 ca)), (1, (sv Ab p1 cb)), (10, (bv ((p0.length : Int) != (p1.length : Int))))] [] (fun fb => by kernel_rfl) rfl trivial ?_
 refine WL.done rfl (WX.next ?_)
 rcases br_some hf with ⟨h3, hf⟩ | ⟨h3, hf⟩
 ·refine WC.condT2 (fun fb => by kernel_rfl) h3 ?_
  refine WC.seq (WC.region ?_)
  refine seg 1 [] [4] [(4, (bv false))] [] (fun fb => by kernel_rfl) rfl trivial ?_
  refine WL.done rfl (WX.next ?_)
  refine WC.ret ?_
  injection hf with hf
  subst hf
  exact WX.thenR (WX.ret_ [] (bv false) [] (fun fb => by kernel_rfl) trivial ⟨_, rfl, rfl, hS.keep⟩)
 refine WC.condF2 (fun fb => by kernel_rfl) h3 ?_
 refine WC.skip (WX.next (WC.seq (WC.seq (WC.region ?_))))
 refine seg 1 [] [0, 1, 5] [(0, (sv Aa p0 ca)), (1, (sv Ab p1 cb)), (5, (iv 0))] [] (fun fb => by kernel_rfl) rfl trivial ?_
 refine WL.done rfl (WX.next ?_)
 obtain ⟨x5, hx6, hf⟩ := bind_some hf
 refine WC.cutN (T := Unit) (fun t => []) (fun t w1 => St NoS w w1 [rowR enc_Tile Aa ca p0, rowR enc_Tile Ab cb p1] [] ∧ x5 = .inr t) (fun Kx5 => ?_) ?_
 ·
  refine WC.block ?_
  refine WC.loop (T := Int) (fun t => [(0, (sv Aa p0 ca)), (1, (sv Ab p1 cb)), (5, (iv t))]) (fun n t w1 => St NoS w w1 [rowR enc_Tile Aa ca p0, rowR enc_Tile Ab cb p1] [] ∧ ref01_SameSet.l0 n t p0 p1 = some x5) k 0 [0, 1, 5] rfl ⟨(hS.subR [0, 1]).sub [] (by decide), hx6⟩ ?_
  rintro k7 x4 w8 ⟨hS10, hl11⟩
  cases k7 with
  | zero => rw [ref01_SameSet.l0] at hl11; cases hl11
  | succ k7 =>
   rw [ref01_SameSet.l0] at hl11
   refine WC.seq (WC.seq (WC.region ?_))
   refine seg 4 [] [0, 1, 5, 14] [(0, (sv Aa p0 ca)), (1, (sv Ab p1 cb)), (5, (iv x4)), (14, (bv (decide (x4 < (p0.length : Int)))))] [] (fun fb => by kernel_rfl) rfl trivial ?_
   refine WL.done rfl (WX.next ?_)
   rcases br_some hl11 with ⟨h12, hl11⟩ | ⟨h12, hl11⟩
   ·refine WC.condT2 (fun fb => by kernel_rfl) h12 ?_
    refine WC.skip (WX.next (WC.seq (WC.block (WC.seq ?_))))
    obtain ⟨h15, hl11⟩ := as_some hl11
    obtain ⟨h16, hl11⟩ := as_some hl11
    refine WC.regionD ([(3, ((adr Aa).add ((x4).toNat * 4)), (iv ((rdD p0 x4 z_Tile).N))), (3, (((adr Aa).add ((x4).toNat * 4)).add 1), (iv ((rdD p0 x4 z_Tile).E))), (3, (((adr Aa).add ((x4).toNat * 4)).add 2), (iv ((rdD p0 x4 z_Tile).S))), (3, (((adr Aa).add ((x4).toNat * 4)).add 3), (iv ((rdD p0 x4 z_Tile).W))), (7, ((adr Ab).add ((x4).toNat * 4)), (iv ((rdD p1 x4 z_Tile).N))), (7, (((adr Ab).add ((x4).toNat * 4)).add 1), (iv ((rdD p1 x4 z_Tile).E))), (7, (((adr Ab).add ((x4).toNat * 4)).add 2), (iv ((rdD p1 x4 z_Tile).S))), (7, (((adr Ab).add ((x4).toNat * 4)).add 3), (iv ((rdD p1 x4 z_Tile).W)))], [0, 1, 2, 3, 4, 5, 6, 7, 8], [[], [], [0, 1], [0, 1, 2], [], [], [4, 5], [4, 5, 6], [0, 1, 2, 3, 4, 5, 6, 7]]) [[0, 1, 2, 3, 4, 5, 6, 7, 8]] (by kernel_rfl) (by kernel_rfl) (NoPanic.seq (NoPanic.block (NoPanic.seq (NoPanic.seq (NoPanic.block (NoPanic.seq (NoPanic.body))))))) ?_
    have hS14 := hS10.drew
    revert hS14
    generalize World.drew w8 = w13
    intro hS14
    refine ⟨⟨rowR.cell (hS14.rd 0).1 z_Tile h15.1 h15.2 0 rfl, rowR.cell (hS14.rd 0).1 z_Tile h15.1 h15.2 1 rfl, rowR.cell (hS14.rd 0).1 z_Tile h15.1 h15.2 2 rfl, rowR.cell (hS14.rd 0).1 z_Tile h15.1 h15.2 3 rfl, rowR.cell (hS14.rd 1).1 z_Tile h16.1 h16.2 0 rfl, rowR.cell (hS14.rd 1).1 z_Tile h16.1 h16.2 1 rfl, rowR.cell (hS14.rd 1).1 z_Tile h16.1 h16.2 2 rfl, rowR.cell (hS14.rd 1).1 z_Tile h16.1 h16.2 3 rfl, trivial⟩, forallC ?_ (forallN)⟩
    refine segF 9 [.v (iv ((rdD p0 x4 z_Tile).N)), .v (iv ((rdD p0 x4 z_Tile).E)), .v (iv ((rdD p0 x4 z_Tile).S)), .v (iv ((rdD p0 x4 z_Tile).W)), .v (iv ((rdD p1 x4 z_Tile).N)), .v (iv ((rdD p1 x4 z_Tile).E)), .v (iv ((rdD p1 x4 z_Tile).S)), .v (iv ((rdD p1 x4 z_Tile).W))] [0, 1, 5, 25] [(0, (sv Aa p0 ca)), (1, (sv Ab p1 cb)), (5, (iv x4)), (25, (bv (!(((rdD p0 x4 z_Tile).N) == ((rdD p1 x4 z_Tile).N) && (((rdD p0 x4 z_Tile).E) == ((rdD p1 x4 z_Tile).E) && (((rdD p0 x4 z_Tile).S) == ((rdD p1 x4 z_Tile).S) && (((rdD p0 x4 z_Tile).W) == ((rdD p1 x4 z_Tile).W))))))))] [.idx Aa x4 p0.length, .idx Ab x4 p1.length] [0, 1, 2, 3, 4, 5, 6, 7] [(3, ((adr Aa).add ((x4).toNat * 4)), (iv ((rdD p0 x4 z_Tile).N))), (3, (((adr Aa).add ((x4).toNat * 4)).add 1), (iv ((rdD p0 x4 z_Tile).E))), (3, (((adr Aa).add ((x4).toNat * 4)).add 2), (iv ((rdD p0 x4 z_Tile).S))), (3, (((adr Aa).add ((x4).toNat * 4)).add 3), (iv ((rdD p0 x4 z_Tile).W))), (7, ((adr Ab).add ((x4).toNat * 4)), (iv ((rdD p1 x4 z_Tile).N))), (7, (((adr Ab).add ((x4).toNat * 4)).add 1), (iv ((rdD p1 x4 z_Tile).E))), (7, (((adr Ab).add ((x4).toNat * 4)).add 2), (iv ((rdD p1 x4 z_Tile).S))), (7, (((adr Ab).add ((x4).toNat * 4)).add 3), (iv ((rdD p1 x4 z_Tile).W)))] (fun fb => by kernel_rfl) rfl ⟨rowR.adr (hS14.rd 0).1 h15.1 h15.2, rowR.adr (hS14.rd 1).1 h16.1 h16.2, trivial⟩ rfl ?_
    refine WL.done rfl (WX.next ?_)
    rcases br_some hl11 with ⟨h17, hl11⟩ | ⟨h17, hl11⟩
    ·refine WC.condT2 (fun fb => by kernel_rfl) h17 ?_
     refine WC.seq (WC.region ?_)
     refine seg 1 [] [4] [(4, (bv false))] [] (fun fb => by kernel_rfl) rfl trivial ?_
     refine WL.done rfl (WX.next ?_)
     refine WC.ret ?_
     injection hl11 with hl11
     subst hl11
     injection hf with hf
     subst hf
     exact WX.blockR (WX.thenR (WX.thenR (WX.blockR (WX.thenR (WX.ret_ [] (bv false) [] (fun fb => by kernel_rfl) trivial ⟨_, rfl, rfl, hS14.keep⟩)))))
    refine WC.condF2 (fun fb => by kernel_rfl) h17 ?_
    refine WC.skip ?_
    refine WX.blockN (WX.next ?_)
    refine WC.region ?_
    refine seg 3 [] [0, 1, 5] [(0, (sv Aa p0 ca)), (1, (sv Ab p1 cb)), (5, (iv (w64 (x4 + 1))))] [] (fun fb => by kernel_rfl) rfl trivial ?_
    refine WL.done rfl ?_
    exact WX.again k7 (Nat.lt_succ_self _) (w64 (x4 + 1)) [0, 1, 5] rfl ⟨(hS14.subR [0, 1]).sub [] (by decide), hl11⟩
   refine WC.condF2 (fun fb => by kernel_rfl) h12 ?_
   refine WC.exit ?_
   injection hl11 with hl11
   exact WX.thenX (WX.thenX (WX.blockHere (WX.to Kx5 () [] rfl ⟨(hS10.subR [0, 1]).sub [] (by decide), hl11.symm⟩)))
 rintro y21 w18 ⟨hS19, hq20⟩
 subst hq20
 have hf := sum_inr hf
 refine WX.next (WC.seq (WC.region ?_))
 refine seg 1 [] [4] [(4, (bv true))] [] (fun fb => by kernel_rfl) rfl trivial ?_
 refine WL.done rfl (WX.next ?_)
 refine WC.ret ?_
 injection hf with hf
 subst hf
 exact WX.ret_ [] (bv true) [] (fun fb => by kernel_rfl) trivial ⟨_, rfl, rfl, hS19.keep⟩
theorem law01_TileParses_calls (k : Nat) (p0 : ByteArray) (mG : Glo) (r : Bool) (w : World) (hR0 : RO NoS w (gloO Tryd.prog 2 5 0 1 mG)) (hf : law01_TileParses k p0 = some r) :
  CallsR Tryd.prog 3 #[(.string p0)] w (fun v w' => v = (bv r) ∧ Keeps NoS w w') := by
 have hS : St NoS w w [gloO Tryd.prog 2 5 0 1 mG] [] := St.init (ro_cons hR0 (ro_nil _ _))
 refine enter 59 Tryd.func3 rfl Tryd.ntmps3 rfl ?_
 unfold law01_TileParses at hf
 refine WC.seq (WC.region ?_)
 refine seg 1 [] [0] [(0, (.string p0))] [] (fun fb => by kernel_rfl) rfl trivial ?_
 refine WL.done rfl (WX.next (WC.seq (WC.seq (WC.region ?_))))
 refine seg 3 [] [0, 11] [(0, (.string p0)), (11, (bv (decide ((p0.size : Int) > 70000))))] [] (fun fb => by kernel_rfl) rfl trivial ?_
 refine WL.done rfl (WX.next ?_)
 rcases br_some hf with ⟨h1, hf⟩ | ⟨h1, hf⟩
 ·refine WC.condT2 (fun fb => by kernel_rfl) h1 ?_
  refine WC.seq (WC.region ?_)
  obtain ⟨t4, ht5, hf⟩ := bind_some hf
  refine WL.call (some 12) 5 #[] (fun fb => by kernel_rfl) (law01_awake_calls _ mG t4 _ (hS.rd 0) ht5) (fun v w6 hR7 => ?_)
  obtain ⟨rfl, hk_⟩ := hR7
  have hS8 := hS.keepN hk_
  refine ⟨trivial, ?_⟩
  refine seg 2 [] [2] [(2, (bv t4))] [] (fun fb => by kernel_rfl) rfl trivial ?_
  refine WL.done rfl (WX.next ?_)
  refine WC.ret ?_
  injection hf with hf
  subst hf
  exact WX.thenR (WX.ret_ [] (bv t4) [] (fun fb => by kernel_rfl) trivial ⟨_, rfl, rfl, hS8.keep⟩)
 refine WC.condF2 (fun fb => by kernel_rfl) h1 ?_
 refine WC.skip (WX.next (WC.seq (WC.region ?_)))
 refine seg 1 [] [0, 14] [(0, (.string p0)), (14, (.string p0))] [] (fun fb => by kernel_rfl) rfl trivial ?_
 obtain ⟨t9, ht10, hf⟩ := bind_some hf
 refine WL.call (some 15) 6 #[(.string p0)] (fun fb => by kernel_rfl) (tile_Parse_calls _ p0 mG t9 _ (hS.rd 0) ht10) (fun v w11 hR12 => ?_)
 obtain ⟨A14, c15, rfl, hk_⟩ := hR12
 have hS13 := hS.go w11 [rowO 50 enc_Tile A14 c15 t9.1] (hS.call hk_ [] [] (fun g hg => hg.elim) (by simp) (by decide))
 refine ⟨trivial, ?_⟩
 refine seg 7 [] [0, 3, 4] [(0, (.string p0)), (3, (sv A14 t9.1 c15)), (4, (iv t9.2))] [] (fun fb => by kernel_rfl) rfl trivial ?_
 refine WL.done rfl (WX.next (WC.seq (WC.region ?_)))
 refine seg 1 [] [0, 3, 4, 19] [(0, (.string p0)), (3, (sv A14 t9.1 c15)), (4, (iv t9.2)), (19, (.string p0))] [] (fun fb => by kernel_rfl) rfl trivial ?_
 obtain ⟨t16, ht17, hf⟩ := bind_some hf
 refine WL.call (some 20) 7 #[(.string p0)] (fun fb => by kernel_rfl) (ref01_Parse_calls _ p0 t16 _ ht17) (fun v w18 hR19 => ?_)
 obtain ⟨A21, c22, rfl, hk_⟩ := hR19
 have hS20 := hS13.go w18 [rowO 50 enc_Tile A21 c22 t16.1, rowO 50 enc_Tile A14 c15 t9.1] (hS13.call hk_ [] [0] (fun g hg => hg.elim) (by simp) (by decide))
 refine ⟨trivial, ?_⟩
 refine seg 7 [] [0, 3, 4, 5, 6] [(0, (.string p0)), (3, (sv A14 t9.1 c15)), (4, (iv t9.2)), (5, (sv A21 t16.1 c22)), (6, (bv t16.2))] [] (fun fb => by kernel_rfl) rfl trivial ?_
 refine WL.done rfl (WX.next (WC.seq (WC.seq (WC.region ?_))))
 refine seg 2 [] [0, 3, 4, 5, 24] [(0, (.string p0)), (3, (sv A14 t9.1 c15)), (4, (iv t9.2)), (5, (sv A21 t16.1 c22)), (24, (bv (!t16.2)))] [] (fun fb => by kernel_rfl) rfl trivial ?_
 refine WL.done rfl (WX.next ?_)
 rcases br_some hf with ⟨h23, hf⟩ | ⟨h23, hf⟩
 ·refine WC.condT2 (fun fb => by kernel_rfl) h23 ?_
  refine WC.seq (WC.region ?_)
  refine seg 3 [] [3, 27] [(3, (sv A14 t9.1 c15)), (27, (bv (t9.2 == 3)))] [] (fun fb => by kernel_rfl) rfl trivial ?_
  refine WL.cutV (T := Bool) 7 (fun t => [(31, (bv t))]) (fun t => ((t9.2 == 3) && ((t9.1.length : Int) == 0)) = t) (fun K => ?_) ?_
  ·
   rcases Bool.eq_false_or_eq_true (t9.2 == 3) with h24 | h24
   ·
    refine WL.setB 27 h24 rfl ?_
    refine seg 7 [] [31] [(31, (bv ((t9.1.length : Int) == 0)))] [] (fun fb => by kernel_rfl) rfl trivial ?_
    exact WL.toV K ((t9.1.length : Int) == 0) [31] rfl (by first | (rw [h24]; done) | (rw [h24]; rfl))
   refine WL.setB 27 h24 rfl ?_
   refine seg 7 [] [31] [(31, (bv false))] [] (fun fb => by kernel_rfl) rfl trivial ?_
   exact WL.toV K false [31] rfl (by first | (rw [h24]; done) | (rw [h24]; rfl))
  rintro b25 rfl
  refine seg 8 [] [32] [(32, (bv ((t9.2 == 3) && ((t9.1.length : Int) == 0))))] [] (fun fb => by kernel_rfl) rfl trivial ?_
  obtain ⟨x26, hx27, hf⟩ := bind_some hf
  refine WL.cutW (T := Bool) 10 (fun t => [(34, (bv t))]) (fun t w1 => (St NoS w w1 [gloO Tryd.prog 2 5 0 1 mG] [] ∧ x26 = t) ∧ CellsOK [] w1) (fun K => ?_) ?_
  ·
   rcases br_some hx27 with ⟨h28, hx27⟩ | ⟨h28, hx27⟩
   ·
    refine WL.setB 32 h28 rfl ?_
    obtain ⟨t29, ht30, hx27⟩ := bind_some hx27
    refine WL.call (some 33) 5 #[] (fun fb => by kernel_rfl) (law01_awake_calls _ mG t29 _ (hS20.rd 0) ht30) (fun v w31 hR32 => ?_)
    obtain ⟨rfl, hk_⟩ := hR32
    have hS33 := hS20.keepN hk_
    refine ⟨trivial, ?_⟩
    refine seg 10 [] [34] [(34, (bv t29))] [] (fun fb => by kernel_rfl) rfl trivial ?_
    injection hx27 with hx27
    exact WL.to K t29 [34] rfl ⟨⟨(hS33.subR [0]).sub [] (by decide), hx27.symm⟩, trivial⟩
   refine WL.setB 32 h28 rfl ?_
   refine seg 10 [] [34] [(34, (bv false))] [] (fun fb => by kernel_rfl) rfl trivial ?_
   injection hx27 with hx27
   exact WL.to K false [34] rfl ⟨⟨(hS20.subR [0]).sub [] (by decide), hx27.symm⟩, trivial⟩
  rintro y34 w36 ⟨⟨hS37, hq35⟩, hF38⟩
  subst hq35
  refine seg 11 [] [2] [(2, (bv x26))] [] (fun fb => by kernel_rfl) rfl trivial ?_
  refine WL.done rfl (WX.next ?_)
  refine WC.ret ?_
  injection hf with hf
  subst hf
  exact WX.thenR (WX.ret_ [] (bv x26) [] (fun fb => by kernel_rfl) trivial ⟨_, rfl, rfl, hS37.keep⟩)
 refine WC.condF2 (fun fb => by kernel_rfl) h23 ?_
 refine WC.skip (WX.next (WC.seq (WC.region ?_)))
 refine seg 1 [] [0, 3, 4, 5, 36] [(0, (.string p0)), (3, (sv A14 t9.1 c15)), (4, (iv t9.2)), (5, (sv A21 t16.1 c22)), (36, (sv A14 t9.1 c15))] [] (fun fb => by kernel_rfl) rfl trivial ?_
 obtain ⟨t39, ht40, hf⟩ := bind_some hf
 refine WL.call (some 37) 8 #[(sv A14 t9.1 c15)] (fun fb => by kernel_rfl) (tile_Text_calls _ t9.1 A14 c15 mG t39 _ (hS20.ow 1).ofO (hS20.rd 0) ht40) (fun v w41 hR42 => ?_)
 obtain ⟨rfl, hk_⟩ := hR42
 have hS43 := hS20.keepN hk_
 refine ⟨trivial, ?_⟩
 refine seg 7 [] [0, 3, 4, 5, 7, 8] [(0, (.string p0)), (3, (sv A14 t9.1 c15)), (4, (iv t9.2)), (5, (sv A21 t16.1 c22)), (7, (.string t39.1)), (8, (iv t39.2))] [] (fun fb => by kernel_rfl) rfl trivial ?_
 refine WL.done rfl (WX.next (WC.seq (WC.region ?_)))
 refine seg 3 [] [0, 3, 5, 7, 8, 42] [(0, (.string p0)), (3, (sv A14 t9.1 c15)), (5, (sv A21 t16.1 c22)), (7, (.string t39.1)), (8, (iv t39.2)), (42, (bv (t9.2 == 0)))] [] (fun fb => by kernel_rfl) rfl trivial ?_
 refine WL.cutV (T := Bool) 6 (fun t => [(45, (bv t)), (0, (.string p0)), (3, (sv A14 t9.1 c15)), (5, (sv A21 t16.1 c22)), (7, (.string t39.1))]) (fun t => ((t9.2 == 0) && (t39.2 == 0)) = t) (fun K => ?_) ?_
 ·
  rcases Bool.eq_false_or_eq_true (t9.2 == 0) with h44 | h44
  ·
   refine WL.setB 42 h44 rfl ?_
   refine seg 6 [] [0, 3, 5, 7, 45] [(0, (.string p0)), (3, (sv A14 t9.1 c15)), (5, (sv A21 t16.1 c22)), (7, (.string t39.1)), (45, (bv (t39.2 == 0)))] [] (fun fb => by kernel_rfl) rfl trivial ?_
   exact WL.toV K (t39.2 == 0) [45, 0, 3, 5, 7] rfl (by first | (rw [h44]; done) | (rw [h44]; rfl))
  refine WL.setB 42 h44 rfl ?_
  refine seg 6 [] [0, 3, 5, 7, 45] [(0, (.string p0)), (3, (sv A14 t9.1 c15)), (5, (sv A21 t16.1 c22)), (7, (.string t39.1)), (45, (bv false))] [] (fun fb => by kernel_rfl) rfl trivial ?_
  exact WL.toV K false [45, 0, 3, 5, 7] rfl (by first | (rw [h44]; done) | (rw [h44]; rfl))
 rintro b45 rfl
 refine seg 7 [] [0, 3, 5, 7, 46] [(0, (.string p0)), (3, (sv A14 t9.1 c15)), (5, (sv A21 t16.1 c22)), (7, (.string t39.1)), (46, (bv ((t9.2 == 0) && (t39.2 == 0))))] [] (fun fb => by kernel_rfl) rfl trivial ?_
 refine WL.cutV (T := Bool) 11 (fun t => [(50, (bv t)), (3, (sv A14 t9.1 c15)), (5, (sv A21 t16.1 c22))]) (fun t => (((t9.2 == 0) && (t39.2 == 0)) && (strEq t39.1 p0)) = t) (fun K => ?_) ?_
 ·
  rcases Bool.eq_false_or_eq_true ((t9.2 == 0) && (t39.2 == 0)) with h46 | h46
  ·
   refine WL.setB 46 h46 rfl ?_
   refine seg 9 [] [3, 5, 46, 47, 48] [(3, (sv A14 t9.1 c15)), (5, (sv A21 t16.1 c22)), (46, (bv true)), (47, (.string t39.1)), (48, (.string p0))] [] (fun fb => by kernel_rfl) rfl trivial ?_
   refine seg 10 [] [3, 5, 46, 49] [(3, (sv A14 t9.1 c15)), (5, (sv A21 t16.1 c22)), (46, (bv true)), (49, (bv (t39.1.toList == p0.toList)))] [] (fun fb => by kernel_rfl) rfl trivial ?_
   refine WL.setB 49 (strEq_raw t39.1 p0) rfl ?_
   refine seg 11 [] [3, 5, 50] [(3, (sv A14 t9.1 c15)), (5, (sv A21 t16.1 c22)), (50, (bv (strEq t39.1 p0)))] [] (fun fb => by kernel_rfl) rfl trivial ?_
   exact WL.toV K (strEq t39.1 p0) [50, 3, 5] rfl (by first | (rw [h46]; done) | (rw [h46]; rfl))
  refine WL.setB 46 h46 rfl ?_
  refine seg 11 [] [3, 5, 50] [(3, (sv A14 t9.1 c15)), (5, (sv A21 t16.1 c22)), (50, (bv false))] [] (fun fb => by kernel_rfl) rfl trivial ?_
  exact WL.toV K false [50, 3, 5] rfl (by first | (rw [h46]; done) | (rw [h46]; rfl))
 rintro b47 rfl
 refine seg 12 [] [3, 5, 51] [(3, (sv A14 t9.1 c15)), (5, (sv A21 t16.1 c22)), (51, (bv (((t9.2 == 0) && (t39.2 == 0)) && (strEq t39.1 p0))))] [] (fun fb => by kernel_rfl) rfl trivial ?_
 obtain ⟨x48, hx49, hf⟩ := bind_some hf
 refine WL.cutW (T := Bool) 16 (fun t => [(55, (bv t))]) (fun t w1 => (St NoS w w1 [gloO Tryd.prog 2 5 0 1 mG] [] ∧ x48 = t) ∧ CellsOK [] w1) (fun K => ?_) ?_
 ·
  rcases br_some hx49 with ⟨h50, hx49⟩ | ⟨h50, hx49⟩
  ·
   refine WL.setB 51 h50 rfl ?_
   refine seg 14 [] [51, 52, 53] [(51, (bv true)), (52, (sv A14 t9.1 c15)), (53, (sv A21 t16.1 c22))] [] (fun fb => by kernel_rfl) rfl trivial ?_
   obtain ⟨t51, ht52, hx49⟩ := bind_some hx49
   refine WL.call (some 54) 9 #[(sv A14 t9.1 c15), (sv A21 t16.1 c22)] (fun fb => by kernel_rfl) (ref01_SameSet_calls _ t9.1 t16.1 A14 c15 A21 c22 t51 _ (hS43.ow 1).ofO (hS43.ow 0).ofO ht52) (fun v w53 hR54 => ?_)
   obtain ⟨rfl, hk_⟩ := hR54
   have hS55 := hS43.keepN hk_
   refine ⟨trivial, ?_⟩
   refine seg 16 [] [55] [(55, (bv t51))] [] (fun fb => by kernel_rfl) rfl trivial ?_
   injection hx49 with hx49
   exact WL.to K t51 [55] rfl ⟨⟨(hS55.subR [0]).sub [] (by decide), hx49.symm⟩, trivial⟩
  refine WL.setB 51 h50 rfl ?_
  refine seg 16 [] [55] [(55, (bv false))] [] (fun fb => by kernel_rfl) rfl trivial ?_
  injection hx49 with hx49
  exact WL.to K false [55] rfl ⟨⟨(hS43.subR [0]).sub [] (by decide), hx49.symm⟩, trivial⟩
 rintro y56 w58 ⟨⟨hS59, hq57⟩, hF60⟩
 subst hq57
 refine seg 17 [] [56] [(56, (bv x48))] [] (fun fb => by kernel_rfl) rfl trivial ?_
 obtain ⟨x61, hx62, hf⟩ := bind_some hf
 refine WL.cutW (T := Bool) 19 (fun t => [(58, (bv t))]) (fun t w1 => (St NoS w w1 [gloO Tryd.prog 2 5 0 1 mG] [] ∧ x61 = t) ∧ CellsOK [] w1) (fun K => ?_) ?_
 ·
  rcases br_some hx62 with ⟨h63, hx62⟩ | ⟨h63, hx62⟩
  ·
   refine WL.setB 56 h63 rfl ?_
   obtain ⟨t65, ht66, hx62⟩ := bind_some hx62
   refine WL.call (some 57) 5 #[] (fun fb => by kernel_rfl) (law01_awake_calls _ mG t65 _ (hS59.rd 0) ht66) (fun v w67 hR68 => ?_)
   obtain ⟨rfl, hk_⟩ := hR68
   have hS69 := hS59.keepN hk_
   refine ⟨trivial, ?_⟩
   refine seg 19 [] [58] [(58, (bv t65))] [] (fun fb => by kernel_rfl) rfl trivial ?_
   injection hx62 with hx62
   exact WL.to K t65 [58] rfl ⟨⟨(hS69.subR [0]).sub [] (by decide), hx62.symm⟩, trivial⟩
  refine WL.setB 56 h63 rfl ?_
  refine seg 19 [] [58] [(58, (bv false))] [] (fun fb => by kernel_rfl) rfl trivial ?_
  injection hx62 with hx62
  exact WL.to K false [58] rfl ⟨⟨(hS59.subR [0]).sub [] (by decide), hx62.symm⟩, trivial⟩
 rintro y70 w72 ⟨⟨hS73, hq71⟩, hF74⟩
 subst hq71
 refine seg 20 [] [2] [(2, (bv x61))] [] (fun fb => by kernel_rfl) rfl trivial ?_
 refine WL.done rfl (WX.next ?_)
 refine WC.ret ?_
 injection hf with hf
 subst hf
 exact WX.ret_ [] (bv x61) [] (fun fb => by kernel_rfl) trivial ⟨_, rfl, rfl, hS73.keep⟩
end Gp
