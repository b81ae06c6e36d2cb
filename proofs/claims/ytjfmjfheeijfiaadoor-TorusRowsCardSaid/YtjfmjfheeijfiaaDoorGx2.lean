/- Walks: each function of the program computes its plain function. -/
import Derived.Test.YtjfmjfheeijfiaaDoorGx1
set_option linter.unusedVariables false
set_option linter.unusedSimpArgs false
set_option maxHeartbeats 4000000
namespace Gp
open Go Gw Go.Proofs
theorem law03_TorusRows_calls (k : Nat) (p0 : List Tile) (p1 : Int) (p2 : Int) (A_p0 : Option Addr) (c_p0 : Nat) (mG : Int) (r : Bool) (w : World) (hR0 : RO NoS w (rowR enc_Tile A_p0 c_p0 p0)) (hR1 : RO NoS w (cel ⟨2, 0, none⟩ (iv mG))) (hf : law03_TorusRows k p0 p1 p2 = some r) :
  CallsR Tryd.prog 5 #[(.slice A_p0 p0.length c_p0), (.int .u8 p1), (.int .u8 p2)] w (fun v w' => v = (.bool r) ∧ Keeps NoS w w') := by
 have hS : St NoS w w [rowR enc_Tile A_p0 c_p0 p0, cel ⟨2, 0, none⟩ (iv mG)] [] := St.init (ro_cons hR0 (ro_cons hR1 (ro_nil _ _)))
 refine enter 109 Tryd.func5 rfl Tryd.ntmps5 rfl ?_
 unfold law03_TorusRows at hf
 refine WC.seq ?_
 refine WC.region ?_
 refine seg 1 [] [0, 1, 2] [(0, (.slice A_p0 p0.length c_p0)), (1, (.int .u8 p1)), (2, (.int .u8 p2))] [] (fun fb => by kernel_rfl) rfl trivial ?_
 refine WL.done rfl ?_
 refine WX.next ?_
 refine WC.seq ?_
 refine WC.region ?_
 refine seg 10 [] [0, 7, 8] [(0, (.slice A_p0 p0.length c_p0)), (7, (iv (w64 (1 + (Int.tmod (w64 (p1)) 4))))), (8, (iv (w64 (1 + (Int.tmod (w64 (p2)) 6)))))] [.ne 4, .ne 6] (fun fb => by kernel_rfl) rfl ⟨(by decide), (by decide), trivial⟩ ?_
 refine WL.done rfl ?_
 refine WX.next ?_
 refine WC.seq ?_
 refine WC.seq ?_
 refine WC.region ?_
 refine seg 4 [] [0, 7, 8, 30] [(0, (.slice A_p0 p0.length c_p0)), (7, (iv (w64 (1 + (Int.tmod (w64 (p1)) 4))))), (8, (iv (w64 (1 + (Int.tmod (w64 (p2)) 6))))), (30, (.bool (decide ((p0.length : Int) > 6))))] [] (fun fb => by kernel_rfl) rfl trivial ?_
 obtain ⟨x610, hx611, hf⟩ := bind_some hf
 refine WL.cutW (T := Bool) 8 (fun t => [(0, (.slice A_p0 p0.length c_p0)), (7, (iv (w64 (1 + (Int.tmod (w64 (p1)) 4))))), (8, (iv (w64 (1 + (Int.tmod (w64 (p2)) 6))))), (34, (.bool t))]) (fun t w1 => (St NoS w w1 [rowR enc_Tile A_p0 c_p0 p0, cel ⟨2, 0, none⟩ (iv mG)] [] ∧ x610 = t) ∧ CellsOK [] w1) (fun K => ?_) ?_
 ·
  rcases br_some hx611 with ⟨h612, hx611⟩ | ⟨h612, hx611⟩
  ·
   refine WL.setB 30 h612 rfl ?_
   refine seg 8 [] [0, 7, 8, 34] [(0, (.slice A_p0 p0.length c_p0)), (7, (iv (w64 (1 + (Int.tmod (w64 (p1)) 4))))), (8, (iv (w64 (1 + (Int.tmod (w64 (p2)) 6))))), (34, (.bool true))] [] (fun fb => by kernel_rfl) rfl trivial ?_
   injection hx611 with hx611
   exact WL.to K true [0, 7, 8, 34] rfl ⟨⟨(hS.subR [0, 1]).sub [] (by decide), hx611.symm⟩, trivial⟩
  refine WL.setB 30 h612 rfl ?_
  refine seg 5 [] [0, 7, 8, 30, 31] [(0, (.slice A_p0 p0.length c_p0)), (7, (iv (w64 (1 + (Int.tmod (w64 (p1)) 4))))), (8, (iv (w64 (1 + (Int.tmod (w64 (p2)) 6))))), (30, (.bool false)), (31, (.slice A_p0 p0.length c_p0))] [] (fun fb => by kernel_rfl) rfl trivial ?_
  obtain ⟨t613, ht614, hx611⟩ := bind_some hx611
  refine WL.call (some 32) 15 #[(.slice A_p0 p0.length c_p0)] (fun fb => by kernel_rfl) (ref01_Valid_calls _ p0 A_p0 c_p0 t613 _ (hS.rd 0) ht614) (fun v w615 hR616 => ?_)
  obtain ⟨rfl, hk_⟩ := hR616
  have hS617 := hS.keepN hk_
  refine ⟨trivial, ?_⟩
  refine seg 8 [] [0, 7, 8, 34] [(0, (.slice A_p0 p0.length c_p0)), (7, (iv (w64 (1 + (Int.tmod (w64 (p1)) 4))))), (8, (iv (w64 (1 + (Int.tmod (w64 (p2)) 6))))), (34, (.bool (!t613)))] [] (fun fb => by kernel_rfl) rfl trivial ?_
  injection hx611 with hx611
  exact WL.to K (!t613) [0, 7, 8, 34] rfl ⟨⟨(hS617.subR [0, 1]).sub [] (by decide), hx611.symm⟩, trivial⟩
 rintro y618 w620 ⟨⟨hS621, hq619⟩, hF622⟩
 subst hq619
 refine WL.done rfl ?_
 refine WX.next ?_
 rcases br_some hf with ⟨h623, hf⟩ | ⟨h623, hf⟩
 ·refine WC.condT2 (fun fb => by kernel_rfl) h623 ?_
  refine WC.seq ?_
  refine WC.region ?_
  obtain ⟨t5698, ht5699, hf⟩ := bind_some hf
  refine WL.call (some 35) 14 #[] (fun fb => by kernel_rfl) (law03_awake_calls _ mG t5698 _ (hS621.rd 1) ht5699) (fun v w5700 hR5701 => ?_)
  obtain ⟨rfl, hk_⟩ := hR5701
  have hS5702 := hS621.keepN hk_
  refine ⟨trivial, ?_⟩
  refine seg 2 [] [6] [(6, (.bool t5698))] [] (fun fb => by kernel_rfl) rfl trivial ?_
  refine WL.done rfl ?_
  refine WX.next ?_
  refine WC.ret ?_
  injection hf with hf
  subst hf
  exact WX.thenR (WX.ret_ [] (.bool t5698) [] (fun fb => by kernel_rfl) trivial ⟨_, rfl, rfl, hS5702.keep⟩)
 refine WC.condF2 (fun fb => by kernel_rfl) h623 ?_
 refine WC.skip ?_
 refine WX.next ?_
 refine WC.seq ?_
 refine WC.region ?_
 refine seg 3 [] [0, 7, 8, 37, 38, 39] [(0, (.slice A_p0 p0.length c_p0)), (7, (iv (w64 (1 + (Int.tmod (w64 (p1)) 4))))), (8, (iv (w64 (1 + (Int.tmod (w64 (p2)) 6))))), (37, (.slice A_p0 p0.length c_p0)), (38, (iv (w64 (1 + (Int.tmod (w64 (p1)) 4))))), (39, (iv (w64 (1 + (Int.tmod (w64 (p2)) 6)))))] [] (fun fb => by kernel_rfl) rfl trivial ?_
 obtain ⟨t5703, ht5704, hf⟩ := bind_some hf
 refine WL.call (some 40) 16 #[(.slice A_p0 p0.length c_p0), (iv (w64 (1 + (Int.tmod (w64 (p1)) 4)))), (iv (w64 (1 + (Int.tmod (w64 (p2)) 6))))] (fun fb => by kernel_rfl) (torus_Find_calls _ p0 (w64 (1 + (Int.tmod (w64 (p1)) 4))) (w64 (1 + (Int.tmod (w64 (p2)) 6))) A_p0 c_p0 t5703 _ (hS621.rd 0) ht5704) (fun v w5705 hR5706 => ?_)
 obtain ⟨A5708, c5709, rfl, hk_⟩ := hR5706
 have hS5707 : St NoS w w5705 [rowR enc_Tile A_p0 c_p0 p0, cel ⟨2, 0, none⟩ (iv mG)] [rowO 3 encInt A5708 c5709 t5703.1.Cells] := hS621.call hk_ [] [] (fun g hg => hg.elim) (by simp) (by decide)
 refine ⟨trivial, ?_⟩
 refine seg 7 [] [0, 7, 8, 41, 42] [(0, (.slice A_p0 p0.length c_p0)), (7, (iv (w64 (1 + (Int.tmod (w64 (p1)) 4))))), (8, (iv (w64 (1 + (Int.tmod (w64 (p2)) 6))))), (41, (.agg #[(iv t5703.1.Width), (iv t5703.1.Height), (.slice A5708 t5703.1.Cells.length c5709)])), (42, (iv t5703.2))] [] (fun fb => by kernel_rfl) rfl trivial ?_
 refine WL.new hS5707 9 [] (fun g => (.pointer (some ⟨g, 0, none⟩))) (.cells #[(iv 0), (iv 0), (.slice none 0 0)] 27 (0, 0)) [] (fun fb g => by kernel_rfl) trivial (fun g5710 w5711 hS5712 => ?_)
 refine ⟨trivial, ?_⟩
 refine WL.store hS5712 0 rfl [(0, (iv t5703.1.Width)), (1, (iv t5703.1.Height)), (2, (.slice A5708 t5703.1.Cells.length c5709))] #[(iv t5703.1.Width), (iv t5703.1.Height), (.slice A5708 t5703.1.Cells.length c5709)] (fun fb => by kernel_rfl) (by kernel_rfl) rfl [1] (by decide) (by decide) (fun w5714 hS5715 => ?_)
 refine ⟨trivial, ?_⟩
 refine seg 10 [] [0, 7, 8, 10] [(0, (.slice A_p0 p0.length c_p0)), (7, (iv (w64 (1 + (Int.tmod (w64 (p1)) 4))))), (8, (iv (w64 (1 + (Int.tmod (w64 (p2)) 6))))), (10, (iv t5703.2))] [] (fun fb => by kernel_rfl) rfl trivial ?_
 refine WL.done rfl ?_
 refine WX.next ?_
 refine WC.seq ?_
 refine WC.seq ?_
 refine WC.region ?_
 refine seg 2 [] [0, 7, 8, 44] [(0, (.slice A_p0 p0.length c_p0)), (7, (iv (w64 (1 + (Int.tmod (w64 (p1)) 4))))), (8, (iv (w64 (1 + (Int.tmod (w64 (p2)) 6))))), (44, (.bool (t5703.2 != 0)))] [] (fun fb => by kernel_rfl) rfl trivial ?_
 refine WL.done rfl ?_
 refine WX.next ?_
 rcases br_some hf with ⟨h5716, hf⟩ | ⟨h5716, hf⟩
 ·refine WC.condT2 (fun fb => by kernel_rfl) h5716 ?_
  refine WC.seq ?_
  refine WC.region ?_
  obtain ⟨t5717, ht5718, hf⟩ := bind_some hf
  refine WL.call (some 45) 14 #[] (fun fb => by kernel_rfl) (law03_awake_calls _ mG t5717 _ (hS5715.rd 1) ht5718) (fun v w5719 hR5720 => ?_)
  obtain ⟨rfl, hk_⟩ := hR5720
  have hS5721 := hS5715.keepN hk_
  refine ⟨trivial, ?_⟩
  refine seg 2 [] [6] [(6, (.bool t5717))] [] (fun fb => by kernel_rfl) rfl trivial ?_
  refine WL.done rfl ?_
  refine WX.next ?_
  refine WC.ret ?_
  injection hf with hf
  subst hf
  exact WX.thenR (WX.ret_ [] (.bool t5717) [] (fun fb => by kernel_rfl) trivial ⟨_, rfl, rfl, hS5721.keep⟩)
 refine WC.condF2 (fun fb => by kernel_rfl) h5716 ?_
 refine WC.skip ?_
 refine WX.next ?_
 refine WC.seq ?_
 refine WC.region ?_
 refine seg 1 [] [0, 7, 8, 11] [(0, (.slice A_p0 p0.length c_p0)), (7, (iv (w64 (1 + (Int.tmod (w64 (p1)) 4))))), (8, (iv (w64 (1 + (Int.tmod (w64 (p2)) 6))))), (11, (.slice none 0 0))] [] (fun fb => by kernel_rfl) rfl trivial ?_
 refine WL.done rfl ?_
 refine WX.next ?_
 refine WC.seq ?_
 refine WC.seq ?_
 refine WC.region ?_
 refine seg 1 [] [0, 7, 8, 11, 12] [(0, (.slice A_p0 p0.length c_p0)), (7, (iv (w64 (1 + (Int.tmod (w64 (p1)) 4))))), (8, (iv (w64 (1 + (Int.tmod (w64 (p2)) 6))))), (11, (.slice none 0 0)), (12, (iv 0))] [] (fun fb => by kernel_rfl) rfl trivial ?_
 refine WL.done rfl ?_
 refine WX.next ?_
 have hS5966 := hS5715.nilrow 3 encInt
 obtain ⟨x5974, hx5975, hf⟩ := bind_some hf
 refine WC.cutN (T := (List Int) × (Option Addr) × Nat) (fun t => [(0, (.slice A_p0 p0.length c_p0)), (7, (iv (w64 (1 + (Int.tmod (w64 (p1)) 4))))), (8, (iv (w64 (1 + (Int.tmod (w64 (p2)) 6))))), (11, (.slice t.2.1 t.1.length t.2.2))]) (fun t w1 => St NoS w w1 [rowR enc_Tile A_p0 c_p0 p0, cel ⟨2, 0, none⟩ (iv mG)] [rowO 3 encInt t.2.1 t.2.2 t.1] ∧ x5974 = t.1) (fun Kx5974 => ?_) ?_
 ·
  refine WC.block ?_
  refine WC.loop (T := ((List Int) × Int) × (Option Addr) × Nat) (fun t => [(0, (.slice A_p0 p0.length c_p0)), (7, (iv (w64 (1 + (Int.tmod (w64 (p1)) 4))))), (8, (iv (w64 (1 + (Int.tmod (w64 (p2)) 6))))), (11, (.slice t.2.1 t.1.1.length t.2.2)), (12, (iv t.1.2))]) (fun n t w1 => St NoS w w1 [rowR enc_Tile A_p0 c_p0 p0, cel ⟨2, 0, none⟩ (iv mG)] [rowO 3 encInt t.2.1 t.2.2 t.1.1] ∧ law03_TorusRows.l0 n t.1.1 t.1.2 p0 = some x5974) k ((([] : List Int), 0), none, 0) [0, 7, 8, 11, 12] rfl ⟨(hS5966.subR [0, 1]).sub [0] (by decide), hx5975⟩ ?_
  rintro k5976 ⟨⟨l5969, x5970⟩, A5967, c5968⟩ w5977 ⟨hS5978, hl5979⟩
  cases k5976 with
  | zero => rw [law03_TorusRows.l0] at hl5979; cases hl5979
  | succ k5976 =>
   rw [law03_TorusRows.l0] at hl5979
   refine WC.seq ?_
   refine WC.seq ?_
   refine WC.region ?_
   refine seg 4 [] [0, 7, 8, 11, 12, 49] [(0, (.slice A_p0 p0.length c_p0)), (7, (iv (w64 (1 + (Int.tmod (w64 (p1)) 4))))), (8, (iv (w64 (1 + (Int.tmod (w64 (p2)) 6))))), (11, (.slice A5967 l5969.length c5968)), (12, (iv x5970)), (49, (.bool (decide (x5970 < (p0.length : Int)))))] [] (fun fb => by kernel_rfl) rfl trivial ?_
   refine WL.done rfl ?_
   refine WX.next ?_
   rcases br_some hl5979 with ⟨h5980, hl5979⟩ | ⟨h5980, hl5979⟩
   ·refine WC.condT2 (fun fb => by kernel_rfl) h5980 ?_
    refine WC.skip ?_
    refine WX.next ?_
    refine WC.seq ?_
    refine WC.block ?_
    refine WC.seq ?_
    refine WC.region ?_
    refine seg 1 [] [0, 7, 8, 11, 12, 13] [(0, (.slice A_p0 p0.length c_p0)), (7, (iv (w64 (1 + (Int.tmod (w64 (p1)) 4))))), (8, (iv (w64 (1 + (Int.tmod (w64 (p2)) 6))))), (11, (.slice A5967 l5969.length c5968)), (12, (iv x5970)), (13, (.bool false))] [] (fun fb => by kernel_rfl) rfl trivial ?_
    refine WL.done rfl ?_
    refine WX.next ?_
    refine WC.seq ?_
    refine WC.seq ?_
    refine WC.region ?_
    refine seg 1 [] [0, 7, 8, 11, 12, 13, 14] [(0, (.slice A_p0 p0.length c_p0)), (7, (iv (w64 (1 + (Int.tmod (w64 (p1)) 4))))), (8, (iv (w64 (1 + (Int.tmod (w64 (p2)) 6))))), (11, (.slice A5967 l5969.length c5968)), (12, (iv x5970)), (13, (.bool false)), (14, (iv 0))] [] (fun fb => by kernel_rfl) rfl trivial ?_
    refine WL.done rfl ?_
    refine WX.next ?_
    obtain ⟨x6025, hx6026, hl5979⟩ := bind_some hl5979
    refine WC.cutN (T := Bool) (fun t => [(0, (.slice A_p0 p0.length c_p0)), (7, (iv (w64 (1 + (Int.tmod (w64 (p1)) 4))))), (8, (iv (w64 (1 + (Int.tmod (w64 (p2)) 6))))), (11, (.slice A5967 l5969.length c5968)), (12, (iv x5970)), (13, (.bool t))]) (fun t w1 => St NoS w w1 [rowR enc_Tile A_p0 c_p0 p0, cel ⟨2, 0, none⟩ (iv mG)] [rowO 3 encInt A5967 c5968 l5969] ∧ x6025 = t) (fun Kx6025 => ?_) ?_
    ·
     refine WC.block ?_
     refine WC.loop (T := Bool × Int) (fun t => [(0, (.slice A_p0 p0.length c_p0)), (7, (iv (w64 (1 + (Int.tmod (w64 (p1)) 4))))), (8, (iv (w64 (1 + (Int.tmod (w64 (p2)) 6))))), (11, (.slice A5967 l5969.length c5968)), (12, (iv x5970)), (13, (.bool t.1)), (14, (iv t.2))]) (fun n t w1 => St NoS w w1 [rowR enc_Tile A_p0 c_p0 p0, cel ⟨2, 0, none⟩ (iv mG)] [rowO 3 encInt A5967 c5968 l5969] ∧ law03_TorusRows.l1 n t.1 t.2 p0 l5969 x5970 = some x6025) k5976 (false, 0) [0, 7, 8, 11, 12, 13, 14] rfl ⟨(hS5978.subR [0, 1]).sub [0] (by decide), hx6026⟩ ?_
     rintro k6027 ⟨b6022, x6023⟩ w6028 ⟨hS6029, hl6030⟩
     cases k6027 with
     | zero => rw [law03_TorusRows.l1] at hl6030; cases hl6030
     | succ k6027 =>
      rw [law03_TorusRows.l1] at hl6030
      refine WC.seq ?_
      refine WC.seq ?_
      refine WC.region ?_
      refine seg 4 [] [0, 7, 8, 11, 12, 13, 14, 55] [(0, (.slice A_p0 p0.length c_p0)), (7, (iv (w64 (1 + (Int.tmod (w64 (p1)) 4))))), (8, (iv (w64 (1 + (Int.tmod (w64 (p2)) 6))))), (11, (.slice A5967 l5969.length c5968)), (12, (iv x5970)), (13, (.bool b6022)), (14, (iv x6023)), (55, (.bool (decide (x6023 < (l5969.length : Int)))))] [] (fun fb => by kernel_rfl) rfl trivial ?_
      refine WL.done rfl ?_
      refine WX.next ?_
      rcases br_some hl6030 with ⟨h6031, hl6030⟩ | ⟨h6031, hl6030⟩
      ·refine WC.condT2 (fun fb => by kernel_rfl) h6031 ?_
       refine WC.skip ?_
       refine WX.next ?_
       refine WC.seq ?_
       refine WC.block ?_
       obtain ⟨x6044, hx6045, hl6030⟩ := bind_some hl6030
       refine WC.cutN (T := Bool) (fun t => [(0, (.slice A_p0 p0.length c_p0)), (7, (iv (w64 (1 + (Int.tmod (w64 (p1)) 4))))), (8, (iv (w64 (1 + (Int.tmod (w64 (p2)) 6))))), (11, (.slice A5967 l5969.length c5968)), (12, (iv x5970)), (13, (.bool t)), (14, (iv x6023))]) (fun t w1 => St NoS w w1 [rowR enc_Tile A_p0 c_p0 p0, cel ⟨2, 0, none⟩ (iv mG)] [rowO 3 encInt A5967 c5968 l5969] ∧ x6044 = t) (fun Kx6044 => ?_) ?_
       ·
        rcases br_some hx6045 with ⟨h6046, hx6045⟩ | ⟨h6046, hx6045⟩
        ·
         refine WC.regionD ([], [0, 1, 2, 3, 4, 5, 6, 7, 8, 9, 10, 11, 12, 13], [[], [0], [0, 1], [0, 1], [0, 1, 2, 3], [0, 1, 2, 3, 4], [0, 1], [0, 1], [0, 1, 6, 7], [0, 1, 6, 7, 8], [0, 1, 6, 7, 8, 9], [0, 1, 2, 3, 4, 5, 6, 7, 8, 9, 10], [0, 1, 2, 3, 4, 5, 6, 7, 8, 9, 10, 11], [0, 1, 2, 3, 4, 5, 6, 7, 8, 9, 10, 11, 12]]) [[0, 1, 2, 3, 4, 5, 6, 7, 8, 9, 10, 11, 12, 13]] (by kernel_rfl) (by kernel_rfl) (NoPanic.block (NoPanic.seq (NoPanic.seq (NoPanic.block (NoPanic.seq (NoPanic.block (NoPanic.seq (NoPanic.seq (NoPanic.block (NoPanic.seq (NoPanic.body))))))))))) ?_
         have hS6048 := hS6029.drew
         revert hS6048
         generalize World.drew w6028 = w6047
         intro hS6048
         refine ⟨trivial, forallC ?_ (forallN)⟩
         refine seg 2 [] [0, 7, 8, 11, 12, 14, 59] [(0, (.slice A_p0 p0.length c_p0)), (7, (iv (w64 (1 + (Int.tmod (w64 (p1)) 4))))), (8, (iv (w64 (1 + (Int.tmod (w64 (p2)) 6))))), (11, (.slice A5967 l5969.length c5968)), (12, (iv x5970)), (14, (iv x6023)), (59, (.bool b6022))] [] (fun fb => by kernel_rfl) rfl trivial ?_
         refine WL.setB 59 h6046 rfl ?_
         refine seg 14 [] [0, 7, 8, 11, 12, 13, 14] [(0, (.slice A_p0 p0.length c_p0)), (7, (iv (w64 (1 + (Int.tmod (w64 (p1)) 4))))), (8, (iv (w64 (1 + (Int.tmod (w64 (p2)) 6))))), (11, (.slice A5967 l5969.length c5968)), (12, (iv x5970)), (13, (.bool true)), (14, (iv x6023))] [] (fun fb => by kernel_rfl) rfl trivial ?_
         refine WL.done rfl ?_
         injection hx6045 with hx6045
         exact WX.to Kx6044 true [0, 7, 8, 11, 12, 13, 14] rfl ⟨(hS6048.subR [0, 1]).sub [0] (by decide), hx6045.symm⟩
        obtain ⟨h6055, hx6045⟩ := as_some hx6045
        obtain ⟨h6056, hx6045⟩ := as_some hx6045
        refine WC.regionD ([(5, ((adr A5967).add ((x6023).toNat * 1)), (iv (rdD l5969 x6023 0))), (10, (((adr A_p0).add ((x5970).toNat * 4)).add 2), (iv ((rdD p0 x5970 z_Tile).S)))], [0, 1, 2, 3, 4, 5, 6, 7, 8, 9, 10, 11, 12, 13], [[], [0], [0, 1], [0, 1], [0, 1, 2, 3], [0, 1, 2, 3, 4], [0, 1], [0, 1], [0, 1, 6, 7], [0, 1, 6, 7, 8], [0, 1, 6, 7, 8, 9], [0, 1, 2, 3, 4, 5, 6, 7, 8, 9, 10], [0, 1, 2, 3, 4, 5, 6, 7, 8, 9, 10, 11], [0, 1, 2, 3, 4, 5, 6, 7, 8, 9, 10, 11, 12]]) [[0, 1, 2, 3, 4, 5, 6, 7, 8, 9, 10, 11, 12, 13]] (by kernel_rfl) (by kernel_rfl) (NoPanic.block (NoPanic.seq (NoPanic.seq (NoPanic.block (NoPanic.seq (NoPanic.block (NoPanic.seq (NoPanic.seq (NoPanic.block (NoPanic.seq (NoPanic.body))))))))))) ?_
        have hS6052 := hS6029.drew
        revert hS6052
        generalize World.drew w6028 = w6051
        intro hS6052
        refine ⟨⟨rowR.cell (rowO.rd (hS6052.own 0).1) 0 h6055.1 h6055.2 0 rfl, rowR.cell (hS6052.rd 0).1 z_Tile h6056.1 h6056.2 2 rfl, trivial⟩, forallC ?_ (forallN)⟩
        refine seg 2 [] [0, 7, 8, 11, 12, 14, 59] [(0, (.slice A_p0 p0.length c_p0)), (7, (iv (w64 (1 + (Int.tmod (w64 (p1)) 4))))), (8, (iv (w64 (1 + (Int.tmod (w64 (p2)) 6))))), (11, (.slice A5967 l5969.length c5968)), (12, (iv x5970)), (14, (iv x6023)), (59, (.bool b6022))] [] (fun fb => by kernel_rfl) rfl trivial ?_
        refine WL.setB 59 h6046 rfl ?_
        refine segF 14 [.v (iv (rdD l5969 x6023 0)), .v (iv ((rdD p0 x5970 z_Tile).S))] [0, 7, 8, 11, 12, 13, 14] [(0, (.slice A_p0 p0.length c_p0)), (7, (iv (w64 (1 + (Int.tmod (w64 (p1)) 4))))), (8, (iv (w64 (1 + (Int.tmod (w64 (p2)) 6))))), (11, (.slice A5967 l5969.length c5968)), (12, (iv x5970)), (13, (.bool ((rdD l5969 x6023 0) == ((rdD p0 x5970 z_Tile).S)))), (14, (iv x6023))] [.idx A5967 x6023 l5969.length, .idx A_p0 x5970 p0.length] [0, 1] [(5, ((adr A5967).add ((x6023).toNat * 1)), (iv (rdD l5969 x6023 0))), (10, (((adr A_p0).add ((x5970).toNat * 4)).add 2), (iv ((rdD p0 x5970 z_Tile).S)))] (fun fb => by kernel_rfl) rfl ⟨rowR.adr (rowO.rd (hS6052.own 0).1) h6055.1 h6055.2, rowR.adr (hS6052.rd 0).1 h6056.1 h6056.2, trivial⟩ rfl ?_
        refine WL.done rfl ?_
        injection hx6045 with hx6045
        exact WX.to Kx6044 ((rdD l5969 x6023 0) == ((rdD p0 x5970 z_Tile).S)) [0, 7, 8, 11, 12, 13, 14] rfl ⟨(hS6052.subR [0, 1]).sub [0] (by decide), hx6045.symm⟩
       rintro y6060 w6057 ⟨hS6058, hq6059⟩
       subst hq6059
       refine WX.blockN (WX.next ?_)
       refine WC.region ?_
       refine seg 3 [] [0, 7, 8, 11, 12, 13, 14] [(0, (.slice A_p0 p0.length c_p0)), (7, (iv (w64 (1 + (Int.tmod (w64 (p1)) 4))))), (8, (iv (w64 (1 + (Int.tmod (w64 (p2)) 6))))), (11, (.slice A5967 l5969.length c5968)), (12, (iv x5970)), (13, (.bool x6044)), (14, (iv (w64 (x6023 + 1))))] [] (fun fb => by kernel_rfl) rfl trivial ?_
       refine WL.done rfl ?_
       exact WX.again k6027 (Nat.lt_succ_self _) (x6044, w64 (x6023 + 1)) [0, 7, 8, 11, 12, 13, 14] rfl ⟨(hS6058.subR [0, 1]).sub [0] (by decide), hl6030⟩
      refine WC.condF2 (fun fb => by kernel_rfl) h6031 ?_
      refine WC.exit ?_
      injection hl6030 with hl6030
      exact WX.thenX (WX.thenX (WX.blockHere (WX.to Kx6025 b6022 [0, 7, 8, 11, 12, 13] rfl ⟨(hS6029.subR [0, 1]).sub [0] (by decide), hl6030.symm⟩)))
    rintro y6064 w6061 ⟨hS6062, hq6063⟩
    subst hq6063
    refine WX.next ?_
    refine WC.seq ?_
    refine WC.region ?_
    refine seg 2 [] [0, 7, 8, 11, 12, 72] [(0, (.slice A_p0 p0.length c_p0)), (7, (iv (w64 (1 + (Int.tmod (w64 (p1)) 4))))), (8, (iv (w64 (1 + (Int.tmod (w64 (p2)) 6))))), (11, (.slice A5967 l5969.length c5968)), (12, (iv x5970)), (72, (.bool (!x6025)))] [] (fun fb => by kernel_rfl) rfl trivial ?_
    refine WL.done rfl ?_
    refine WX.next ?_
    obtain ⟨x6080, hx6081, hl5979⟩ := bind_some hl5979
    refine WC.cutN (T := (List Int) × (Option Addr) × Nat) (fun t => [(0, (.slice A_p0 p0.length c_p0)), (7, (iv (w64 (1 + (Int.tmod (w64 (p1)) 4))))), (8, (iv (w64 (1 + (Int.tmod (w64 (p2)) 6))))), (11, (.slice t.2.1 t.1.length t.2.2)), (12, (iv x5970))]) (fun t w1 => St NoS w w1 [rowR enc_Tile A_p0 c_p0 p0, cel ⟨2, 0, none⟩ (iv mG)] [rowO 3 encInt t.2.1 t.2.2 t.1] ∧ x6080 = t.1) (fun Kx6080 => ?_) ?_
    ·
     rcases br_some hx6081 with ⟨h6082, hx6081⟩ | ⟨h6082, hx6081⟩
     ·refine WC.condT2 (fun fb => by kernel_rfl) h6082 ?_
      refine WC.region ?_
      refine seg 3 [] [0, 7, 8, 12, 73, 74, 75] [(0, (.slice A_p0 p0.length c_p0)), (7, (iv (w64 (1 + (Int.tmod (w64 (p1)) 4))))), (8, (iv (w64 (1 + (Int.tmod (w64 (p2)) 6))))), (12, (iv x5970)), (73, (.slice A5967 l5969.length c5968)), (74, (.slice A_p0 p0.length c_p0)), (75, (iv x5970))] [] (fun fb => by kernel_rfl) rfl trivial ?_
      obtain ⟨h6083, hx6081⟩ := as_some hx6081
      refine seg 6 [.v (iv ((rdD p0 x5970 z_Tile).S))] [0, 7, 8, 12, 73, 78] [(0, (.slice A_p0 p0.length c_p0)), (7, (iv (w64 (1 + (Int.tmod (w64 (p1)) 4))))), (8, (iv (w64 (1 + (Int.tmod (w64 (p2)) 6))))), (12, (iv x5970)), (73, (.slice A5967 l5969.length c5968)), (78, (iv ((rdD p0 x5970 z_Tile).S)))] [.idx A_p0 x5970 p0.length, .cell (((adr A_p0).add ((x5970).toNat * 4)).add 2) (iv ((rdD p0 x5970 z_Tile).S))] (fun fb => by kernel_rfl) rfl ⟨rowR.adr (hS6062.rd 0).1 h6083.1 h6083.2, rowR.cell (hS6062.rd 0).1 z_Tile h6083.1 h6083.2 2 rfl, trivial⟩ ?_
      refine WL.new hS6062 79 [] (fun g => (.slice (some ⟨g, 0, none⟩) 1 1)) (.cells #[(iv ((rdD p0 x5970 z_Tile).S))] 3 (0, 0)) [] (fun fb g => by kernel_rfl) trivial (fun g6084 w6085 hS6086 => ?_)
      refine ⟨trivial, ?_⟩
      have hS6088 : St NoS w w6085 [rowR enc_Tile A_p0 c_p0 p0, cel ⟨2, 0, none⟩ (iv mG)] [rowO 3 encInt (some ⟨g6084, 0, none⟩) 1 [(rdD p0 x5970 z_Tile).S], rowO 3 encInt A5967 c5968 l5969] := hS6086.map1 0 _ (fun h => rowO.ofBlk h rfl (Nat.le_of_ble_eq_true (by kernel_rfl))) (fun _ h => by obtain ⟨_, h1, h2⟩ := h; injection h1 with h1; subst h1; exact h2) [1] (by decide) (by decide)
      obtain ⟨h6089, hx6081⟩ := as_some hx6081
      refine WL.append hS6088 1 (d := 80) (tS := 25) (z := (iv 0)) (bytes := 8) (c2 := 1) rfl (fun fb => by kernel_rfl) (rowO.rd (hS6088.own 0).1) (by kernel_rfl) (by kernel_rfl) rfl (by decide) h6089 (by decide) [0] (by decide) (by decide) (fun A6090 c6091 w6092 hS6093 => ?_)
      refine ⟨trivial, ?_⟩
      refine seg 9 [] [0, 7, 8, 11, 12] [(0, (.slice A_p0 p0.length c_p0)), (7, (iv (w64 (1 + (Int.tmod (w64 (p1)) 4))))), (8, (iv (w64 (1 + (Int.tmod (w64 (p2)) 6))))), (11, (.slice A6090 (l5969 ++ [(rdD p0 x5970 z_Tile).S]).length c6091)), (12, (iv x5970))] [] (fun fb => by kernel_rfl) rfl trivial ?_
      refine WL.done rfl ?_
      injection hx6081 with hx6081
      exact WX.to Kx6080 (l5969 ++ [(rdD p0 x5970 z_Tile).S], A6090, c6091) [0, 7, 8, 11, 12] rfl ⟨(hS6093.subR [0, 1]).sub [0] (by decide), hx6081.symm⟩
     refine WC.condF2 (fun fb => by kernel_rfl) h6082 ?_
     refine WC.skip ?_
     injection hx6081 with hx6081
     exact WX.to Kx6080 (l5969, A5967, c5968) [0, 7, 8, 11, 12] rfl ⟨(hS6062.subR [0, 1]).sub [0] (by decide), hx6081.symm⟩
    rintro ⟨y6097, A6077, c6078⟩ w6094 ⟨hS6095, hq6096⟩
    subst hq6096
    refine WX.blockN (WX.next ?_)
    refine WC.region ?_
    refine seg 3 [] [0, 7, 8, 11, 12] [(0, (.slice A_p0 p0.length c_p0)), (7, (iv (w64 (1 + (Int.tmod (w64 (p1)) 4))))), (8, (iv (w64 (1 + (Int.tmod (w64 (p2)) 6))))), (11, (.slice A6077 x6080.length c6078)), (12, (iv (w64 (x5970 + 1))))] [] (fun fb => by kernel_rfl) rfl trivial ?_
    refine WL.done rfl ?_
    exact WX.again k5976 (Nat.lt_succ_self _) ((x6080, w64 (x5970 + 1)), A6077, c6078) [0, 7, 8, 11, 12] rfl ⟨(hS6095.subR [0, 1]).sub [0] (by decide), hl5979⟩
   refine WC.condF2 (fun fb => by kernel_rfl) h5980 ?_
   refine WC.exit ?_
   injection hl5979 with hl5979
   exact WX.thenX (WX.thenX (WX.blockHere (WX.to Kx5974 (l5969, A5967, c5968) [0, 7, 8, 11] rfl ⟨(hS5978.subR [0, 1]).sub [0] (by decide), hl5979.symm⟩)))
 rintro ⟨y6101, A5971, c5972⟩ w6098 ⟨hS6099, hq6100⟩
 subst hq6100
 refine WX.next ?_
 refine WC.seq ?_
 refine WC.region ?_
 refine seg 3 [] [0, 7, 8, 82, 83] [(0, (.slice A_p0 p0.length c_p0)), (7, (iv (w64 (1 + (Int.tmod (w64 (p1)) 4))))), (8, (iv (w64 (1 + (Int.tmod (w64 (p2)) 6))))), (82, (iv (x5974.length : Int))), (83, (iv (w64 (1 + (Int.tmod (w64 (p1)) 4)))))] [] (fun fb => by kernel_rfl) rfl trivial ?_
 obtain ⟨t6120, ht6121, hf⟩ := bind_some hf
 refine WL.call (some 84) 24 #[(iv (x5974.length : Int)), (iv (w64 (1 + (Int.tmod (w64 (p1)) 4))))] (fun fb => by kernel_rfl) (ref02_Power_calls _ (x5974.length : Int) (w64 (1 + (Int.tmod (w64 (p1)) 4))) t6120 _ ht6121) (fun v w6122 hR6123 => ?_)
 obtain ⟨rfl, hk_⟩ := hR6123
 have hS6124 := hS6099.keepN hk_
 refine ⟨trivial, ?_⟩
 refine seg 5 [] [0, 7, 8, 15] [(0, (.slice A_p0 p0.length c_p0)), (7, (iv (w64 (1 + (Int.tmod (w64 (p1)) 4))))), (8, (iv (w64 (1 + (Int.tmod (w64 (p2)) 6))))), (15, (iv t6120))] [] (fun fb => by kernel_rfl) rfl trivial ?_
 refine WL.done rfl ?_
 refine WX.next ?_
 refine WC.seq ?_
 refine WC.seq ?_
 refine WC.region ?_
 refine seg 1 [] [0, 7, 8, 15, 16] [(0, (.slice A_p0 p0.length c_p0)), (7, (iv (w64 (1 + (Int.tmod (w64 (p1)) 4))))), (8, (iv (w64 (1 + (Int.tmod (w64 (p2)) 6))))), (15, (iv t6120)), (16, (iv 1))] [] (fun fb => by kernel_rfl) rfl trivial ?_
 refine WL.done rfl ?_
 refine WX.next ?_
 obtain ⟨x6175, hx6176, hf⟩ := bind_some hf
 refine WC.cutN (T := Unit) (fun t => []) (fun t w1 => St NoS w w1 [rowR enc_Tile A_p0 c_p0 p0, cel ⟨2, 0, none⟩ (iv mG)] [] ∧ x6175 = .inr t) (fun Kx6175 => ?_) ?_
 ·
  refine WC.block ?_
  refine WC.loop (T := Int) (fun t => [(0, (.slice A_p0 p0.length c_p0)), (7, (iv (w64 (1 + (Int.tmod (w64 (p1)) 4))))), (8, (iv (w64 (1 + (Int.tmod (w64 (p2)) 6))))), (15, (iv t6120)), (16, (iv t))]) (fun n t w1 => St NoS w w1 [rowR enc_Tile A_p0 c_p0 p0, cel ⟨2, 0, none⟩ (iv mG)] [] ∧ law03_TorusRows.l2 n t p0 p1 p2 t6120 = some x6175) k 1 [0, 7, 8, 15, 16] rfl ⟨(hS6124.subR [0, 1]).sub [] (by decide), hx6176⟩ ?_
  rintro k6177 x6174 w6178 ⟨hS6179, hl6180⟩
  cases k6177 with
  | zero => rw [law03_TorusRows.l2] at hl6180; cases hl6180
  | succ k6177 =>
   rw [law03_TorusRows.l2] at hl6180
   refine WC.seq ?_
   refine WC.seq ?_
   refine WC.region ?_
   refine seg 4 [] [0, 7, 8, 15, 16, 88] [(0, (.slice A_p0 p0.length c_p0)), (7, (iv (w64 (1 + (Int.tmod (w64 (p1)) 4))))), (8, (iv (w64 (1 + (Int.tmod (w64 (p2)) 6))))), (15, (iv t6120)), (16, (iv x6174)), (88, (.bool (decide (x6174 ≤ t6120))))] [] (fun fb => by kernel_rfl) rfl trivial ?_
   refine WL.cutV (T := Bool) 8 (fun t => [(92, (.bool t)), (0, (.slice A_p0 p0.length c_p0)), (7, (iv (w64 (1 + (Int.tmod (w64 (p1)) 4))))), (8, (iv (w64 (1 + (Int.tmod (w64 (p2)) 6))))), (15, (iv t6120)), (16, (iv x6174))]) (fun t => ((decide (x6174 ≤ t6120)) && (decide (x6174 ≤ w64 (1 + (Int.tmod (w64 (p2)) 6))))) = t) (fun K => ?_) ?_
   ·
    rcases Bool.eq_false_or_eq_true (decide (x6174 ≤ t6120)) with h6181 | h6181
    ·
     refine WL.setB 88 h6181 rfl ?_
     refine seg 8 [] [0, 7, 8, 15, 16, 92] [(0, (.slice A_p0 p0.length c_p0)), (7, (iv (w64 (1 + (Int.tmod (w64 (p1)) 4))))), (8, (iv (w64 (1 + (Int.tmod (w64 (p2)) 6))))), (15, (iv t6120)), (16, (iv x6174)), (92, (.bool (decide (x6174 ≤ w64 (1 + (Int.tmod (w64 (p2)) 6))))))] [] (fun fb => by kernel_rfl) rfl trivial ?_
     exact WL.toV K (decide (x6174 ≤ w64 (1 + (Int.tmod (w64 (p2)) 6)))) [92, 0, 7, 8, 15, 16] rfl (by first | (rw [h6181]; done) | (rw [h6181]; rfl))
    refine WL.setB 88 h6181 rfl ?_
    refine seg 8 [] [0, 7, 8, 15, 16, 92] [(0, (.slice A_p0 p0.length c_p0)), (7, (iv (w64 (1 + (Int.tmod (w64 (p1)) 4))))), (8, (iv (w64 (1 + (Int.tmod (w64 (p2)) 6))))), (15, (iv t6120)), (16, (iv x6174)), (92, (.bool false))] [] (fun fb => by kernel_rfl) rfl trivial ?_
    exact WL.toV K false [92, 0, 7, 8, 15, 16] rfl (by first | (rw [h6181]; done) | (rw [h6181]; rfl))
   rintro b6182 rfl
   refine WL.done rfl ?_
   refine WX.next ?_
   rcases br_some hl6180 with ⟨h6183, hl6180⟩ | ⟨h6183, hl6180⟩
   ·refine WC.condT2 (fun fb => by kernel_rfl) h6183 ?_
    refine WC.skip ?_
    refine WX.next ?_
    refine WC.seq ?_
    refine WC.block ?_
    refine WC.seq ?_
    refine WC.region ?_
    refine seg 3 [] [0, 7, 8, 15, 16, 96, 97, 98] [(0, (.slice A_p0 p0.length c_p0)), (7, (iv (w64 (1 + (Int.tmod (w64 (p1)) 4))))), (8, (iv (w64 (1 + (Int.tmod (w64 (p2)) 6))))), (15, (iv t6120)), (16, (iv x6174)), (96, (.slice A_p0 p0.length c_p0)), (97, (iv (w64 (1 + (Int.tmod (w64 (p1)) 4))))), (98, (iv x6174))] [] (fun fb => by kernel_rfl) rfl trivial ?_
    obtain ⟨t6184, ht6185, hl6180⟩ := bind_some hl6180
    refine WL.call (some 99) 16 #[(.slice A_p0 p0.length c_p0), (iv (w64 (1 + (Int.tmod (w64 (p1)) 4)))), (iv x6174)] (fun fb => by kernel_rfl) (torus_Find_calls _ p0 (w64 (1 + (Int.tmod (w64 (p1)) 4))) x6174 A_p0 c_p0 t6184 _ (hS6179.rd 0) ht6185) (fun v w6186 hR6187 => ?_)
    obtain ⟨A6189, c6190, rfl, hk_⟩ := hR6187
    have hS6188 : St NoS w w6186 [rowR enc_Tile A_p0 c_p0 p0, cel ⟨2, 0, none⟩ (iv mG)] [rowO 3 encInt A6189 c6190 t6184.1.Cells] := hS6179.call hk_ [] [] (fun g hg => hg.elim) (by simp) (by decide)
    refine ⟨trivial, ?_⟩
    refine seg 7 [] [0, 7, 8, 15, 16, 100, 101] [(0, (.slice A_p0 p0.length c_p0)), (7, (iv (w64 (1 + (Int.tmod (w64 (p1)) 4))))), (8, (iv (w64 (1 + (Int.tmod (w64 (p2)) 6))))), (15, (iv t6120)), (16, (iv x6174)), (100, (.agg #[(iv t6184.1.Width), (iv t6184.1.Height), (.slice A6189 t6184.1.Cells.length c6190)])), (101, (iv t6184.2))] [] (fun fb => by kernel_rfl) rfl trivial ?_
    refine WL.new hS6188 17 [] (fun g => (.pointer (some ⟨g, 0, none⟩))) (.cells #[(iv 0), (iv 0), (.slice none 0 0)] 27 (0, 0)) [] (fun fb g => by kernel_rfl) trivial (fun g6191 w6192 hS6193 => ?_)
    refine ⟨trivial, ?_⟩
    refine WL.store hS6193 0 rfl [(0, (iv t6184.1.Width)), (1, (iv t6184.1.Height)), (2, (.slice A6189 t6184.1.Cells.length c6190))] #[(iv t6184.1.Width), (iv t6184.1.Height), (.slice A6189 t6184.1.Cells.length c6190)] (fun fb => by kernel_rfl) (by kernel_rfl) rfl [1] (by decide) (by decide) (fun w6195 hS6196 => ?_)
    refine ⟨trivial, ?_⟩
    refine seg 10 [] [0, 7, 8, 15, 16, 18] [(0, (.slice A_p0 p0.length c_p0)), (7, (iv (w64 (1 + (Int.tmod (w64 (p1)) 4))))), (8, (iv (w64 (1 + (Int.tmod (w64 (p2)) 6))))), (15, (iv t6120)), (16, (iv x6174)), (18, (iv t6184.2))] [] (fun fb => by kernel_rfl) rfl trivial ?_
    refine WL.done rfl ?_
    refine WX.next ?_
    refine WC.seq ?_
    refine WC.region ?_
    refine seg 3 [] [0, 7, 8, 15, 16, 18, 104] [(0, (.slice A_p0 p0.length c_p0)), (7, (iv (w64 (1 + (Int.tmod (w64 (p1)) 4))))), (8, (iv (w64 (1 + (Int.tmod (w64 (p2)) 6))))), (15, (iv t6120)), (16, (iv x6174)), (18, (iv t6184.2)), (104, (.bool (t6184.2 == 0)))] [] (fun fb => by kernel_rfl) rfl trivial ?_
    refine WL.cutV (T := Bool) 6 (fun t => [(107, (.bool t)), (0, (.slice A_p0 p0.length c_p0)), (7, (iv (w64 (1 + (Int.tmod (w64 (p1)) 4))))), (8, (iv (w64 (1 + (Int.tmod (w64 (p2)) 6))))), (15, (iv t6120)), (16, (iv x6174))]) (fun t => ((t6184.2 == 0) || (t6184.2 == 4)) = t) (fun K => ?_) ?_
    ·
     rcases Bool.eq_false_or_eq_true (t6184.2 == 0) with h6197 | h6197
     ·
      refine WL.setB 104 h6197 rfl ?_
      refine seg 6 [] [0, 7, 8, 15, 16, 107] [(0, (.slice A_p0 p0.length c_p0)), (7, (iv (w64 (1 + (Int.tmod (w64 (p1)) 4))))), (8, (iv (w64 (1 + (Int.tmod (w64 (p2)) 6))))), (15, (iv t6120)), (16, (iv x6174)), (107, (.bool true))] [] (fun fb => by kernel_rfl) rfl trivial ?_
      exact WL.toV K true [107, 0, 7, 8, 15, 16] rfl (by first | (rw [h6197]; done) | (rw [h6197]; rfl))
     refine WL.setB 104 h6197 rfl ?_
     refine seg 6 [] [0, 7, 8, 15, 16, 107] [(0, (.slice A_p0 p0.length c_p0)), (7, (iv (w64 (1 + (Int.tmod (w64 (p1)) 4))))), (8, (iv (w64 (1 + (Int.tmod (w64 (p2)) 6))))), (15, (iv t6120)), (16, (iv x6174)), (107, (.bool (t6184.2 == 4)))] [] (fun fb => by kernel_rfl) rfl trivial ?_
     exact WL.toV K (t6184.2 == 4) [107, 0, 7, 8, 15, 16] rfl (by first | (rw [h6197]; done) | (rw [h6197]; rfl))
    rintro b6198 rfl
    refine WL.done rfl ?_
    refine WX.next ?_
    rcases br_some hl6180 with ⟨h6199, hl6180⟩ | ⟨h6199, hl6180⟩
    ·refine WC.condT2 (fun fb => by kernel_rfl) h6199 ?_
     refine WC.seq ?_
     refine WC.region ?_
     obtain ⟨t6200, ht6201, hl6180⟩ := bind_some hl6180
     refine WL.call (some 108) 14 #[] (fun fb => by kernel_rfl) (law03_awake_calls _ mG t6200 _ (hS6196.rd 1) ht6201) (fun v w6202 hR6203 => ?_)
     obtain ⟨rfl, hk_⟩ := hR6203
     have hS6204 := hS6196.keepN hk_
     refine ⟨trivial, ?_⟩
     refine seg 2 [] [6] [(6, (.bool t6200))] [] (fun fb => by kernel_rfl) rfl trivial ?_
     refine WL.done rfl ?_
     refine WX.next ?_
     refine WC.ret ?_
     injection hl6180 with hl6180
     subst hl6180
     injection hf with hf
     subst hf
     exact WX.blockR (WX.thenR (WX.thenR (WX.blockR (WX.thenR (WX.ret_ [] (.bool t6200) [] (fun fb => by kernel_rfl) trivial ⟨_, rfl, rfl, hS6204.keep⟩)))))
    refine WC.condF2 (fun fb => by kernel_rfl) h6199 ?_
    refine WC.skip ?_
    refine WX.blockN (WX.next ?_)
    refine WC.region ?_
    refine seg 3 [] [0, 7, 8, 15, 16] [(0, (.slice A_p0 p0.length c_p0)), (7, (iv (w64 (1 + (Int.tmod (w64 (p1)) 4))))), (8, (iv (w64 (1 + (Int.tmod (w64 (p2)) 6))))), (15, (iv t6120)), (16, (iv (w64 (x6174 + 1))))] [] (fun fb => by kernel_rfl) rfl trivial ?_
    refine WL.done rfl ?_
    exact WX.again k6177 (Nat.lt_succ_self _) (w64 (x6174 + 1)) [0, 7, 8, 15, 16] rfl ⟨(hS6196.subR [0, 1]).sub [] (by decide), hl6180⟩
   refine WC.condF2 (fun fb => by kernel_rfl) h6183 ?_
   refine WC.exit ?_
   injection hl6180 with hl6180
   exact WX.thenX (WX.thenX (WX.blockHere (WX.to Kx6175 () [] rfl ⟨(hS6179.subR [0, 1]).sub [] (by decide), hl6180.symm⟩)))
 rintro y6208 w6205 ⟨hS6206, hq6207⟩
 subst hq6207
 have hf := sum_inr hf
 refine WX.next ?_
 refine WC.seq ?_
 refine WC.region ?_
 refine seg 1 [] [6] [(6, (.bool false))] [] (fun fb => by kernel_rfl) rfl trivial ?_
 refine WL.done rfl ?_
 refine WX.next ?_
 refine WC.ret ?_
 injection hf with hf
 subst hf
 exact WX.ret_ [] (.bool false) [] (fun fb => by kernel_rfl) trivial ⟨_, rfl, rfl, hS6206.keep⟩
end Gp
