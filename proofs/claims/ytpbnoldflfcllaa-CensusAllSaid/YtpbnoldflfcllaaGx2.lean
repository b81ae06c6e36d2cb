/- Walks: each function of the program computes its plain function. -/
import Derived.Test.YtpbnoldflfcllaaGx1
set_option linter.unusedVariables false
set_option linter.unusedSimpArgs false
set_option maxHeartbeats 4000000
set_option maxRecDepth 8000
namespace Gp
open Go Gw Go.Proofs
theorem fill_First_key97 : KeyK Try.prog 97 (aggI ints_A8_Int) := KeyK.array (n := 8) (by kernel_rfl) ints_A8_Int (fun _ => rfl) (fun x y h => by cases x; cases y; simp only [ints_A8_Int, List.cons.injEq, and_true] at h; obtain ⟨rfl, rfl, rfl, rfl, rfl, rfl, rfl, rfl⟩ := h; rfl)
theorem fill_First_calls (k : Nat) (p0 : List Tile) (p1 : Int) (p2 : Int) (p3 : Edges) (Aa : Option Addr) (ca : Nat) (Ab : Option Addr) (cb : Nat) (Ac : Option Addr) (cc : Nat) (Ad : Option Addr) (cd : Nat) (Ae : Option Addr) (ce : Nat) (r : Pattern × Int) (w : World) (hR0 : RO NoS w (rowR enc_Tile Aa ca p0)) (hR1 : RO NoS w (rowR encInt Ab cb p3.North)) (hR2 : RO NoS w (rowR encInt Ac cc p3.East)) (hR3 : RO NoS w (rowR encInt Ad cd p3.South)) (hR4 : RO NoS w (rowR encInt Ae ce p3.West)) (hf : fill_First k p0 p1 p2 p3 = some r) :
  CallsR Try.prog 83 #[(sv Aa p0 ca), (iv p1), (iv p2), (.agg #[(sv Ab p3.North cb), (sv Ac p3.East cc), (sv Ad p3.South cd), (sv Ae p3.West ce)])] w (fun v w' => ∃ (A1_ : Option Addr), ∃ (c1_ : Nat), v = (.tuple #[(.agg #[(iv r.1.Width), (iv r.1.Height), (sv A1_ r.1.Cells c1_)]), (iv r.2)]) ∧ St NoS w w' [] [rowO 3 encInt A1_ c1_ r.1.Cells]) := by
 have hS : St NoS w w [rowR enc_Tile Aa ca p0, rowR encInt Ab cb p3.North, rowR encInt Ac cc p3.East, rowR encInt Ad cd p3.South, rowR encInt Ae ce p3.West] [] := St.init (ro_cons hR0 (ro_cons hR1 (ro_cons hR2 (ro_cons hR3 (ro_cons hR4 (ro_nil _ _))))))
 refine enter 153 Try.func83 rfl Try.ntmps83 rfl ?_
 unfold fill_First at hf
 refine WC.seq (WC.region ?_)
 refine WL.new hS 7 [] (fun g => (pt g)) (.cells #[(sv Ab p3.North cb), (sv Ac p3.East cc), (sv Ad p3.South cd), (sv Ae p3.West ce)] 125 (0, 0)) [] (fun fb g => by kernel_rfl) trivial (fun g9 w10 hS11 => ?_)
 refine ⟨trivial, ?_⟩
 refine WL.new hS11 8 [] (fun g => (pt g)) (.cells #[(iv 0), (iv 0), (.slice none 0 0)] 39 (0, 0)) [] (fun fb g => by kernel_rfl) trivial (fun g12 w13 hS14 => ?_)
 refine ⟨trivial, ?_⟩
 refine sg 3 [] [0, 1, 2, 7, 8] [(0, (sv Aa p0 ca)), (1, (iv p1)), (2, (iv p2)), (7, (pt g9)), (8, (pt g12))] (by kernel_rfl) ?_
 refine WL.done rfl (WX.next (WC.seq (WC.region ?_)))
 refine seg 4 [.v (sv Ab p3.North cb), .v (sv Ac p3.East cc), .v (sv Ad p3.South cd), .v (sv Ae p3.West ce)] [1, 2, 8, 23, 24, 25, 26] [(1, (iv p1)), (2, (iv p2)), (8, (pt g12)), (23, (sv Aa p0 ca)), (24, (iv p1)), (25, (iv p2)), (26, (.agg #[(sv Ab p3.North cb), (sv Ac p3.East cc), (sv Ad p3.South cd), (sv Ae p3.West ce)]))] [.cell ⟨g9, 0, none⟩ (sv Ab p3.North cb), .cell ⟨g9, 1, none⟩ (sv Ac p3.East cc), .cell ⟨g9, 2, none⟩ (sv Ad p3.South cd), .cell ⟨g9, 3, none⟩ (sv Ae p3.West ce)] (fun fb => by kernel_rfl) rfl ⟨hS14.cell 1 rfl 0 rfl, hS14.cell 1 rfl 1 rfl, hS14.cell 1 rfl 2 rfl, hS14.cell 1 rfl 3 rfl, trivial⟩ ?_
 obtain ⟨t15, ht16, hf⟩ := bind_some hf
 refine WL.call (some 27) 93 #[(sv Aa p0 ca), (iv p1), (iv p2), (.agg #[(sv Ab p3.North cb), (sv Ac p3.East cc), (sv Ad p3.South cd), (sv Ae p3.West ce)])] (fun fb => by kernel_rfl) (fill_begin_calls _ p0 p1 p2 p3 Aa ca Ab cb Ac cc Ad cd Ae ce t15 _ (hS14.rd 0) (hS14.rd 1) (hS14.rd 2) (hS14.rd 3) (hS14.rd 4) ht16) (fun v w17 hR18 => ?_)
 obtain ⟨g20, A21, c22, H23, rfl, hk_⟩ := hR18
 refine ⟨trivial, ?_⟩
 let e42 : List Own := [rowR enc_Tile Aa ca p0, rowR encInt Ab cb p3.North, rowR encInt Ac cc p3.East, rowR encInt Ad cd p3.South, rowR encInt Ae ce p3.West]
 let e60 : Nat × Value := (8, (pt g12))
 let e66 : Nat × Value := (2, (iv p2))
 let e69 := w64 (p2 - 1)
 let e97 : Nat × Value := (1, (iv p1))
 let e118 := aggI ints_A8_Int
 let e134 : Nat × Value := (13, (iv e69))
 let e141 : Nat × Value := (85, (iv p2))
 rcases optM_some hf with ⟨ho25, hf⟩ | ⟨y24, ho25, hf⟩
 ·
  have ho25 : t15.1 = none := ho25
  have hS19 := hS14.keepN (optS_none ho25 hk_)
  refine WL.reE [1, 2, 8, 23, 24, 25, 26, 27] [(1, (iv p1)), (2, (iv p2)), (8, (pt g12)), (23, (.slice Aa p0.length ca)), (24, (iv p1)), (25, (iv p2)), (26, (.agg #[(.slice Ab p3.North.length cb), (.slice Ac p3.East.length cc), (.slice Ad p3.South.length cd), (.slice Ae p3.West.length ce)])), (27, (.tuple #[(optP t15.1 g20), (iv t15.2)]))] [(1, (iv p1)), (2, (iv p2)), (8, (pt g12)), (23, (.slice Aa p0.length ca)), (24, (iv p1)), (25, (iv p2)), (26, (.agg #[(.slice Ab p3.North.length cb), (.slice Ac p3.East.length cc), (.slice Ad p3.South.length cd), (.slice Ae p3.West.length ce)])), (27, (.tuple #[(.pointer none), (iv t15.2)]))] rfl (by rw [ho25]; rfl) ?_
  refine sg 10 [] [1, 2, 8, 10, 11] [e97, e66, e60, (10, (.pointer none)), (11, (iv t15.2))] (by kernel_rfl) ?_
  refine WL.done rfl (WX.next (WC.seq (WC.seq (WC.region ?_))))
  refine sg 2 [] [1, 2, 8, 10, 11, 31] [e97, e66, e60, (10, (.pointer none)), (11, (iv t15.2)), (31, (bv (t15.2 != 0)))] (by kernel_rfl) ?_
  refine WL.done rfl (WX.next ?_)
  rcases br_some hf with ⟨h26, hf⟩ | ⟨h26, hf⟩
  ·refine WC.condT2 (fun fb => by kernel_rfl) h26 ?_
   refine WC.seq (WC.region ?_)
   refine sg 2 [] [8, 32, 33] [e60, (32, (.agg #[(iv 0), (iv 0), (.slice none 0 0)])), (33, (iv t15.2))] (by kernel_rfl) ?_
   refine WL.store hS19 0 rfl [(0, (iv 0)), (1, (iv 0)), (2, (.slice none 0 0))] #[(iv 0), (iv 0), (.slice none 0 0)] (fun fb => by kernel_rfl) (by kernel_rfl) rfl [1] (by decide) (by decide) (fun w27 hS28 => ?_)
   refine ⟨trivial, ?_⟩
   refine sg 4 [] [8, 9] [e60, (9, (iv t15.2))] (by kernel_rfl) ?_
   refine WL.done rfl (WX.next ?_)
   refine WC.ret ?_
   have hS29 := hS28.nilrow 3 encInt
   injection hf with hf
   subst hf
   exact WX.thenR (WX.ret_ [.v (iv 0), .v (iv 0), .v (.slice none 0 0)] (.tuple #[(.agg #[(iv 0), (iv 0), (sv none ([] : List Int) 0)]), (iv t15.2)]) [.cell ⟨g12, 0, none⟩ (iv 0), .cell ⟨g12, 1, none⟩ (iv 0), .cell ⟨g12, 2, none⟩ (.slice none 0 0)] (fun fb => by kernel_rfl) ⟨hS28.cell 0 rfl 0 rfl, hS28.cell 0 rfl 1 rfl, hS28.cell 0 rfl 2 rfl, trivial⟩ ⟨_, rfl, none, 0, rfl, (hS29.sub [0] (by decide)).noR⟩)
  refine WC.condF2 (fun fb => by kernel_rfl) h26 ?_
  refine WC.skip (WX.next (WC.seq (WC.region ?_)))
  refine sg 1 [] [1, 2, 8, 10, 34] [e97, e66, e60, (10, (.pointer none)), (34, (iv p2))] (by kernel_rfl) ?_
  obtain ⟨h30, hf⟩ := as_some hf
  refine WL.make hS19 (e := (encMap A8_Int Bool)) (T := 103) (tS := 100) (z := (.map none)) (bytes := 8) (d := 35) ((0, none) : Nat × (Option (List (A8_Int × Bool)))) p2 (fun fb => by kernel_rfl) (by kernel_rfl) (by kernel_rfl) rfl (by decide) h30 (by decide) (fun g31 w32 hS33 => ?_)
  refine ⟨trivial, ?_⟩
  have hS34 := hS.go w32 [rowO 103 (encMap A8_Int Bool) (some ⟨g31, 0, none⟩) p2.toNat (tag g0 (List.replicate p2.toNat (none : Option (List (A8_Int × Bool))))), blk g12 (.cells #[(iv 0), (iv 0), (.slice none 0 0)] 39 (0, 0)), blk g9 (.cells #[(.slice Ab p3.North.length cb), (.slice Ac p3.East.length cc), (.slice Ad p3.South.length cd), (.slice Ae p3.West.length ce)] 125 (0, 0))] (by rw [show tag g0 (List.replicate p2.toNat (none : Option (List (A8_Int × Bool)))) = _ from tag_rep 0 none _]; exact hS33)
  have hS35 := hS34.mapsNil e118 vB g0 p2.toNat
  refine WL.reE [1, 2, 8, 10, 35] [(1, (iv p1)), (2, (iv p2)), (8, (pt g12)), (10, (.pointer none)), (35, (.slice (some ⟨g31, 0, none⟩) (List.replicate p2.toNat ((0, none) : Nat × (Option (List (A8_Int × Bool))))).length p2.toNat))] [(1, (iv p1)), (2, (iv p2)), (8, (pt g12)), (10, (.pointer none)), (35, (.slice (some ⟨g31, 0, none⟩) (List.replicate p2.toNat (none : Option (List (A8_Int × Bool)))).length p2.toNat))] rfl (by simp only [List.length_replicate]) ?_
  refine sg 3 [] [1, 2, 8, 10, 12] [e97, e66, e60, (10, (.pointer none)), (12, (sv (some ⟨g31, 0, none⟩) (List.replicate p2.toNat (none : Option (List (A8_Int × Bool)))) p2.toNat))] (by kernel_rfl) ?_
  refine WL.done rfl (WX.next (WC.seq (WC.seq (WC.region ?_))))
  refine sg 3 [] [1, 2, 8, 10, 12, 13] [e97, e66, e60, (10, (.pointer none)), (12, (sv (some ⟨g31, 0, none⟩) (List.replicate p2.toNat (none : Option (List (A8_Int × Bool)))) p2.toNat)), e134] (by kernel_rfl) ?_
  refine WL.done rfl (WX.next ?_)
  obtain ⟨x36, hx37, hf⟩ := bind_some hf
  let e57 := List (A8_Int × Bool)
  refine WC.cutN (T := Unit) (fun t => [e97, e66, e60, (10, (.pointer none)), (12, (sv (some ⟨g31, 0, none⟩) (List.replicate p2.toNat (none : Option e57)) p2.toNat))]) (fun t w1 => St NoS w w1 e42 [blk g12 (.cells #[(iv 0), (iv 0), (.slice none 0 0)] 39 (0, 0)), rowO 103 (encMap A8_Int Bool) (some ⟨g31, 0, none⟩) p2.toNat (tag g0 (List.replicate p2.toNat (none : Option e57))), mapsO e118 vB g0 (List.replicate p2.toNat (none : Option e57))] ∧ x36 = t) (fun Kx36 => ?_) ?_
  ·
   refine WC.block ?_
   refine WC.loop (T := Unit) (fun t => [e97, e66, e60, (10, (.pointer none)), (12, (sv (some ⟨g31, 0, none⟩) (List.replicate p2.toNat (none : Option e57)) p2.toNat)), e134]) (fun n t w1 => St NoS w w1 e42 [blk g12 (.cells #[(iv 0), (iv 0), (.slice none 0 0)] 39 (0, 0)), rowO 103 (encMap A8_Int Bool) (some ⟨g31, 0, none⟩) p2.toNat (tag g0 (List.replicate p2.toNat (none : Option e57))), mapsO e118 vB g0 (List.replicate p2.toNat (none : Option e57))] ∧ fill_First.l0 n p2 = some x36) k () [1, 2, 8, 10, 12, 13] rfl ⟨(hS35.subR [0, 1, 2, 3, 4]).sub [2, 1, 0] (by decide), hx37⟩ ?_
   rintro k38 ⟨⟩ w39 ⟨hS40, hl41⟩
   cases k38 with
   | zero => rw [fill_First.l0] at hl41; cases hl41
   | succ k38 =>
    rw [fill_First.l0] at hl41
    refine WC.seq (WC.seq (WC.region ?_))
    refine sg 2 [] [1, 2, 8, 10, 12, 13, 39] [e97, e66, e60, (10, (.pointer none)), (12, (sv (some ⟨g31, 0, none⟩) (List.replicate p2.toNat (none : Option e57)) p2.toNat)), e134, (39, (bv (decide (w64 (p2 - 1) ≥ 0))))] (by kernel_rfl) ?_
    refine WL.done rfl (WX.next ?_)
    rcases br_some hl41 with ⟨h42, hl41⟩ | ⟨h42, hl41⟩
    ·refine WC.condT2 (fun fb => by kernel_rfl) h42 ?_
     refine WC.skip (WX.next (WC.seq (WC.block (WC.seq (WC.region ?_)))))
     refine sg 2 [] [1, 2, 8, 10, 12, 13, 42, 43] [e97, e66, e60, (10, (.pointer none)), (12, (sv (some ⟨g31, 0, none⟩) (List.replicate p2.toNat (none : Option e57)) p2.toNat)), e134, (42, (sv (some ⟨g31, 0, none⟩) (List.replicate p2.toNat (none : Option e57)) p2.toNat)), (43, (iv e69))] (by kernel_rfl) ?_
     refine WL.new hS40 44 [] (fun g => (.map (some g))) (mapObj e118 vB ([] : List (A8_Int × Bool))) [] (fun fb g => by kernel_rfl) trivial (fun g43 w44 hS45 => ?_)
     refine ⟨trivial, ?_⟩
     obtain ⟨h46, hl41⟩ := as_some hl41
     refine seg 4 [] [1, 2, 8, 10, 12, 13, 44, 45] [e97, e66, e60, (10, (.pointer none)), (12, (sv (some ⟨g31, 0, none⟩) (List.replicate p2.toNat (none : Option e57)) p2.toNat)), e134, (44, (.map (some g43))), (45, (.pointer (some ((adr (some ⟨g31, 0, none⟩)).add (e69.toNat * 1)))))] [.idx (some ⟨g31, 0, none⟩) e69 (List.replicate p2.toNat (none : Option e57)).length] (fun fb => by kernel_rfl) rfl ⟨nrow_adr (rowO.rd (hS45.own 2).1) h46.1 h46.2, trivial⟩ ?_
     refine WL.storeRow hS45 2 rfl (w64 (p2 - 1)) (g43, some ([] : List (A8_Int × Bool))) (0, none) [(0, (.map (some g43)))] (fun fb => by kernel_rfl) h46.1 (by rw [tag_length]; exact h46.2) (by kernel_rfl) (by kernel_rfl) [0, 1, 3] (by decide) (by decide) (fun w47 hS48 => ?_)
     have hS49 := hS34.go w47 [rowO 103 (encMap A8_Int Bool) (some ⟨g31, 0, none⟩) p2.toNat (tag (updH g0 (w64 (p2 - 1)).toNat g43) ((List.replicate p2.toNat (none : Option (List (A8_Int × Bool)))).set (w64 (p2 - 1)).toNat (some ([] : List (A8_Int × Bool))))), blk g43 (mapObj (aggI ints_A8_Int) vB ([] : List (A8_Int × Bool))), blk g12 (.cells #[(iv 0), (iv 0), (.slice none 0 0)] 39 (0, 0)), mapsO (aggI ints_A8_Int) vB g0 (List.replicate p2.toNat (none : Option (List (A8_Int × Bool))))] (by rw [tag_set]; exact hS48)
     have hS50 := hS49.go w47 [mapsO e118 vB (updH g0 e69.toNat g43) ((List.replicate p2.toNat (none : Option e57)).set e69.toNat (some ([] : List (A8_Int × Bool)))), rowO 103 (encMap A8_Int Bool) (some ⟨g31, 0, none⟩) p2.toNat (tag (updH g0 e69.toNat g43) ((List.replicate p2.toNat (none : Option e57)).set e69.toNat (some ([] : List (A8_Int × Bool))))), blk g12 (.cells #[(iv 0), (iv 0), (.slice none 0 0)] 39 (0, 0))] (hS49.mapsSet 3 1 rfl rfl (by decide) (e69.toNat) [0, 2] (by decide) (by decide))
     refine ⟨trivial, ?_⟩
     refine WL.reE [1, 2, 8, 10, 12, 13] [(1, (iv p1)), (2, (iv p2)), (8, (pt g12)), (10, (.pointer none)), (12, (.slice (some ⟨g31, 0, none⟩) (List.replicate p2.toNat (none : Option (List (A8_Int × Bool)))).length p2.toNat)), (13, (iv (w64 (p2 - 1))))] [(1, (iv p1)), (2, (iv p2)), (8, (pt g12)), (10, (.pointer none)), (12, (.slice (some ⟨g31, 0, none⟩) ((List.replicate p2.toNat (none : Option (List (A8_Int × Bool)))).set (w64 (p2 - 1)).toNat (some ([] : List (A8_Int × Bool)))).length p2.toNat)), (13, (iv (w64 (p2 - 1))))] rfl (by simp only [List.length_set]) ?_
     refine WL.done rfl (WX.next (WC.seq (WC.region ?_)))
     refine sg 1 [] [1, 2, 8, 10, 12, 13, 46] [e97, e66, e60, (10, (.pointer none)), (12, (sv (some ⟨g31, 0, none⟩) ((List.replicate p2.toNat (none : Option e57)).set e69.toNat (some ([] : List (A8_Int × Bool)))) p2.toNat)), e134, (46, (.pointer none))] (by kernel_rfl) ?_
     cases hl41
    refine WC.condF2 (fun fb => by kernel_rfl) h42 ?_
    refine WC.exit ?_
    injection hl41 with hl41
    exact WX.thenX (WX.thenX (WX.blockHere (WX.to Kx36 () [1, 2, 8, 10, 12] rfl ⟨(hS40.subR [0, 1, 2, 3, 4]).sub [0, 1, 2] (by decide), hl41.symm⟩)))
  rintro y54 w51 ⟨hS52, hq53⟩
  subst hq53
  refine WX.next (WC.seq (WC.region ?_))
  refine sg 3 [] [2, 8, 10, 12, 84] [e66, e60, (10, (.pointer none)), (12, (sv (some ⟨g31, 0, none⟩) (List.replicate p2.toNat (none : Option e57)) p2.toNat)), (84, (.agg #[(iv p1), (iv p2), (.slice none 0 0)]))] (by kernel_rfl) ?_
  refine WL.new hS52 16 [] (fun g => (pt g)) (.cells #[(iv 0), (iv 0), (.slice none 0 0)] 39 (0, 0)) [] (fun fb g => by kernel_rfl) trivial (fun g55 w56 hS57 => ?_)
  refine ⟨trivial, ?_⟩
  refine WL.store hS57 0 rfl [(0, (iv p1)), (1, (iv p2)), (2, (.slice none 0 0))] #[(iv p1), (iv p2), (.slice none 0 0)] (fun fb => by kernel_rfl) (by kernel_rfl) rfl [1, 2, 3] (by decide) (by decide) (fun w58 hS59 => ?_)
  refine ⟨trivial, ?_⟩
  refine WL.done rfl (WX.next (WC.seq (WC.region ?_)))
  refine sg 1 [] [2, 8, 10, 12, 16, 17] [e66, e60, (10, (.pointer none)), (12, (sv (some ⟨g31, 0, none⟩) (List.replicate p2.toNat (none : Option e57)) p2.toNat)), (16, (pt g55)), (17, (.pointer none))] (by kernel_rfl) ?_
  refine WL.done rfl (WX.next (WC.seq (WC.seq (WC.region ?_))))
  refine sg 2 [] [2, 8, 10, 12, 16, 17, 85, 86] [e66, e60, (10, (.pointer none)), (12, (sv (some ⟨g31, 0, none⟩) (List.replicate p2.toNat (none : Option e57)) p2.toNat)), (16, (pt g55)), (17, (.pointer none)), e141, (86, (iv 0))] (by kernel_rfl) ?_
  refine WL.done rfl (WX.next ?_)
  obtain ⟨x60, hx61, hf⟩ := bind_some hf
  let e135 : Nat × Value := (16, (pt g55))
  refine WC.cutN (T := Unit) (fun t => [e60, e135]) (fun t w1 => St NoS w w1 e42 [blk g12 (.cells #[(iv 0), (iv 0), (.slice none 0 0)] 39 (0, 0)), blk g55 (.cells #[(iv p1), (iv p2), (.slice none 0 0)] 39 (0, 0))] ∧ x60 = t) (fun Kx60 => ?_) ?_
  ·
   refine WC.block ?_
   refine WC.loop (T := Unit) (fun t => [e66, e60, (10, (.pointer none)), (12, (sv (some ⟨g31, 0, none⟩) (List.replicate p2.toNat (none : Option e57)) p2.toNat)), e135, (17, (.pointer none)), e141, (86, (iv 0))]) (fun n t w1 => St NoS w w1 e42 [blk g12 (.cells #[(iv 0), (iv 0), (.slice none 0 0)] 39 (0, 0)), rowO 103 (encMap A8_Int Bool) (some ⟨g31, 0, none⟩) p2.toNat (tag g0 (List.replicate p2.toNat (none : Option e57))), mapsO e118 vB g0 (List.replicate p2.toNat (none : Option e57)), blk g55 (.cells #[(iv p1), (iv p2), (.slice none 0 0)] 39 (0, 0))] ∧ fill_First.l1 n p2 = some x60) k () [2, 8, 10, 12, 16, 17, 85, 86] rfl ⟨(hS59.subR [0, 1, 2, 3, 4]).sub [1, 2, 3, 0] (by decide), hx61⟩ ?_
   rintro k62 ⟨⟩ w63 ⟨hS65, hl66⟩
   cases k62 with
   | zero => rw [fill_First.l1] at hl66; cases hl66
   | succ k62 =>
    rw [fill_First.l1] at hl66
    refine WC.seq (WC.region ?_)
    refine sg 1 [] [2, 8, 10, 12, 16, 17, 85, 86, 87] [e66, e60, (10, (.pointer none)), (12, (sv (some ⟨g31, 0, none⟩) (List.replicate p2.toNat (none : Option e57)) p2.toNat)), e135, (17, (.pointer none)), e141, (86, (iv 0)), (87, (bv (decide (0 < p2))))] (by kernel_rfl) ?_
    refine WL.done rfl (WX.next (WC.seq ?_))
    rcases br_some hl66 with ⟨h67, hl66⟩ | ⟨h67, hl66⟩
    ·refine WC.condT2 (fun fb => by kernel_rfl) h67 ?_
     refine WC.skip (WX.next (WC.seq (WC.block (WC.seq (WC.region ?_)))))
     refine sg 2 [] [2, 8, 10, 12, 16, 17, 18, 85, 86] [e66, e60, (10, (.pointer none)), (12, (sv (some ⟨g31, 0, none⟩) (List.replicate p2.toNat (none : Option e57)) p2.toNat)), e135, (17, (.pointer none)), (18, (iv 0)), e141, (86, (iv 0))] (by kernel_rfl) ?_
     refine WL.done rfl (WX.next (WC.seq (WC.region ?_)))
     refine sg 1 [] [2, 8, 10, 12, 16, 17, 18, 19, 85, 86] [e66, e60, (10, (.pointer none)), (12, (sv (some ⟨g31, 0, none⟩) (List.replicate p2.toNat (none : Option e57)) p2.toNat)), e135, (17, (.pointer none)), (18, (iv 0)), (19, (iv (-1))), e141, (86, (iv 0))] (by kernel_rfl) ?_
     refine WL.done rfl (WX.next (WC.seq (WC.seq (WC.region ?_))))
     refine sg 1 [] [2, 8, 10, 12, 16, 17, 18, 19, 85, 86, 89] [e66, e60, (10, (.pointer none)), (12, (sv (some ⟨g31, 0, none⟩) (List.replicate p2.toNat (none : Option e57)) p2.toNat)), e135, (17, (.pointer none)), (18, (iv 0)), (19, (iv (-1))), e141, (86, (iv 0)), (89, (.pointer none))] (by kernel_rfl) ?_
     cases hl66
    refine WC.condF2 (fun fb => by kernel_rfl) h67 ?_
    refine WC.exit ?_
    injection hl66 with hl66
    exact WX.thenX (WX.thenX (WX.blockHere (WX.to Kx60 () [8, 16] rfl ⟨(hS65.subR [0, 1, 2, 3, 4]).sub [0, 3] (by decide), hl66.symm⟩)))
  rintro y71 w68 ⟨hS69, hq70⟩
  subst hq70
  refine WX.next (WC.seq (WC.region ?_))
  refine seg 1 [.v (iv p1), .v (iv p2), .v (.slice none 0 0)] [8, 152] [e60, (152, (.agg #[(iv p1), (iv p2), (.slice none 0 0)]))] [.cell ⟨g55, 0, none⟩ (iv p1), .cell ⟨g55, 1, none⟩ (iv p2), .cell ⟨g55, 2, none⟩ (.slice none 0 0)] (fun fb => by kernel_rfl) rfl ⟨hS69.cell 1 rfl 0 rfl, hS69.cell 1 rfl 1 rfl, hS69.cell 1 rfl 2 rfl, trivial⟩ ?_
  refine WL.store hS69 0 rfl [(0, (iv p1)), (1, (iv p2)), (2, (.slice none 0 0))] #[(iv p1), (iv p2), (.slice none 0 0)] (fun fb => by kernel_rfl) (by kernel_rfl) rfl [1] (by decide) (by decide) (fun w72 hS73 => ?_)
  refine ⟨trivial, ?_⟩
  refine sg 3 [] [8, 9] [e60, (9, (iv 0))] (by kernel_rfl) ?_
  refine WL.done rfl (WX.next ?_)
  refine WC.ret ?_
  have hS74 := hS73.nilrow 3 encInt
  injection hf with hf
  subst hf
  exact WX.ret_ [.v (iv p1), .v (iv p2), .v (.slice none 0 0)] (.tuple #[(.agg #[(iv p1), (iv p2), (sv none ([] : List Int) 0)]), (iv 0)]) [.cell ⟨g12, 0, none⟩ (iv p1), .cell ⟨g12, 1, none⟩ (iv p2), .cell ⟨g12, 2, none⟩ (.slice none 0 0)] (fun fb => by kernel_rfl) ⟨hS73.cell 0 rfl 0 rfl, hS73.cell 0 rfl 1 rfl, hS73.cell 0 rfl 2 rfl, trivial⟩ ⟨_, rfl, none, 0, rfl, (hS74.sub [0] (by decide)).noR⟩
 have ho25 : t15.1 = some y24 := ho25
 have hk_ := optS_some ho25 hk_
 have hS19 := hS.go w17 [blk g20 (.cells #[(.slice A21 y24.rows.length c22), (iv y24.width), (iv y24.height), (.slice Ab p3.North.length cb), (.slice Ac p3.East.length cc), (.slice Ad p3.South.length cd), (.slice Ae p3.West.length ce)] 136 (0, 0)), rowO 99 encN_Row A21 c22 (tag H23 y24.rows), poolO [nestO subN_Row H23 y24.rows], blk g12 (.cells #[(iv 0), (iv 0), (.slice none 0 0)] 39 (0, 0)), blk g9 (.cells #[(.slice Ab p3.North.length cb), (.slice Ac p3.East.length cc), (.slice Ad p3.South.length cd), (.slice Ae p3.West.length ce)] 125 (0, 0))] (hS14.call hk_ [] [0, 1] (fun g hg => hg.elim) (by simp) (by decide))
 refine WL.reE [1, 2, 8, 23, 24, 25, 26, 27] [(1, (iv p1)), (2, (iv p2)), (8, (pt g12)), (23, (.slice Aa p0.length ca)), (24, (iv p1)), (25, (iv p2)), (26, (.agg #[(.slice Ab p3.North.length cb), (.slice Ac p3.East.length cc), (.slice Ad p3.South.length cd), (.slice Ae p3.West.length ce)])), (27, (.tuple #[(optP t15.1 g20), (iv t15.2)]))] [(1, (iv p1)), (2, (iv p2)), (8, (pt g12)), (23, (.slice Aa p0.length ca)), (24, (iv p1)), (25, (iv p2)), (26, (.agg #[(.slice Ab p3.North.length cb), (.slice Ac p3.East.length cc), (.slice Ad p3.South.length cd), (.slice Ae p3.West.length ce)])), (27, (.tuple #[(pt g20), (iv t15.2)]))] rfl (by rw [ho25]; rfl) ?_
 refine sg 10 [] [1, 2, 8, 10, 11] [e97, e66, e60, (10, (pt g20)), (11, (iv t15.2))] (by kernel_rfl) ?_
 refine WL.done rfl (WX.next (WC.seq (WC.seq (WC.region ?_))))
 refine sg 2 [] [1, 2, 8, 10, 11, 31] [e97, e66, e60, (10, (pt g20)), (11, (iv t15.2)), (31, (bv (t15.2 != 0)))] (by kernel_rfl) ?_
 refine WL.done rfl (WX.next ?_)
 rcases br_some hf with ⟨h75, hf⟩ | ⟨h75, hf⟩
 ·refine WC.condT2 (fun fb => by kernel_rfl) h75 ?_
  refine WC.seq (WC.region ?_)
  refine sg 2 [] [8, 32, 33] [e60, (32, (.agg #[(iv 0), (iv 0), (.slice none 0 0)])), (33, (iv t15.2))] (by kernel_rfl) ?_
  refine WL.store hS19 3 rfl [(0, (iv 0)), (1, (iv 0)), (2, (.slice none 0 0))] #[(iv 0), (iv 0), (.slice none 0 0)] (fun fb => by kernel_rfl) (by kernel_rfl) rfl [0, 1, 2, 4] (by decide) (by decide) (fun w76 hS77 => ?_)
  refine ⟨trivial, ?_⟩
  refine sg 4 [] [8, 9] [e60, (9, (iv t15.2))] (by kernel_rfl) ?_
  refine WL.done rfl (WX.next ?_)
  refine WC.ret ?_
  have hS78 := hS77.nilrow 3 encInt
  injection hf with hf
  subst hf
  exact WX.thenR (WX.ret_ [.v (iv 0), .v (iv 0), .v (.slice none 0 0)] (.tuple #[(.agg #[(iv 0), (iv 0), (sv none ([] : List Int) 0)]), (iv t15.2)]) [.cell ⟨g12, 0, none⟩ (iv 0), .cell ⟨g12, 1, none⟩ (iv 0), .cell ⟨g12, 2, none⟩ (.slice none 0 0)] (fun fb => by kernel_rfl) ⟨hS77.cell 0 rfl 0 rfl, hS77.cell 0 rfl 1 rfl, hS77.cell 0 rfl 2 rfl, trivial⟩ ⟨_, rfl, none, 0, rfl, (hS78.sub [0] (by decide)).noR⟩)
 refine WC.condF2 (fun fb => by kernel_rfl) h75 ?_
 refine WC.skip (WX.next (WC.seq (WC.region ?_)))
 refine sg 1 [] [1, 2, 8, 10, 34] [e97, e66, e60, (10, (pt g20)), (34, (iv p2))] (by kernel_rfl) ?_
 obtain ⟨h79, hf⟩ := as_some hf
 refine WL.make hS19 (e := (encMap A8_Int Bool)) (T := 103) (tS := 100) (z := (.map none)) (bytes := 8) (d := 35) ((0, none) : Nat × (Option (List (A8_Int × Bool)))) p2 (fun fb => by kernel_rfl) (by kernel_rfl) (by kernel_rfl) rfl (by decide) h79 (by decide) (fun g80 w81 hS82 => ?_)
 refine ⟨trivial, ?_⟩
 have hS84 := hS19.go w81 [rowO 103 (encMap A8_Int Bool) (some ⟨g80, 0, none⟩) p2.toNat (tag g0 (List.replicate p2.toNat (none : Option (List (A8_Int × Bool))))), blk g20 (.cells #[(.slice A21 y24.rows.length c22), (iv y24.width), (iv y24.height), (.slice Ab p3.North.length cb), (.slice Ac p3.East.length cc), (.slice Ad p3.South.length cd), (.slice Ae p3.West.length ce)] 136 (0, 0)), rowO 99 encN_Row A21 c22 (tag H23 y24.rows), poolO [nestO subN_Row H23 y24.rows], blk g12 (.cells #[(iv 0), (iv 0), (.slice none 0 0)] 39 (0, 0)), blk g9 (.cells #[(.slice Ab p3.North.length cb), (.slice Ac p3.East.length cc), (.slice Ad p3.South.length cd), (.slice Ae p3.West.length ce)] 125 (0, 0))] (by rw [show tag g0 (List.replicate p2.toNat (none : Option (List (A8_Int × Bool)))) = _ from tag_rep 0 none _]; exact hS82)
 have hS85 := hS84.mapsNil e118 vB g0 p2.toNat
 refine WL.reE [1, 2, 8, 10, 35] [(1, (iv p1)), (2, (iv p2)), (8, (pt g12)), (10, (pt g20)), (35, (.slice (some ⟨g80, 0, none⟩) (List.replicate p2.toNat ((0, none) : Nat × (Option (List (A8_Int × Bool))))).length p2.toNat))] [(1, (iv p1)), (2, (iv p2)), (8, (pt g12)), (10, (pt g20)), (35, (.slice (some ⟨g80, 0, none⟩) (List.replicate p2.toNat (none : Option (List (A8_Int × Bool)))).length p2.toNat))] rfl (by simp only [List.length_replicate]) ?_
 refine sg 3 [] [1, 2, 8, 10, 12] [e97, e66, e60, (10, (pt g20)), (12, (sv (some ⟨g80, 0, none⟩) (List.replicate p2.toNat (none : Option (List (A8_Int × Bool)))) p2.toNat))] (by kernel_rfl) ?_
 refine WL.done rfl (WX.next (WC.seq (WC.seq (WC.region ?_))))
 refine sg 3 [] [1, 2, 8, 10, 12, 13] [e97, e66, e60, (10, (pt g20)), (12, (sv (some ⟨g80, 0, none⟩) (List.replicate p2.toNat (none : Option (List (A8_Int × Bool)))) p2.toNat)), e134] (by kernel_rfl) ?_
 refine WL.done rfl (WX.next ?_)
 obtain ⟨x94, hx95, hf⟩ := bind_some hf
 let e16 : Array Value := #[(sv A21 y24.rows c22), (iv y24.width), (iv y24.height), (sv Ab p3.North cb), (sv Ac p3.East cc), (sv Ad p3.South cd), (sv Ae p3.West ce)]
 let e22 : Nat × Value := (50, (iv (y24.rows.length : Int)))
 let e28 : List Own := e42
 let e33 : Nat × Value := (49, (sv A21 y24.rows c22))
 let e49 : Nat × Value := (10, (pt g20))
 let e52 : Nat × Value := e60
 let e55 : Nat × Value := e97
 let e56 : Nat × Value := e66
 let e63 : List Nat := [1, 2, 8, 10, 12, 13, 15, 49, 50, 51, 74]
 let e64 : List Own := [nestO subN_Row H23 y24.rows]
 let e70 := aggI ints_A8_Int
 let e71 : List Nat := [1, 2, 8, 10, 12, 13, 49, 50, 51]
 let e73 : List Nat := [0, 1, 2, 3, 4]
 let e74 : List Nat := [0, 1, 2, 3, 4, 5, 6, 7, 8, 9, 10, 11, 12, 13, 14, 15, 16, 17, 18]
 let e79 := tag H23 y24.rows
 let e98 : List Nat := [0, 1, 2, 3, 4, 5]
 let e121 := [[0, 1, 2, 3, 4, 5, 6, 7, 8, 9, 10, 11, 12, 13, 15, 16, 14, 17, 18, 19]]
 let e136 : List Nat := [1, 2, 8, 10, 12, 13]
 let e137 : List Nat := [0, 1, 2, 3, 4, 5, 6, 7, 8, 9]
 refine WC.cutN (T := (List (Option (List (A8_Int × Bool)))) × (Option Addr) × Nat × (Nat → Nat)) (fun t => [e55, e56, e52, e49, (12, (sv t.2.1 t.1 t.2.2.1))]) (fun t w1 => St NoS w w1 e28 [blk g12 (.cells #[(iv 0), (iv 0), (.slice none 0 0)] 39 (0, 0)), blk g20 (.cells e16 136 (0, 0)), rowO 99 encN_Row A21 c22 e79, poolO e64, rowO 103 (encMap A8_Int Bool) t.2.1 t.2.2.1 (tag t.2.2.2 t.1), mapsO e70 vB t.2.2.2 t.1] ∧ x94 = t.1) (fun Kx94 => ?_) ?_
 ·
  refine WC.block ?_
  refine WC.loop (T := ((List (Option (List (A8_Int × Bool)))) × Int) × (Option Addr) × Nat × (Nat → Nat)) (fun t => [e55, e56, e52, e49, (12, (sv t.2.1 t.1.1 t.2.2.1)), (13, (iv t.1.2))]) (fun n t w1 => St NoS w w1 e28 [blk g12 (.cells #[(iv 0), (iv 0), (.slice none 0 0)] 39 (0, 0)), blk g20 (.cells e16 136 (0, 0)), rowO 99 encN_Row A21 c22 e79, poolO e64, rowO 103 (encMap A8_Int Bool) t.2.1 t.2.2.1 (tag t.2.2.2 t.1.1), mapsO e70 vB t.2.2.2 t.1.1] ∧ fill_First.l2 n t.1.1 t.1.2 p2 p3 y24 = some x94) k (((List.replicate p2.toNat (none : Option (List (A8_Int × Bool)))), w64 (p2 - 1)), (some ⟨g80, 0, none⟩), p2.toNat, g0) e136 rfl ⟨(hS85.subR e73).sub [5, 2, 3, 4, 1, 0] (by decide), hx95⟩ ?_
  rintro k96 ⟨⟨l88, x90⟩, A86, c87, H89⟩ w98 ⟨hS99, hl100⟩
  let e53 : Nat × Value := (13, (iv x90))
  let e120 := w64 (x90 + 1)
  cases k96 with
  | zero => rw [fill_First.l2] at hl100; cases hl100
  | succ k96 =>
   rw [fill_First.l2] at hl100
   refine WC.seq (WC.seq (WC.region ?_))
   refine sg 2 [] [1, 2, 8, 10, 12, 13, 39] [e55, e56, e52, e49, (12, (sv A86 l88 c87)), e53, (39, (bv (decide (x90 ≥ 0))))] (by kernel_rfl) ?_
   refine WL.done rfl (WX.next ?_)
   rcases br_some hl100 with ⟨h101, hl100⟩ | ⟨h101, hl100⟩
   ·refine WC.condT2 (fun fb => by kernel_rfl) h101 ?_
    refine WC.skip (WX.next (WC.seq (WC.block (WC.seq (WC.region ?_)))))
    refine sg 2 [] [1, 2, 8, 10, 12, 13, 42, 43] [e55, e56, e52, e49, (12, (sv A86 l88 c87)), e53, (42, (sv A86 l88 c87)), (43, (iv x90))] (by kernel_rfl) ?_
    refine WL.new hS99 44 [] (fun g => (.map (some g))) (mapObj e70 vB ([] : List (A8_Int × Bool))) [] (fun fb g => by kernel_rfl) trivial (fun g102 w103 hS104 => ?_)
    refine ⟨trivial, ?_⟩
    obtain ⟨h105, hl100⟩ := as_some hl100
    refine seg 4 [] [1, 2, 8, 10, 12, 13, 44, 45] [e55, e56, e52, e49, (12, (sv A86 l88 c87)), e53, (44, (.map (some g102))), (45, (.pointer (some ((adr A86).add ((x90).toNat * 1)))))] [.idx A86 x90 l88.length] (fun fb => by kernel_rfl) rfl ⟨nrow_adr (rowO.rd (hS104.own 5).1) h105.1 h105.2, trivial⟩ ?_
    refine WL.storeRow hS104 5 rfl (x90) (g102, some ([] : List (A8_Int × Bool))) (0, none) [(0, (.map (some g102)))] (fun fb => by kernel_rfl) h105.1 (by rw [tag_length]; exact h105.2) (by kernel_rfl) (by kernel_rfl) [0, 1, 2, 3, 4, 6] (by decide) (by decide) (fun w106 hS107 => ?_)
    have hS108 := hS84.go w106 [rowO 103 (encMap A8_Int Bool) A86 c87 (tag (updH H89 x90.toNat g102) (l88.set x90.toNat (some ([] : List (A8_Int × Bool))))), blk g102 (mapObj (aggI ints_A8_Int) vB ([] : List (A8_Int × Bool))), blk g12 (.cells #[(iv 0), (iv 0), (.slice none 0 0)] 39 (0, 0)), blk g20 (.cells #[(.slice A21 y24.rows.length c22), (iv y24.width), (iv y24.height), (.slice Ab p3.North.length cb), (.slice Ac p3.East.length cc), (.slice Ad p3.South.length cd), (.slice Ae p3.West.length ce)] 136 (0, 0)), rowO 99 encN_Row A21 c22 (tag H23 y24.rows), poolO [nestO subN_Row H23 y24.rows], mapsO (aggI ints_A8_Int) vB H89 l88] (by rw [tag_set]; exact hS107)
    have hS109 := hS108.go w106 [mapsO e70 vB (updH H89 x90.toNat g102) (l88.set x90.toNat (some ([] : List (A8_Int × Bool)))), rowO 103 (encMap A8_Int Bool) A86 c87 (tag (updH H89 x90.toNat g102) (l88.set x90.toNat (some ([] : List (A8_Int × Bool))))), blk g12 (.cells #[(iv 0), (iv 0), (.slice none 0 0)] 39 (0, 0)), blk g20 (.cells e16 136 (0, 0)), rowO 99 encN_Row A21 c22 e79, poolO e64] (hS108.mapsSet 6 1 rfl rfl (by decide) (x90.toNat) [0, 2, 3, 4, 5] (by decide) (by decide))
    refine ⟨trivial, ?_⟩
    refine WL.reE [1, 2, 8, 10, 12, 13] [(1, (iv p1)), (2, (iv p2)), (8, (pt g12)), (10, (pt g20)), (12, (.slice A86 l88.length c87)), (13, (iv x90))] [(1, (iv p1)), (2, (iv p2)), (8, (pt g12)), (10, (pt g20)), (12, (.slice A86 (l88.set x90.toNat (some ([] : List (A8_Int × Bool)))).length c87)), (13, (iv x90))] rfl (by simp only [List.length_set]) ?_
    refine WL.done rfl (WX.next (WC.seq (WC.region ?_)))
    refine seg 6 [.v (sv A21 y24.rows c22)] e71 [e55, e56, e52, e49, (12, (sv A86 (l88.set x90.toNat (some ([] : List (A8_Int × Bool)))) c87)), e53, e33, e22, (51, (iv 0))] [.cell ⟨g20, 0, none⟩ (sv A21 y24.rows c22)] (fun fb => by kernel_rfl) rfl ⟨hS109.cell 3 rfl 0 rfl, trivial⟩ ?_
    refine WL.done rfl (WX.next ?_)
    obtain ⟨x118, hx119, hl100⟩ := bind_some hl100
    refine WC.cutN (T := (List (Option (List (A8_Int × Bool)))) × (Option Addr) × Nat × (Nat → Nat)) (fun t => [e55, e56, e52, e49, (12, (sv t.2.1 t.1 t.2.2.1)), e53]) (fun t w1 => St NoS w w1 e28 [blk g12 (.cells #[(iv 0), (iv 0), (.slice none 0 0)] 39 (0, 0)), blk g20 (.cells e16 136 (0, 0)), rowO 99 encN_Row A21 c22 e79, poolO e64, rowO 103 (encMap A8_Int Bool) t.2.1 t.2.2.1 (tag t.2.2.2 t.1), mapsO e70 vB t.2.2.2 t.1] ∧ x118 = t.1) (fun Kx118 => ?_) ?_
    ·
     refine WC.block ?_
     refine WC.loop (T := ((List (Option (List (A8_Int × Bool)))) × Int) × (Option Addr) × Nat × (Nat → Nat)) (fun t => [e55, e56, e52, e49, (12, (sv t.2.1 t.1.1 t.2.2.1)), e53, e33, e22, (51, (iv t.1.2))]) (fun n t w1 => St NoS w w1 e28 [blk g12 (.cells #[(iv 0), (iv 0), (.slice none 0 0)] 39 (0, 0)), blk g20 (.cells e16 136 (0, 0)), rowO 99 encN_Row A21 c22 e79, poolO e64, rowO 103 (encMap A8_Int Bool) t.2.1 t.2.2.1 (tag t.2.2.2 t.1.1), mapsO e70 vB t.2.2.2 t.1.1] ∧ fill_First.l3 n t.1.1 t.1.2 p2 p3 y24 x90 = some x118) k96 ((l88.set x90.toNat (some ([] : List (A8_Int × Bool))), 0), A86, c87, (updH H89 x90.toNat g102)) e71 rfl ⟨(hS109.subR e73).sub [2, 3, 4, 5, 1, 0] (by decide), hx119⟩ ?_
     rintro k120 ⟨⟨l112, x114⟩, A110, c111, H113⟩ w121 ⟨hS122, hl123⟩
     let e9 := rdD y24.rows x114 z_Row
     let e10 : Array Value := #[(sv ((H23 x114.toNat 0).1) (e9.Cells) ((H23 x114.toNat 0).2)), (iv ((e9.South).e0)), (iv ((e9.South).e1)), (iv ((e9.South).e2)), (iv ((e9.South).e3)), (iv ((e9.South).e4)), (iv ((e9.South).e5)), (iv ((e9.South).e6)), (iv ((e9.South).e7)), (iv ((e9.North).e0)), (iv ((e9.North).e1)), (iv ((e9.North).e2)), (iv ((e9.North).e3)), (iv ((e9.North).e4)), (iv ((e9.North).e5)), (iv ((e9.North).e6)), (iv ((e9.North).e7)), (iv (e9.West)), (iv (e9.East))]
     let e23 := e9.North
     let e29 := e9.South
     let e30 := (adr A21).add ((x114).toNat * 19)
     let e43 : Nat × Value := (12, (sv A110 l112 c111))
     let e45 := sv ((H23 x114.toNat 0).1) (e9.Cells) ((H23 x114.toNat 0).2)
     let e61 : Nat × Value := (51, (iv x114))
     let e76 : Array Value := #[(iv (e23.e0)), (iv (e23.e1)), (iv (e23.e2)), (iv (e23.e3)), (iv (e23.e4)), (iv (e23.e5)), (iv (e23.e6)), (iv (e23.e7))]
     let e80 := iv (e29.e0)
     let e81 := iv (e29.e1)
     let e82 := iv (e29.e2)
     let e83 := iv (e29.e3)
     let e84 := iv (e29.e4)
     let e85 := iv (e29.e5)
     let e86 := iv (e29.e6)
     let e87 := iv (e29.e7)
     let e100 := iv (e23.e0)
     let e101 := iv (e23.e1)
     let e102 := iv (e23.e2)
     let e103 := iv (e23.e3)
     let e104 := iv (e23.e4)
     let e105 := iv (e23.e5)
     let e106 := iv (e23.e6)
     let e107 := iv (e23.e7)
     let e125 := iv (e9.West)
     let e126 := iv (e9.East)
     let e132 := some (H113 x90.toNat)
     cases k120 with
     | zero => rw [fill_First.l3] at hl123; cases hl123
     | succ k120 =>
      rw [fill_First.l3] at hl123
      refine WC.seq (WC.region ?_)
      refine sg 1 [] [1, 2, 8, 10, 12, 13, 49, 50, 51, 52] [e55, e56, e52, e49, e43, e53, e33, e22, e61, (52, (bv (decide (x114 < (y24.rows.length : Int)))))] (by kernel_rfl) ?_
      refine WL.done rfl (WX.next (WC.seq ?_))
      rcases br_some hl123 with ⟨h124, hl123⟩ | ⟨h124, hl123⟩
      ·refine WC.condT2 (fun fb => by kernel_rfl) h124 ?_
       refine WC.skip (WX.next (WC.seq (WC.block (WC.seq (WC.region ?_)))))
       obtain ⟨h125, hl123⟩ := as_some hl123
       refine seg 2 [.v e45, .v e80, .v e81, .v e82, .v e83, .v e84, .v e85, .v e86, .v e87, .v e100, .v e101, .v e102, .v e103, .v e104, .v e105, .v e106, .v e107, .v e125, .v e126] [1, 2, 8, 10, 12, 13, 49, 50, 51, 54] [e55, e56, e52, e49, e43, e53, e33, e22, e61, (54, (.agg e10))] [.idx A21 x114 y24.rows.length, .cell e30 e45, .cell (e30.add 1) e80, .cell (e30.add 2) e81, .cell (e30.add 3) e82, .cell (e30.add 4) e83, .cell (e30.add 5) e84, .cell (e30.add 6) e85, .cell (e30.add 7) e86, .cell (e30.add 8) e87, .cell (e30.add 9) e100, .cell (e30.add 10) e101, .cell (e30.add 11) e102, .cell (e30.add 12) e103, .cell (e30.add 13) e104, .cell (e30.add 14) e105, .cell (e30.add 15) e106, .cell (e30.add 16) e107, .cell (e30.add 17) e125, .cell (e30.add 18) e126] (fun fb => by kernel_rfl) rfl ⟨nrow_adr (rowO.rd (hS122.own 2).1) h125.1 h125.2, nrow_cell (rowO.rd (hS122.own 2).1) z_Row h125.1 h125.2 0 rfl, nrow_cell (rowO.rd (hS122.own 2).1) z_Row h125.1 h125.2 1 rfl, nrow_cell (rowO.rd (hS122.own 2).1) z_Row h125.1 h125.2 2 rfl, nrow_cell (rowO.rd (hS122.own 2).1) z_Row h125.1 h125.2 3 rfl, nrow_cell (rowO.rd (hS122.own 2).1) z_Row h125.1 h125.2 4 rfl, nrow_cell (rowO.rd (hS122.own 2).1) z_Row h125.1 h125.2 5 rfl, nrow_cell (rowO.rd (hS122.own 2).1) z_Row h125.1 h125.2 6 rfl, nrow_cell (rowO.rd (hS122.own 2).1) z_Row h125.1 h125.2 7 rfl, nrow_cell (rowO.rd (hS122.own 2).1) z_Row h125.1 h125.2 8 rfl, nrow_cell (rowO.rd (hS122.own 2).1) z_Row h125.1 h125.2 9 rfl, nrow_cell (rowO.rd (hS122.own 2).1) z_Row h125.1 h125.2 10 rfl, nrow_cell (rowO.rd (hS122.own 2).1) z_Row h125.1 h125.2 11 rfl, nrow_cell (rowO.rd (hS122.own 2).1) z_Row h125.1 h125.2 12 rfl, nrow_cell (rowO.rd (hS122.own 2).1) z_Row h125.1 h125.2 13 rfl, nrow_cell (rowO.rd (hS122.own 2).1) z_Row h125.1 h125.2 14 rfl, nrow_cell (rowO.rd (hS122.own 2).1) z_Row h125.1 h125.2 15 rfl, nrow_cell (rowO.rd (hS122.own 2).1) z_Row h125.1 h125.2 16 rfl, nrow_cell (rowO.rd (hS122.own 2).1) z_Row h125.1 h125.2 17 rfl, nrow_cell (rowO.rd (hS122.own 2).1) z_Row h125.1 h125.2 18 rfl, trivial⟩ ?_
       refine WL.new hS122 15 [] (fun g => (pt g)) (.cells #[(.slice none 0 0), (iv 0), (iv 0), (iv 0), (iv 0), (iv 0), (iv 0), (iv 0), (iv 0), (iv 0), (iv 0), (iv 0), (iv 0), (iv 0), (iv 0), (iv 0), (iv 0), (iv 0), (iv 0)] 99 (0, 0)) [] (fun fb g => by kernel_rfl) trivial (fun g126 w127 hS128 => ?_)
       refine ⟨trivial, ?_⟩
       refine WL.store hS128 0 rfl [(0, e45), (1, e80), (2, e81), (3, e82), (4, e83), (5, e84), (6, e85), (7, e86), (8, e87), (9, e100), (10, e101), (11, e102), (12, e103), (13, e104), (14, e105), (15, e106), (16, e107), (17, e125), (18, e126)] e10 (fun fb => by kernel_rfl) (by kernel_rfl) (by kernel_rfl) [1, 2, 3, 4, 5, 6] (by decide) (by decide) (fun w129 hS130 => ?_)
       refine ⟨trivial, ?_⟩
       refine WL.done rfl (WX.next (WC.seq ?_))
       obtain ⟨x131, hx132, hl123⟩ := bind_some hl123
       let e14 : List (Nat × Addr × Value) := [(1, ⟨g126, 0, none⟩, e45), (1, ⟨g126, 1, none⟩, e80), (1, ⟨g126, 2, none⟩, e81), (1, ⟨g126, 3, none⟩, e82), (1, ⟨g126, 4, none⟩, e83), (1, ⟨g126, 5, none⟩, e84), (1, ⟨g126, 6, none⟩, e85), (1, ⟨g126, 7, none⟩, e86), (1, ⟨g126, 8, none⟩, e87), (1, ⟨g126, 9, none⟩, e100), (1, ⟨g126, 10, none⟩, e101), (1, ⟨g126, 11, none⟩, e102), (1, ⟨g126, 12, none⟩, e103), (1, ⟨g126, 13, none⟩, e104), (1, ⟨g126, 14, none⟩, e105), (1, ⟨g126, 15, none⟩, e106), (1, ⟨g126, 16, none⟩, e107), (1, ⟨g126, 17, none⟩, e125), (1, ⟨g126, 18, none⟩, e126), (16, ⟨g126, 9, none⟩, e100), (16, ⟨g126, 10, none⟩, e101), (16, ⟨g126, 11, none⟩, e102), (16, ⟨g126, 12, none⟩, e103), (16, ⟨g126, 13, none⟩, e104), (16, ⟨g126, 14, none⟩, e105), (16, ⟨g126, 15, none⟩, e106), (16, ⟨g126, 16, none⟩, e107)]
       let e17 : List (Nat × Addr × Value) := [(1, ⟨g126, 0, none⟩, e45), (1, ⟨g126, 1, none⟩, e80), (1, ⟨g126, 2, none⟩, e81), (1, ⟨g126, 3, none⟩, e82), (1, ⟨g126, 4, none⟩, e83), (1, ⟨g126, 5, none⟩, e84), (1, ⟨g126, 6, none⟩, e85), (1, ⟨g126, 7, none⟩, e86), (1, ⟨g126, 8, none⟩, e87), (1, ⟨g126, 9, none⟩, e100), (1, ⟨g126, 10, none⟩, e101), (1, ⟨g126, 11, none⟩, e102), (1, ⟨g126, 12, none⟩, e103), (1, ⟨g126, 13, none⟩, e104), (1, ⟨g126, 14, none⟩, e105), (1, ⟨g126, 15, none⟩, e106), (1, ⟨g126, 16, none⟩, e107), (1, ⟨g126, 17, none⟩, e125), (1, ⟨g126, 18, none⟩, e126)]
       let e27 := (e14, [0, 1, 2, 4, 5, 6, 7, 8, 9, 10, 11, 12, 13, 15, 16, 18, 19], [[], [], [], [0, 1, 2], [0, 1, 2, 3], e73, e73, [0, 1, 2, 3, 4, 6], [0, 1, 2, 3, 4, 5, 6, 7], [0, 1, 2, 3, 4, 5, 6, 7, 8], e137, e137, [0, 1, 2, 3, 4, 5, 6, 7, 8, 9, 11], [0, 1, 2, 3, 4, 5, 6, 7, 8, 9, 10, 11, 12], [0, 1, 2, 3, 4, 5, 6, 7, 8, 9, 10, 11, 12, 13], e137, [0, 1, 2, 3, 4, 5, 6, 7, 8, 9, 15], [0, 1, 2, 3, 4, 5, 6, 7, 8, 9, 10, 11, 12, 13, 14, 15, 16], [0, 1, 2, 3, 4, 5, 6, 7, 8, 9, 10, 11, 12, 13, 14, 15, 16, 17], e74])
       let e65 : Nat × Value := (15, (pt g126))
       refine WC.cutN (T := Bool) (fun t => [e55, e56, e52, e49, e43, e53, e65, e33, e22, e61, (74, (bv t))]) (fun t w1 => St NoS w w1 e28 [blk g12 (.cells #[(iv 0), (iv 0), (.slice none 0 0)] 39 (0, 0)), blk g20 (.cells e16 136 (0, 0)), rowO 99 encN_Row A21 c22 e79, poolO e64, rowO 103 (encMap A8_Int Bool) A110 c111 (tag H113 l112), mapsO e70 vB H113 l112, blk g126 (.cells e10 99 (0, 0))] ∧ x131 = t) (fun Kx131 => ?_) ?_
       ·
        rcases br_some hx132 with ⟨h133, hx132⟩ | ⟨h133, hx132⟩
        ·
         refine WC.regionD e27 e121 (by kernel_rfl) (by kernel_rfl) (NoPanic.seq (NoPanic.block (NoPanic.seq (NoPanic.seq (NoPanic.block (NoPanic.block (NoPanic.seq (NoPanic.seq (NoPanic.block (NoPanic.seq (NoPanic.body))))))))))) ?_
         have hS135 := hS130.drew
         revert hS135
         generalize World.drew w129 = w134
         intro hS135
         refine ⟨⟨hS135.cell 0 rfl 0 rfl, hS135.cell 0 rfl 1 rfl, hS135.cell 0 rfl 2 rfl, hS135.cell 0 rfl 3 rfl, hS135.cell 0 rfl 4 rfl, hS135.cell 0 rfl 5 rfl, hS135.cell 0 rfl 6 rfl, hS135.cell 0 rfl 7 rfl, hS135.cell 0 rfl 8 rfl, hS135.cell 0 rfl 9 rfl, hS135.cell 0 rfl 10 rfl, hS135.cell 0 rfl 11 rfl, hS135.cell 0 rfl 12 rfl, hS135.cell 0 rfl 13 rfl, hS135.cell 0 rfl 14 rfl, hS135.cell 0 rfl 15 rfl, hS135.cell 0 rfl 16 rfl, hS135.cell 0 rfl 17 rfl, hS135.cell 0 rfl 18 rfl, hS135.cell 0 rfl 9 rfl, hS135.cell 0 rfl 10 rfl, hS135.cell 0 rfl 11 rfl, hS135.cell 0 rfl 12 rfl, hS135.cell 0 rfl 13 rfl, hS135.cell 0 rfl 14 rfl, hS135.cell 0 rfl 15 rfl, hS135.cell 0 rfl 16 rfl, trivial⟩, forallC ?_ (forallN)⟩
         refine segF 3 [.v e45, .v e80, .v e81, .v e82, .v e83, .v e84, .v e85, .v e86, .v e87, .v e100, .v e101, .v e102, .v e103, .v e104, .v e105, .v e106, .v e107, .v e125, .v e126] [1, 2, 8, 10, 12, 13, 15, 49, 50, 51, 55, 56, 57] [e55, e56, e52, e49, e43, e53, e65, e33, e22, e61, (55, (pt g20)), (56, (.agg e10)), (57, (iv x90))] [] e74 e17 (fun fb => by kernel_rfl) rfl trivial rfl ?_
         obtain ⟨t136, ht137, hx132⟩ := bind_some hx132
         refine WL.call (some 58) 94 #[(pt g20), (.agg e10), (iv x90)] (fun fb => by kernel_rfl) (fill_job_allows_calls _ (Job.mk y24.rows y24.width y24.height p3) e9 x90 g20 A21 c22 H23 Ab cb Ac cc Ad cd Ae ce ((H23 x114.toNat 0).1) ((H23 x114.toNat 0).2) t136 _ (hS135.ow 2) (hS135.ow 3).ofO (poolO.ro (hS135.ow 4) 0) (hS135.rd 1) (hS135.rd 2) (hS135.rd 3) (hS135.rd 4) (nestO.ro (poolO.ro (hS135.ow 4) 0) z_Row h125.1 h125.2) ht137) (fun v w138 hR139 => ?_)
         obtain ⟨rfl, hk_⟩ := hR139
         have hS140 := hS135.keepN hk_
         refine ⟨⟨hS140.cell 0 rfl 9 rfl, hS140.cell 0 rfl 10 rfl, hS140.cell 0 rfl 11 rfl, hS140.cell 0 rfl 12 rfl, hS140.cell 0 rfl 13 rfl, hS140.cell 0 rfl 14 rfl, hS140.cell 0 rfl 15 rfl, hS140.cell 0 rfl 16 rfl, trivial⟩, ?_⟩
         refine sg 5 [] [1, 2, 8, 10, 12, 13, 15, 49, 50, 51, 59] [e55, e56, e52, e49, e43, e53, e65, e33, e22, e61, (59, (bv t136))] (by kernel_rfl) ?_
         refine WL.cutV (T := Bool) 20 (fun t => [(74, (bv t)), e55, e56, e52, e49, e43, e53, e65, e33, e22, e61]) (fun t => t136 = t) (fun K => ?_) ?_
         ·
          rcases Bool.eq_false_or_eq_true t136 with h141 | h141
          ·
           refine WL.setB 59 h141 rfl ?_
           refine sg 10 [] [1, 2, 8, 10, 12, 13, 15, 49, 50, 51, 59, 64] [e55, e56, e52, e49, e43, e53, e65, e33, e22, e61, (59, (bv true)), (64, (bv (x90 == e69)))] (by kernel_rfl) ?_
           refine WL.setB 64 h133 rfl ?_
           refine sg 20 [] e63 [e55, e56, e52, e49, e43, e53, e65, e33, e22, e61, (74, (bv true))] (by kernel_rfl) ?_
           exact WL.toV K true [74, 1, 2, 8, 10, 12, 13, 15, 49, 50, 51] rfl (by first | (rw [h141]; done) | (rw [h141]; rfl))
          refine WL.setB 59 h141 rfl ?_
          refine sg 20 [] e63 [e55, e56, e52, e49, e43, e53, e65, e33, e22, e61, (74, (bv false))] (by kernel_rfl) ?_
          exact WL.toV K false [74, 1, 2, 8, 10, 12, 13, 15, 49, 50, 51] rfl (by first | (rw [h141]; done) | (rw [h141]; rfl))
         rintro b142 rfl
         refine WL.done rfl ?_
         injection hx132 with hx132
         exact WX.to Kx131 t136 e63 rfl ⟨(hS140.subR e73).sub [1, 2, 3, 4, 5, 6, 0] (by decide), hx132.symm⟩
        refine WC.regionD e27 e121 (by kernel_rfl) (by kernel_rfl) (NoPanic.seq (NoPanic.block (NoPanic.seq (NoPanic.seq (NoPanic.block (NoPanic.block (NoPanic.seq (NoPanic.seq (NoPanic.block (NoPanic.seq (NoPanic.body))))))))))) ?_
        have hS144 := hS130.drew
        revert hS144
        generalize World.drew w129 = w143
        intro hS144
        refine ⟨⟨hS144.cell 0 rfl 0 rfl, hS144.cell 0 rfl 1 rfl, hS144.cell 0 rfl 2 rfl, hS144.cell 0 rfl 3 rfl, hS144.cell 0 rfl 4 rfl, hS144.cell 0 rfl 5 rfl, hS144.cell 0 rfl 6 rfl, hS144.cell 0 rfl 7 rfl, hS144.cell 0 rfl 8 rfl, hS144.cell 0 rfl 9 rfl, hS144.cell 0 rfl 10 rfl, hS144.cell 0 rfl 11 rfl, hS144.cell 0 rfl 12 rfl, hS144.cell 0 rfl 13 rfl, hS144.cell 0 rfl 14 rfl, hS144.cell 0 rfl 15 rfl, hS144.cell 0 rfl 16 rfl, hS144.cell 0 rfl 17 rfl, hS144.cell 0 rfl 18 rfl, hS144.cell 0 rfl 9 rfl, hS144.cell 0 rfl 10 rfl, hS144.cell 0 rfl 11 rfl, hS144.cell 0 rfl 12 rfl, hS144.cell 0 rfl 13 rfl, hS144.cell 0 rfl 14 rfl, hS144.cell 0 rfl 15 rfl, hS144.cell 0 rfl 16 rfl, trivial⟩, forallC ?_ (forallN)⟩
        refine segF 3 [.v e45, .v e80, .v e81, .v e82, .v e83, .v e84, .v e85, .v e86, .v e87, .v e100, .v e101, .v e102, .v e103, .v e104, .v e105, .v e106, .v e107, .v e125, .v e126] [1, 2, 8, 10, 12, 13, 15, 49, 50, 51, 55, 56, 57] [e55, e56, e52, e49, e43, e53, e65, e33, e22, e61, (55, (pt g20)), (56, (.agg e10)), (57, (iv x90))] [] e74 e17 (fun fb => by kernel_rfl) rfl trivial rfl ?_
        obtain ⟨t145, ht146, hx132⟩ := bind_some hx132
        refine WL.call (some 58) 94 #[(pt g20), (.agg e10), (iv x90)] (fun fb => by kernel_rfl) (fill_job_allows_calls _ (Job.mk y24.rows y24.width y24.height p3) e9 x90 g20 A21 c22 H23 Ab cb Ac cc Ad cd Ae ce ((H23 x114.toNat 0).1) ((H23 x114.toNat 0).2) t145 _ (hS144.ow 2) (hS144.ow 3).ofO (poolO.ro (hS144.ow 4) 0) (hS144.rd 1) (hS144.rd 2) (hS144.rd 3) (hS144.rd 4) (nestO.ro (poolO.ro (hS144.ow 4) 0) z_Row h125.1 h125.2) ht146) (fun v w147 hR148 => ?_)
        obtain ⟨rfl, hk_⟩ := hR148
        have hS149 := hS144.keepN hk_
        refine ⟨⟨hS149.cell 0 rfl 9 rfl, hS149.cell 0 rfl 10 rfl, hS149.cell 0 rfl 11 rfl, hS149.cell 0 rfl 12 rfl, hS149.cell 0 rfl 13 rfl, hS149.cell 0 rfl 14 rfl, hS149.cell 0 rfl 15 rfl, hS149.cell 0 rfl 16 rfl, trivial⟩, ?_⟩
        refine sg 5 [] [1, 2, 8, 10, 12, 13, 15, 49, 50, 51, 59] [e55, e56, e52, e49, e43, e53, e65, e33, e22, e61, (59, (bv t145))] (by kernel_rfl) ?_
        obtain ⟨b150, hv151, hx132⟩ := bind_some hx132
        refine WL.cutV (T := Unit) 20 (fun t => [(74, (bv b150)), e55, e56, e52, e49, e43, e53, e65, e33, e22, e61]) (fun t => True) (fun K => ?_) ?_
        ·
         rcases br_some hv151 with ⟨h152, hv151⟩ | ⟨h152, hv151⟩
         ·
          refine WL.setB 59 h152 rfl ?_
          refine sg 10 [] [1, 2, 8, 10, 12, 13, 15, 49, 50, 51, 59, 64] [e55, e56, e52, e49, e43, e53, e65, e33, e22, e61, (59, (bv true)), (64, (bv (x90 == e69)))] (by kernel_rfl) ?_
          refine WL.setB 64 h133 rfl ?_
          refine sg 13 [] [1, 2, 8, 10, 12, 13, 15, 49, 50, 51, 59, 64, 65, 67] [e55, e56, e52, e49, e43, e53, e65, e33, e22, e61, (59, (bv true)), (64, (bv false)), (65, (sv A110 l112 c111)), (67, (iv e120))] (by kernel_rfl) ?_
          obtain ⟨h153, hv151⟩ := as_some hv151
          refine segF 16 [.v e100, .v e101, .v e102, .v e103, .v e104, .v e105, .v e106, .v e107] [1, 2, 8, 10, 12, 13, 15, 49, 50, 51, 59, 64, 68, 71] [e55, e56, e52, e49, e43, e53, e65, e33, e22, e61, (59, (bv true)), (64, (bv false)), (68, (.pointer (some ((adr A110).add (e120.toNat * 1))))), (71, (.agg e76))] [.idx A110 e120 l112.length] [19, 20, 21, 22, 23, 24, 25, 26] [(16, ⟨g126, 9, none⟩, e100), (16, ⟨g126, 10, none⟩, e101), (16, ⟨g126, 11, none⟩, e102), (16, ⟨g126, 12, none⟩, e103), (16, ⟨g126, 13, none⟩, e104), (16, ⟨g126, 14, none⟩, e105), (16, ⟨g126, 15, none⟩, e106), (16, ⟨g126, 16, none⟩, e107)] (fun fb => by kernel_rfl) rfl ⟨nrow_adr (rowO.rd (hS149.own 5).1) h153.1 h153.2, trivial⟩ rfl ?_
          obtain ⟨m154, hm155, hv151⟩ := bind_some hv151
          refine seg 17 [.v (.map (some (H113 e120.toNat)))] [1, 2, 8, 10, 12, 13, 15, 49, 50, 51, 59, 64, 69, 71] [e55, e56, e52, e49, e43, e53, e65, e33, e22, e61, (59, (bv true)), (64, (bv false)), (69, (.map (some (H113 e120.toNat)))), (71, (.agg e76))] [.cell ((adr A110).add (e120.toNat * 1)) (.map (some (H113 e120.toNat)))] (fun fb => by kernel_rfl) rfl ⟨nrow_cell (rowO.rd (hS149.own 5).1) none h153.1 h153.2 0 (mapV_some hm155), trivial⟩ ?_
          refine WL.lookup (mapsO.at (hS149.own 6).1 h153.1 h153.2 hm155) e23 (d := 72) (c := false) (t := 103) (kT := 97) (eT := 4) (z := false) (kE := e70) (vE := vB) (l := m154) (bv (mget e23 false m154)) (fun fb => by kernel_rfl) fill_First_key97 (by kernel_rfl) (fun _ => by kernel_rfl) rfl ?_
          refine ⟨trivial, ?_⟩
          refine sg 20 [] e63 [e55, e56, e52, e49, e43, e53, e65, e33, e22, e61, (74, (bv (mget e23 false m154)))] (by kernel_rfl) ?_
          injection hv151 with hv151
          subst hv151
          exact WL.toV K () [74, 1, 2, 8, 10, 12, 13, 15, 49, 50, 51] rfl trivial
         refine WL.setB 59 h152 rfl ?_
         refine sg 20 [] e63 [e55, e56, e52, e49, e43, e53, e65, e33, e22, e61, (74, (bv false))] (by kernel_rfl) ?_
         injection hv151 with hv151
         subst hv151
         exact WL.toV K () [74, 1, 2, 8, 10, 12, 13, 15, 49, 50, 51] rfl trivial
        rintro _ _
        refine WL.done rfl ?_
        injection hx132 with hx132
        exact WX.to Kx131 b150 e63 rfl ⟨(hS149.subR e73).sub [1, 2, 3, 4, 5, 6, 0] (by decide), hx132.symm⟩
       rintro y159 w156 ⟨hS157, hq158⟩
       subst hq158
       refine WX.next ?_
       obtain ⟨x163, hx164, hl123⟩ := bind_some hl123
       refine WC.cutN (T := (List (Option (List (A8_Int × Bool)))) × (Option Addr) × Nat × (Nat → Nat)) (fun t => [e55, e56, e52, e49, (12, (sv t.2.1 t.1 t.2.2.1)), e53, e33, e22, e61]) (fun t w1 => St NoS w w1 e28 [blk g12 (.cells #[(iv 0), (iv 0), (.slice none 0 0)] 39 (0, 0)), blk g20 (.cells e16 136 (0, 0)), rowO 99 encN_Row A21 c22 e79, poolO e64, rowO 103 (encMap A8_Int Bool) t.2.1 t.2.2.1 (tag t.2.2.2 t.1), mapsO e70 vB t.2.2.2 t.1] ∧ x163 = t.1) (fun Kx163 => ?_) ?_
       ·
        rcases br_some hx164 with ⟨h165, hx164⟩ | ⟨h165, hx164⟩
        ·refine WC.condT2 (fun fb => by kernel_rfl) h165 ?_
         obtain ⟨h168, hx164⟩ := as_some hx164
         obtain ⟨m169, hm170, hx164⟩ := bind_some hx164
         refine WC.regionD ([(3, ((adr A110).add ((x90).toNat * 1)), (.map e132)), (5, ⟨g126, 1, none⟩, e80), (5, ⟨g126, 2, none⟩, e81), (5, ⟨g126, 3, none⟩, e82), (5, ⟨g126, 4, none⟩, e83), (5, ⟨g126, 5, none⟩, e84), (5, ⟨g126, 6, none⟩, e85), (5, ⟨g126, 7, none⟩, e86), (5, ⟨g126, 8, none⟩, e87)], e98, [[], [], [0, 1], [0, 1, 2], [], [4], e98]) [[0, 1, 2, 3, 4, 5, 6]] (by kernel_rfl) (by kernel_rfl) (NoPanic.block (NoPanic.seq (NoPanic.seq (NoPanic.block (NoPanic.block (NoPanic.seq (NoPanic.seq (NoPanic.block (NoPanic.seq (NoPanic.body)))))))))) ?_
         have hS167 := hS157.drew
         revert hS167
         generalize World.drew w156 = w166
         intro hS167
         refine ⟨⟨nrow_cell (rowO.rd (hS167.own 4).1) none h168.1 h168.2 0 (mapV_some hm170), hS167.cell 6 rfl 1 rfl, hS167.cell 6 rfl 2 rfl, hS167.cell 6 rfl 3 rfl, hS167.cell 6 rfl 4 rfl, hS167.cell 6 rfl 5 rfl, hS167.cell 6 rfl 6 rfl, hS167.cell 6 rfl 7 rfl, hS167.cell 6 rfl 8 rfl, trivial⟩, forallC ?_ (forallN)⟩
         refine segF 6 [.v (.map e132), .v e80, .v e81, .v e82, .v e83, .v e84, .v e85, .v e86, .v e87] [1, 2, 8, 10, 12, 13, 49, 50, 51, 78, 80] [e55, e56, e52, e49, e43, e53, e33, e22, e61, (78, (.map e132)), (80, (.agg #[e80, e81, e82, e83, e84, e85, e86, e87]))] [.idx A110 x90 l112.length] [0, 1, 2, 3, 4, 5, 6, 7, 8] [(3, ((adr A110).add ((x90).toNat * 1)), (.map e132)), (5, ⟨g126, 1, none⟩, e80), (5, ⟨g126, 2, none⟩, e81), (5, ⟨g126, 3, none⟩, e82), (5, ⟨g126, 4, none⟩, e83), (5, ⟨g126, 5, none⟩, e84), (5, ⟨g126, 6, none⟩, e85), (5, ⟨g126, 7, none⟩, e86), (5, ⟨g126, 8, none⟩, e87)] (fun fb => by kernel_rfl) rfl ⟨nrow_adr (rowO.rd (hS167.own 4).1) h168.1 h168.2, trivial⟩ rfl ?_
         refine WL.mapputM hS167 5 (t := 103) (kT := 97) (eT := 4) (kE := e70) (vE := vB) rfl h168.1 h168.2 hm170 e29 true (fun fb => by kernel_rfl) fill_First_key97 (by kernel_rfl) [0, 1, 2, 3, 4, 6] (by decide) (by decide) (fun w171 hS172 => ?_)
         have hS173 := hS109.go w171 [rowO 103 (encMap A8_Int Bool) A110 c111 (tag H113 (l112.set x90.toNat (some (mput e29 true m169)))), mapsO e70 vB H113 (l112.set x90.toNat (some (mput e29 true m169))), blk g12 (.cells #[(iv 0), (iv 0), (.slice none 0 0)] 39 (0, 0)), blk g20 (.cells e16 136 (0, 0)), rowO 99 encN_Row A21 c22 e79, poolO e64, blk g126 (.cells e10 99 (0, 0))] (hS172.mapsRow 5 rfl (by have h_ := rdD_at (d := none) h168.1 h168.2; rwa [hm170] at h_) (mput e29 true m169) [0, 1, 2, 3, 4, 6] (by decide) (by decide))
         refine ⟨trivial, ?_⟩
         refine WL.reE [1, 2, 8, 10, 12, 13, 49, 50, 51] [(1, (iv p1)), (2, (iv p2)), (8, (pt g12)), (10, (pt g20)), (12, (.slice A110 l112.length c111)), (13, (iv x90)), (49, (.slice A21 y24.rows.length c22)), (50, (iv (y24.rows.length : Int))), (51, (iv x114))] [(1, (iv p1)), (2, (iv p2)), (8, (pt g12)), (10, (pt g20)), (12, (.slice A110 (l112.set x90.toNat (some (mput ((rdD y24.rows x114 z_Row).South) true m169))).length c111)), (13, (iv x90)), (49, (.slice A21 y24.rows.length c22)), (50, (iv (y24.rows.length : Int))), (51, (iv x114))] rfl (by simp only [List.length_set]) ?_
         refine WL.done rfl ?_
         injection hx164 with hx164
         exact WX.to Kx163 (l112.set x90.toNat (some (mput e29 true m169)), A110, c111, H113) e71 rfl ⟨(hS173.subR e73).sub [2, 3, 4, 5, 0, 1] (by decide), hx164.symm⟩
        refine WC.condF2 (fun fb => by kernel_rfl) h165 ?_
        refine WC.skip ?_
        injection hx164 with hx164
        exact WX.to Kx163 (l112, A110, c111, H113) e71 rfl ⟨(hS157.subR e73).sub e98 (by decide), hx164.symm⟩
       rintro ⟨y177, A160, c161, H162⟩ w174 ⟨hS175, hq176⟩
       subst hq176
       refine WX.blockN (WX.next ?_)
       refine WC.region ?_
       refine sg 2 [] e71 [e55, e56, e52, e49, (12, (sv A160 x163 c161)), e53, e33, e22, (51, (iv (w64 (x114 + 1))))] (by kernel_rfl) ?_
       refine WL.done rfl ?_
       exact WX.again k120 (Nat.lt_succ_self _) ((x163, w64 (x114 + 1)), A160, c161, H162) e71 rfl ⟨(hS175.subR e73).sub e98 (by decide), hl123⟩
      refine WC.condF2 (fun fb => by kernel_rfl) h124 ?_
      refine WC.exit ?_
      injection hl123 with hl123
      exact WX.thenX (WX.thenX (WX.blockHere (WX.to Kx118 (l112, A110, c111, H113) e136 rfl ⟨(hS122.subR e73).sub e98 (by decide), hl123.symm⟩)))
    rintro ⟨y181, A115, c116, H117⟩ w178 ⟨hS179, hq180⟩
    subst hq180
    refine WX.blockN (WX.next ?_)
    refine WC.region ?_
    refine sg 3 [] e136 [e55, e56, e52, e49, (12, (sv A115 x118 c116)), (13, (iv (w64 (x90 - 1))))] (by kernel_rfl) ?_
    refine WL.done rfl ?_
    exact WX.again k96 (Nat.lt_succ_self _) ((x118, w64 (x90 - 1)), A115, c116, H117) e136 rfl ⟨(hS179.subR e73).sub e98 (by decide), hl100⟩
   refine WC.condF2 (fun fb => by kernel_rfl) h101 ?_
   refine WC.exit ?_
   injection hl100 with hl100
   exact WX.thenX (WX.thenX (WX.blockHere (WX.to Kx94 (l88, A86, c87, H89) [1, 2, 8, 10, 12] rfl ⟨(hS99.subR e73).sub e98 (by decide), hl100.symm⟩)))
 rintro ⟨y185, A91, c92, H93⟩ w182 ⟨hS183, hq184⟩
 subst hq184
 refine WX.next (WC.seq (WC.region ?_))
 refine sg 3 [] [2, 8, 10, 12, 84] [e56, e52, e49, (12, (sv A91 x94 c92)), (84, (.agg #[(iv p1), (iv p2), (.slice none 0 0)]))] (by kernel_rfl) ?_
 refine WL.new hS183 16 [] (fun g => (pt g)) (.cells #[(iv 0), (iv 0), (.slice none 0 0)] 39 (0, 0)) [] (fun fb g => by kernel_rfl) trivial (fun g186 w187 hS188 => ?_)
 refine ⟨trivial, ?_⟩
 refine WL.store hS188 0 rfl [(0, (iv p1)), (1, (iv p2)), (2, (.slice none 0 0))] #[(iv p1), (iv p2), (.slice none 0 0)] (fun fb => by kernel_rfl) (by kernel_rfl) rfl [1, 2, 3, 4, 5, 6] (by decide) (by decide) (fun w189 hS190 => ?_)
 refine ⟨trivial, ?_⟩
 refine WL.done rfl (WX.next (WC.seq (WC.region ?_)))
 refine sg 1 [] [2, 8, 10, 12, 16, 17] [e56, e52, e49, (12, (sv A91 x94 c92)), (16, (pt g186)), (17, (.pointer none))] (by kernel_rfl) ?_
 refine WL.done rfl (WX.next (WC.seq (WC.seq (WC.region ?_))))
 refine sg 2 [] [2, 8, 10, 12, 16, 17, 85, 86] [e56, e52, e49, (12, (sv A91 x94 c92)), (16, (pt g186)), (17, (.pointer none)), e141, (86, (iv 0))] (by kernel_rfl) ?_
 refine WL.done rfl (WX.next ?_)
 have hS191 := hS190.nilrow 3 encInt
 obtain ⟨x199, hx200, hf⟩ := bind_some hf
 let e68 : List Nat := [0, 1, 2, 3, 4, 5, 6, 7, 8, 9, 10, 11, 12, 13, 14, 15, 16, 17, 18, 19, 20, 21, 22]
 let e131 : List Nat := [0, 1, 2, 3, 4, 5, 6, 7, 8, 9, 10, 11, 12, 13, 14, 15, 16, 17]
 let e12 := [[], [], [], [0, 1, 2], [0, 1, 2, 3], e73, e98, [0, 1, 2, 3, 4, 5, 6], [0, 1, 2, 3, 4, 5, 6, 7], [0, 1, 2, 3, 4, 5, 6, 7, 8], e137, [0, 1, 2, 3, 4, 5, 6, 7, 8, 9, 10], [0, 1, 2, 3, 4, 5, 6, 7], [0, 1, 2, 3, 4, 5, 6, 7, 12], [0, 1, 2, 3, 4, 5, 6, 7, 8, 9, 10, 11, 12, 13], [0, 1, 2, 3, 4, 5, 6, 7, 8, 9, 10, 11, 12, 13, 14], [0, 1, 2, 3, 4, 5, 6, 7, 8, 9, 10, 11, 12, 13, 14, 15], [0, 1, 2, 3, 4, 5, 6, 7, 8, 9, 10, 11, 12, 13, 14, 15, 16], e131, e131, [0, 1, 2, 3, 4, 5, 6, 7, 8, 9, 10, 11, 12, 13, 14, 15, 16, 17, 19], [0, 1, 2, 3, 4, 5, 6, 7, 8, 9, 10, 11, 12, 13, 14, 15, 16, 17, 18, 19, 20], [0, 1, 2, 3, 4, 5, 6, 7, 8, 9, 10, 11, 12, 13, 14, 15, 16, 17, 18, 19, 20, 21], e68, e68, [0, 1, 2, 3, 4, 5, 6, 7, 8, 9, 10, 11, 12, 13, 14, 15, 16, 17, 18, 19, 20, 21, 22, 24], [0, 1, 2, 3, 4, 5, 6, 7, 8, 9, 10, 11, 12, 13, 14, 15, 16, 17, 18, 19, 20, 21, 22, 23, 24, 25], [0, 1, 2, 3, 4, 5, 6, 7, 8, 9, 10, 11, 12, 13, 14, 15, 16, 17, 18, 19, 20, 21, 22, 23, 24, 25, 26], e68, [0, 1, 2, 3, 4, 5, 6, 7, 8, 9, 10, 11, 12, 13, 14, 15, 16, 17, 18, 19, 20, 21, 22, 28], [0, 1, 2, 3, 4, 5, 6, 7, 8, 9, 10, 11, 12, 13, 14, 15, 16, 17, 18, 19, 20, 21, 22, 23, 24, 25, 26, 27, 28, 29], [0, 1, 2, 3, 4, 5, 6, 7, 8, 9, 10, 11, 12, 13, 14, 15, 16, 17, 18, 19, 20, 21, 22, 23, 24, 25, 26, 27, 28, 29, 30], [0, 1, 2, 3, 4, 5, 6, 7, 8, 9, 10, 11, 12, 13, 14, 15, 16, 17, 18, 19, 20, 21, 22, 23, 24, 25, 26, 27, 28, 29, 30, 31]]
 let e15 : Nat × Value := (93, (iv (y24.rows.length : Int)))
 let e19 : Nat × Value := (12, (sv A91 x94 c92))
 let e20 : Nat × Value := (92, (sv A21 y24.rows c22))
 let e32 : Nat × Value := (16, (pt g186))
 let e35 : Nat × Value := e49
 let e36 : Nat × Value := e52
 let e37 : Nat × Value := e141
 let e40 : Nat × Value := (19, (iv (-1)))
 let e41 : Nat × Value := e56
 let e50 : List Nat := [2, 8, 10, 12, 16, 17, 18, 19, 20, 21, 85, 86, 92, 93, 94, 115]
 let e51 : List Nat := [115, 2, 8, 10, 12, 16, 17, 18, 19, 20, 21, 85, 86, 92, 93, 94]
 let e54 : List Nat := [2, 8, 10, 12, 16, 17, 18, 19, 20, 85, 86, 92, 93, 94, 131]
 let e72 : List Nat := [2, 8, 10, 12, 16, 17, 18, 19, 85, 86, 92, 93, 94]
 let e75 := [[0, 1, 2, 3, 4, 5, 6, 7, 8, 9, 10, 12, 13, 11, 14, 15, 16, 17, 18, 19, 20, 21, 22, 23, 24, 25, 26, 28, 29, 27, 30, 31, 32]]
 let e116 : List Nat := [0, 1, 2, 3, 4, 5, 6, 7]
 let e117 : List Nat := [2, 8, 10, 12, 16, 17, 85, 86]
 let e119 := sv A21 y24.rows c22
 let e122 : List Nat := [2, 8, 10, 12, 16, 17, 18, 19, 20, 21, 85, 86, 92, 93, 94, 99, 100, 101]
 let e123 : List Nat := [2, 8, 10, 12, 16, 17, 18, 19, 20, 21, 85, 86, 92, 93, 94, 103, 104]
 let e124 : List Nat := [2, 8, 10, 12, 16, 17, 18, 19, 20, 21, 85, 86, 92, 93, 94, 116, 121]
 let e129 : List Nat := [2, 8, 10, 12, 16, 17, 18, 19, 20, 21, 85, 86, 92, 93, 94, 103]
 let e130 : List Nat := [2, 8, 10, 12, 16, 17, 18, 19, 20, 21, 85, 86, 92, 93, 94, 116]
 let e133 : List Nat := [131, 2, 8, 10, 12, 16, 17, 18, 19, 20, 85, 86, 92, 93, 94]
 let e138 : List Nat := [2, 8, 10, 12, 16, 19, 85, 86]
 let e139 : Nat × Value := (116, (bv true))
 refine WC.cutN (T := (List Int) × (Option Addr) × Nat) (fun t => [e36, e32]) (fun t w1 => St NoS w w1 e28 [blk g12 (.cells #[(iv 0), (iv 0), (.slice none 0 0)] 39 (0, 0)), blk g186 (.cells #[(iv p1), (iv p2), (sv t.2.1 t.1 t.2.2)] 39 (0, 0)), rowO 3 encInt t.2.1 t.2.2 t.1] ∧ x199 = .inr t.1) (fun Kx199 => ?_) ?_
 ·
  refine WC.block ?_
  refine WC.loop (T := ((List Int) × (Option Int) × Int) × (Option Addr) × Nat) (fun t => [e41, e36, e35, e19, e32, (17, (.pointer (oepV A21 19 t.1.2.1))), e37, (86, (iv t.1.2.2))]) (fun n t w1 => St NoS w w1 e28 [blk g12 (.cells #[(iv 0), (iv 0), (.slice none 0 0)] 39 (0, 0)), blk g20 (.cells e16 136 (0, 0)), rowO 99 encN_Row A21 c22 e79, poolO e64, rowO 103 (encMap A8_Int Bool) A91 c92 (tag H93 x94), mapsO e70 vB H93 x94, blk g186 (.cells #[(iv p1), (iv p2), (sv t.2.1 t.1.1 t.2.2)] 39 (0, 0)), rowO 3 encInt t.2.1 t.2.2 t.1.1] ∧ fill_First.l4 n t.1.1 t.1.2.1 t.1.2.2 p2 p3 y24 x94 = some x199) k ((([] : List Int), none, 0), none, 0) e117 rfl ⟨(hS191.subR e73).sub [2, 3, 4, 5, 6, 7, 1, 0] (by decide), hx200⟩ ?_
  rintro k201 ⟨⟨l194, o195, x196⟩, A192, c193⟩ w202 ⟨hS203, hl204⟩
  let e34 : Nat × Value := (86, (iv x196))
  let e39 : Nat × Value := (18, (iv x196))
  let e96 := sv A192 l194 c193
  let e99 := w64 (x196 + 1)
  cases k201 with
  | zero => rw [fill_First.l4] at hl204; cases hl204
  | succ k201 =>
   rw [fill_First.l4] at hl204
   refine WC.seq (WC.region ?_)
   refine sg 1 [] [2, 8, 10, 12, 16, 17, 85, 86, 87] [e41, e36, e35, e19, e32, (17, (.pointer (oepV A21 19 o195))), e37, e34, (87, (bv (decide (x196 < p2))))] (by kernel_rfl) ?_
   refine WL.done rfl (WX.next (WC.seq ?_))
   rcases br_some hl204 with ⟨h205, hl204⟩ | ⟨h205, hl204⟩
   ·refine WC.condT2 (fun fb => by kernel_rfl) h205 ?_
    refine WC.skip (WX.next (WC.seq (WC.block (WC.seq (WC.region ?_)))))
    refine sg 2 [] [2, 8, 10, 12, 16, 17, 18, 85, 86] [e41, e36, e35, e19, e32, (17, (.pointer (oepV A21 19 o195))), e39, e37, e34] (by kernel_rfl) ?_
    refine WL.done rfl (WX.next (WC.seq (WC.region ?_)))
    refine sg 1 [] [2, 8, 10, 12, 16, 17, 18, 19, 85, 86] [e41, e36, e35, e19, e32, (17, (.pointer (oepV A21 19 o195))), e39, e40, e37, e34] (by kernel_rfl) ?_
    refine WL.done rfl (WX.next (WC.seq (WC.seq (WC.region ?_))))
    refine seg 6 [.v e119] e72 [e41, e36, e35, e19, e32, (17, (.pointer (oepV A21 19 o195))), e39, e40, e37, e34, e20, e15, (94, (iv 0))] [.cell ⟨g20, 0, none⟩ e119] (fun fb => by kernel_rfl) rfl ⟨hS203.cell 1 rfl 0 rfl, trivial⟩ ?_
    refine WL.done rfl (WX.next ?_)
    obtain ⟨x208, hx209, hl204⟩ := bind_some hl204
    refine WC.cutN (T := Int) (fun t => [e41, e36, e35, e19, e32, (19, (iv t)), e37, e34]) (fun t w1 => St NoS w w1 e28 [blk g12 (.cells #[(iv 0), (iv 0), (.slice none 0 0)] 39 (0, 0)), blk g20 (.cells e16 136 (0, 0)), rowO 99 encN_Row A21 c22 e79, poolO e64, rowO 103 (encMap A8_Int Bool) A91 c92 (tag H93 x94), mapsO e70 vB H93 x94, blk g186 (.cells #[(iv p1), (iv p2), e96] 39 (0, 0)), rowO 3 encInt A192 c193 l194] ∧ x208 = t) (fun Kx208 => ?_) ?_
    ·
     refine WC.block ?_
     refine WC.loop (T := (Option Int) × Int) (fun t => [e41, e36, e35, e19, e32, (17, (.pointer (oepV A21 19 t.1))), e39, e40, e37, e34, e20, e15, (94, (iv t.2))]) (fun n t w1 => St NoS w w1 e28 [blk g12 (.cells #[(iv 0), (iv 0), (.slice none 0 0)] 39 (0, 0)), blk g20 (.cells e16 136 (0, 0)), rowO 99 encN_Row A21 c22 e79, poolO e64, rowO 103 (encMap A8_Int Bool) A91 c92 (tag H93 x94), mapsO e70 vB H93 x94, blk g186 (.cells #[(iv p1), (iv p2), e96] 39 (0, 0)), rowO 3 encInt A192 c193 l194] ∧ fill_First.l5 n t.1 t.2 p2 p3 y24 x94 x196 = some x208) k201 (o195, 0) e72 rfl ⟨(hS203.subR e73).sub e116 (by decide), hx209⟩ ?_
     rintro k210 ⟨o206, x207⟩ w211 ⟨hS212, hl213⟩
     let e8 := rdD y24.rows x207 z_Row
     let e11 : Array Value := #[(sv ((H23 x207.toNat 0).1) (e8.Cells) ((H23 x207.toNat 0).2)), (iv ((e8.South).e0)), (iv ((e8.South).e1)), (iv ((e8.South).e2)), (iv ((e8.South).e3)), (iv ((e8.South).e4)), (iv ((e8.South).e5)), (iv ((e8.South).e6)), (iv ((e8.South).e7)), (iv ((e8.North).e0)), (iv ((e8.North).e1)), (iv ((e8.North).e2)), (iv ((e8.North).e3)), (iv ((e8.North).e4)), (iv ((e8.North).e5)), (iv ((e8.North).e6)), (iv ((e8.North).e7)), (iv (e8.West)), (iv (e8.East))]
     let e21 := e8.South
     let e24 := e8.North
     let e31 := (adr A21).add ((x207).toNat * 19)
     let e38 := oepV A21 19 o206
     let e44 : Nat × Value := (94, (iv x207))
     let e46 := sv ((H23 x207.toNat 0).1) (e8.Cells) ((H23 x207.toNat 0).2)
     let e47 : Nat × Value := (20, (iv x207))
     let e77 : Array Value := #[(iv (e24.e0)), (iv (e24.e1)), (iv (e24.e2)), (iv (e24.e3)), (iv (e24.e4)), (iv (e24.e5)), (iv (e24.e6)), (iv (e24.e7))]
     let e88 := iv (e21.e0)
     let e89 := iv (e21.e1)
     let e90 := iv (e21.e2)
     let e91 := iv (e21.e3)
     let e92 := iv (e21.e4)
     let e93 := iv (e21.e5)
     let e94 := iv (e21.e6)
     let e95 := iv (e21.e7)
     let e108 := iv (e24.e0)
     let e109 := iv (e24.e1)
     let e110 := iv (e24.e2)
     let e111 := iv (e24.e3)
     let e112 := iv (e24.e4)
     let e113 := iv (e24.e5)
     let e114 := iv (e24.e6)
     let e115 := iv (e24.e7)
     let e127 := iv (e8.West)
     let e128 := iv (e8.East)
     cases k210 with
     | zero => rw [fill_First.l5] at hl213; cases hl213
     | succ k210 =>
      rw [fill_First.l5] at hl213
      refine WC.seq (WC.region ?_)
      refine sg 1 [] [2, 8, 10, 12, 16, 17, 18, 19, 85, 86, 92, 93, 94, 95] [e41, e36, e35, e19, e32, (17, (.pointer e38)), e39, e40, e37, e34, e20, e15, e44, (95, (bv (decide (x207 < (y24.rows.length : Int)))))] (by kernel_rfl) ?_
      refine WL.done rfl (WX.next (WC.seq ?_))
      rcases br_some hl213 with ⟨h214, hl213⟩ | ⟨h214, hl213⟩
      ·refine WC.condT2 (fun fb => by kernel_rfl) h214 ?_
       refine WC.skip (WX.next (WC.seq (WC.block (WC.seq (WC.region ?_)))))
       refine sg 1 [] [2, 8, 10, 12, 16, 17, 18, 19, 85, 86, 92, 93, 94, 96] [e41, e36, e35, e19, e32, (17, (.pointer e38)), e39, e40, e37, e34, e20, e15, e44, (96, (iv x207))] (by kernel_rfl) ?_
       obtain ⟨h215, hl213⟩ := as_some hl213
       refine seg 3 [.v e46, .v e88, .v e89, .v e90, .v e91, .v e92, .v e93, .v e94, .v e95, .v e108, .v e109, .v e110, .v e111, .v e112, .v e113, .v e114, .v e115, .v e127, .v e128] [2, 8, 10, 12, 16, 17, 18, 19, 85, 86, 92, 93, 94, 96, 98] [e41, e36, e35, e19, e32, (17, (.pointer e38)), e39, e40, e37, e34, e20, e15, e44, (96, (iv x207)), (98, (.agg e11))] [.idx A21 x207 y24.rows.length, .cell e31 e46, .cell (e31.add 1) e88, .cell (e31.add 2) e89, .cell (e31.add 3) e90, .cell (e31.add 4) e91, .cell (e31.add 5) e92, .cell (e31.add 6) e93, .cell (e31.add 7) e94, .cell (e31.add 8) e95, .cell (e31.add 9) e108, .cell (e31.add 10) e109, .cell (e31.add 11) e110, .cell (e31.add 12) e111, .cell (e31.add 13) e112, .cell (e31.add 14) e113, .cell (e31.add 15) e114, .cell (e31.add 16) e115, .cell (e31.add 17) e127, .cell (e31.add 18) e128] (fun fb => by kernel_rfl) rfl ⟨nrow_adr (rowO.rd (hS212.own 2).1) h215.1 h215.2, nrow_cell (rowO.rd (hS212.own 2).1) z_Row h215.1 h215.2 0 rfl, nrow_cell (rowO.rd (hS212.own 2).1) z_Row h215.1 h215.2 1 rfl, nrow_cell (rowO.rd (hS212.own 2).1) z_Row h215.1 h215.2 2 rfl, nrow_cell (rowO.rd (hS212.own 2).1) z_Row h215.1 h215.2 3 rfl, nrow_cell (rowO.rd (hS212.own 2).1) z_Row h215.1 h215.2 4 rfl, nrow_cell (rowO.rd (hS212.own 2).1) z_Row h215.1 h215.2 5 rfl, nrow_cell (rowO.rd (hS212.own 2).1) z_Row h215.1 h215.2 6 rfl, nrow_cell (rowO.rd (hS212.own 2).1) z_Row h215.1 h215.2 7 rfl, nrow_cell (rowO.rd (hS212.own 2).1) z_Row h215.1 h215.2 8 rfl, nrow_cell (rowO.rd (hS212.own 2).1) z_Row h215.1 h215.2 9 rfl, nrow_cell (rowO.rd (hS212.own 2).1) z_Row h215.1 h215.2 10 rfl, nrow_cell (rowO.rd (hS212.own 2).1) z_Row h215.1 h215.2 11 rfl, nrow_cell (rowO.rd (hS212.own 2).1) z_Row h215.1 h215.2 12 rfl, nrow_cell (rowO.rd (hS212.own 2).1) z_Row h215.1 h215.2 13 rfl, nrow_cell (rowO.rd (hS212.own 2).1) z_Row h215.1 h215.2 14 rfl, nrow_cell (rowO.rd (hS212.own 2).1) z_Row h215.1 h215.2 15 rfl, nrow_cell (rowO.rd (hS212.own 2).1) z_Row h215.1 h215.2 16 rfl, nrow_cell (rowO.rd (hS212.own 2).1) z_Row h215.1 h215.2 17 rfl, nrow_cell (rowO.rd (hS212.own 2).1) z_Row h215.1 h215.2 18 rfl, trivial⟩ ?_
       refine WL.new hS212 21 [] (fun g => (pt g)) (.cells #[(.slice none 0 0), (iv 0), (iv 0), (iv 0), (iv 0), (iv 0), (iv 0), (iv 0), (iv 0), (iv 0), (iv 0), (iv 0), (iv 0), (iv 0), (iv 0), (iv 0), (iv 0), (iv 0), (iv 0)] 99 (0, 0)) [] (fun fb g => by kernel_rfl) trivial (fun g216 w217 hS218 => ?_)
       refine ⟨trivial, ?_⟩
       refine sg 5 [] [2, 8, 10, 12, 16, 17, 18, 19, 20, 21, 85, 86, 92, 93, 94, 98] [e41, e36, e35, e19, e32, (17, (.pointer e38)), e39, e40, e47, (21, (pt g216)), e37, e34, e20, e15, e44, (98, (.agg e11))] (by kernel_rfl) ?_
       refine WL.store hS218 0 rfl [(0, e46), (1, e88), (2, e89), (3, e90), (4, e91), (5, e92), (6, e93), (7, e94), (8, e95), (9, e108), (10, e109), (11, e110), (12, e111), (13, e112), (14, e113), (15, e114), (16, e115), (17, e127), (18, e128)] e11 (fun fb => by kernel_rfl) (by kernel_rfl) (by kernel_rfl) [1, 2, 3, 4, 5, 6, 7, 8] (by decide) (by decide) (fun w219 hS220 => ?_)
       refine ⟨trivial, ?_⟩
       refine WL.done rfl (WX.next (WC.seq ?_))
       obtain ⟨x221, hx222, hl213⟩ := bind_some hl213
       let e13 : List (Nat × Addr × Value) := [(1, ⟨g216, 0, none⟩, e46), (1, ⟨g216, 1, none⟩, e88), (1, ⟨g216, 2, none⟩, e89), (1, ⟨g216, 3, none⟩, e90), (1, ⟨g216, 4, none⟩, e91), (1, ⟨g216, 5, none⟩, e92), (1, ⟨g216, 6, none⟩, e93), (1, ⟨g216, 7, none⟩, e94), (1, ⟨g216, 8, none⟩, e95), (1, ⟨g216, 9, none⟩, e108), (1, ⟨g216, 10, none⟩, e109), (1, ⟨g216, 11, none⟩, e110), (1, ⟨g216, 12, none⟩, e111), (1, ⟨g216, 13, none⟩, e112), (1, ⟨g216, 14, none⟩, e113), (1, ⟨g216, 15, none⟩, e114), (1, ⟨g216, 16, none⟩, e115), (1, ⟨g216, 17, none⟩, e127), (1, ⟨g216, 18, none⟩, e128), (13, ⟨g216, 1, none⟩, e88), (13, ⟨g216, 2, none⟩, e89), (13, ⟨g216, 3, none⟩, e90), (13, ⟨g216, 4, none⟩, e91), (13, ⟨g216, 5, none⟩, e92), (13, ⟨g216, 6, none⟩, e93), (13, ⟨g216, 7, none⟩, e94), (13, ⟨g216, 8, none⟩, e95), (29, ⟨g216, 9, none⟩, e108), (29, ⟨g216, 10, none⟩, e109), (29, ⟨g216, 11, none⟩, e110), (29, ⟨g216, 12, none⟩, e111), (29, ⟨g216, 13, none⟩, e112), (29, ⟨g216, 14, none⟩, e113), (29, ⟨g216, 15, none⟩, e114), (29, ⟨g216, 16, none⟩, e115)]
       let e18 : List (Nat × Addr × Value) := [(1, ⟨g216, 0, none⟩, e46), (1, ⟨g216, 1, none⟩, e88), (1, ⟨g216, 2, none⟩, e89), (1, ⟨g216, 3, none⟩, e90), (1, ⟨g216, 4, none⟩, e91), (1, ⟨g216, 5, none⟩, e92), (1, ⟨g216, 6, none⟩, e93), (1, ⟨g216, 7, none⟩, e94), (1, ⟨g216, 8, none⟩, e95), (1, ⟨g216, 9, none⟩, e108), (1, ⟨g216, 10, none⟩, e109), (1, ⟨g216, 11, none⟩, e110), (1, ⟨g216, 12, none⟩, e111), (1, ⟨g216, 13, none⟩, e112), (1, ⟨g216, 14, none⟩, e113), (1, ⟨g216, 15, none⟩, e114), (1, ⟨g216, 16, none⟩, e115), (1, ⟨g216, 17, none⟩, e127), (1, ⟨g216, 18, none⟩, e128)]
       let e48 : List (Nat × Addr × Value) := [(13, ⟨g216, 1, none⟩, e88), (13, ⟨g216, 2, none⟩, e89), (13, ⟨g216, 3, none⟩, e90), (13, ⟨g216, 4, none⟩, e91), (13, ⟨g216, 5, none⟩, e92), (13, ⟨g216, 6, none⟩, e93), (13, ⟨g216, 7, none⟩, e94), (13, ⟨g216, 8, none⟩, e95)]
       let e62 : Nat × Value := (21, (pt g216))
       let e78 := (e13, [0, 1, 2, 4, 5, 6, 7, 8, 9, 10, 12, 13, 14, 15, 16, 17, 18, 19, 20, 21, 22, 23, 24, 25, 26, 28, 29, 31, 32], e12)
       refine WC.cutN (T := Bool) (fun t => [e41, e36, e35, e19, e32, (17, (.pointer e38)), e39, e40, e47, e37, e34, e20, e15, e44, (131, (bv t))]) (fun t w1 => St NoS w w1 e28 [blk g12 (.cells #[(iv 0), (iv 0), (.slice none 0 0)] 39 (0, 0)), blk g20 (.cells e16 136 (0, 0)), rowO 99 encN_Row A21 c22 e79, poolO e64, rowO 103 (encMap A8_Int Bool) A91 c92 (tag H93 x94), mapsO e70 vB H93 x94, blk g186 (.cells #[(iv p1), (iv p2), e96] 39 (0, 0)), rowO 3 encInt A192 c193 l194] ∧ x221 = t) (fun Kx221 => ?_) ?_
       ·
        rcases br_some hx222 with ⟨h223, hx222⟩ | ⟨h223, hx222⟩
        ·
         refine WC.regionD e78 e75 (by kernel_rfl) (by kernel_rfl) (NoPanic.seq (NoPanic.block (NoPanic.seq (NoPanic.seq (NoPanic.block (NoPanic.seq (NoPanic.block (NoPanic.seq (NoPanic.seq (NoPanic.block (NoPanic.seq (NoPanic.body)))))))))))) ?_
         have hS225 := hS220.drew
         revert hS225
         generalize World.drew w219 = w224
         intro hS225
         refine ⟨⟨hS225.cell 0 rfl 0 rfl, hS225.cell 0 rfl 1 rfl, hS225.cell 0 rfl 2 rfl, hS225.cell 0 rfl 3 rfl, hS225.cell 0 rfl 4 rfl, hS225.cell 0 rfl 5 rfl, hS225.cell 0 rfl 6 rfl, hS225.cell 0 rfl 7 rfl, hS225.cell 0 rfl 8 rfl, hS225.cell 0 rfl 9 rfl, hS225.cell 0 rfl 10 rfl, hS225.cell 0 rfl 11 rfl, hS225.cell 0 rfl 12 rfl, hS225.cell 0 rfl 13 rfl, hS225.cell 0 rfl 14 rfl, hS225.cell 0 rfl 15 rfl, hS225.cell 0 rfl 16 rfl, hS225.cell 0 rfl 17 rfl, hS225.cell 0 rfl 18 rfl, hS225.cell 0 rfl 1 rfl, hS225.cell 0 rfl 2 rfl, hS225.cell 0 rfl 3 rfl, hS225.cell 0 rfl 4 rfl, hS225.cell 0 rfl 5 rfl, hS225.cell 0 rfl 6 rfl, hS225.cell 0 rfl 7 rfl, hS225.cell 0 rfl 8 rfl, hS225.cell 0 rfl 9 rfl, hS225.cell 0 rfl 10 rfl, hS225.cell 0 rfl 11 rfl, hS225.cell 0 rfl 12 rfl, hS225.cell 0 rfl 13 rfl, hS225.cell 0 rfl 14 rfl, hS225.cell 0 rfl 15 rfl, hS225.cell 0 rfl 16 rfl, trivial⟩, forallC ?_ (forallN)⟩
         refine segF 3 [.v e46, .v e88, .v e89, .v e90, .v e91, .v e92, .v e93, .v e94, .v e95, .v e108, .v e109, .v e110, .v e111, .v e112, .v e113, .v e114, .v e115, .v e127, .v e128] e122 [e41, e36, e35, e19, e32, (17, (.pointer e38)), e39, e40, e47, e62, e37, e34, e20, e15, e44, (99, (pt g20)), (100, (.agg e11)), (101, (iv x196))] [] e74 e18 (fun fb => by kernel_rfl) rfl trivial rfl ?_
         obtain ⟨t226, ht227, hx222⟩ := bind_some hx222
         refine WL.call (some 102) 94 #[(pt g20), (.agg e11), (iv x196)] (fun fb => by kernel_rfl) (fill_job_allows_calls _ (Job.mk y24.rows y24.width y24.height p3) e8 x196 g20 A21 c22 H23 Ab cb Ac cc Ad cd Ae ce ((H23 x207.toNat 0).1) ((H23 x207.toNat 0).2) t226 _ (hS225.ow 2) (hS225.ow 3).ofO (poolO.ro (hS225.ow 4) 0) (hS225.rd 1) (hS225.rd 2) (hS225.rd 3) (hS225.rd 4) (nestO.ro (poolO.ro (hS225.ow 4) 0) z_Row h215.1 h215.2) ht227) (fun v w228 hR229 => ?_)
         obtain ⟨rfl, hk_⟩ := hR229
         have hS230 := hS225.keepN hk_
         refine ⟨⟨hS230.cell 0 rfl 1 rfl, hS230.cell 0 rfl 2 rfl, hS230.cell 0 rfl 3 rfl, hS230.cell 0 rfl 4 rfl, hS230.cell 0 rfl 5 rfl, hS230.cell 0 rfl 6 rfl, hS230.cell 0 rfl 7 rfl, hS230.cell 0 rfl 8 rfl, hS230.cell 0 rfl 9 rfl, hS230.cell 0 rfl 10 rfl, hS230.cell 0 rfl 11 rfl, hS230.cell 0 rfl 12 rfl, hS230.cell 0 rfl 13 rfl, hS230.cell 0 rfl 14 rfl, hS230.cell 0 rfl 15 rfl, hS230.cell 0 rfl 16 rfl, trivial⟩, ?_⟩
         refine sg 5 [] e129 [e41, e36, e35, e19, e32, (17, (.pointer e38)), e39, e40, e47, e62, e37, e34, e20, e15, e44, (103, (bv t226))] (by kernel_rfl) ?_
         obtain ⟨b231, hv232, hx222⟩ := bind_some hx222
         refine WL.cutV (T := Unit) 17 (fun t => [(115, (bv b231)), e41, e36, e35, e19, e32, (17, (.pointer e38)), e39, e40, e47, e62, e37, e34, e20, e15, e44]) (fun t => True) (fun K => ?_) ?_
         ·
          rcases br_some hv232 with ⟨h233, hv232⟩ | ⟨h233, hv232⟩
          ·
           refine WL.setB 103 h233 rfl ?_
           refine sg 6 [] e123 [e41, e36, e35, e19, e32, (17, (.pointer e38)), e39, e40, e47, e62, e37, e34, e20, e15, e44, (103, (bv true)), (104, (.pointer e38))] (by kernel_rfl) ?_
           rcases optM_some hv232 with ⟨ho234, hv232⟩ | ⟨i235, ho234, hv232⟩
           ·
            have ho234 : o206 = none := ho234
            refine WL.reE [2, 8, 10, 12, 16, 17, 18, 19, 20, 21, 85, 86, 92, 93, 94, 103, 104] [(2, (iv p2)), (8, (pt g12)), (10, (pt g20)), (12, (.slice A91 x94.length c92)), (16, (pt g186)), (17, (.pointer (oepV A21 19 o206))), (18, (iv x196)), (19, (iv (-1))), (20, (iv x207)), (21, (pt g216)), (85, (iv p2)), (86, (iv x196)), (92, (.slice A21 y24.rows.length c22)), (93, (iv (y24.rows.length : Int))), (94, (iv x207)), (103, (.bool true)), (104, (.pointer (oepV A21 19 o206)))] [(2, (iv p2)), (8, (pt g12)), (10, (pt g20)), (12, (.slice A91 x94.length c92)), (16, (pt g186)), (17, (.pointer none)), (18, (iv x196)), (19, (iv (-1))), (20, (iv x207)), (21, (pt g216)), (85, (iv p2)), (86, (iv x196)), (92, (.slice A21 y24.rows.length c22)), (93, (iv (y24.rows.length : Int))), (94, (iv x207)), (103, (.bool true)), (104, (.pointer none))] rfl (by rw [ho234]; rfl) ?_
            refine sg 17 [] e50 [e41, e36, e35, e19, e32, (17, (.pointer none)), e39, e40, e47, e62, e37, e34, e20, e15, e44, (115, (bv true))] (by kernel_rfl) ?_
            refine WL.reE [2, 8, 10, 12, 16, 17, 18, 19, 20, 21, 85, 86, 92, 93, 94, 115] [(2, (iv p2)), (8, (pt g12)), (10, (pt g20)), (12, (.slice A91 x94.length c92)), (16, (pt g186)), (17, (.pointer none)), (18, (iv x196)), (19, (iv (-1))), (20, (iv x207)), (21, (pt g216)), (85, (iv p2)), (86, (iv x196)), (92, (.slice A21 y24.rows.length c22)), (93, (iv (y24.rows.length : Int))), (94, (iv x207)), (115, (.bool true))] [(2, (iv p2)), (8, (pt g12)), (10, (pt g20)), (12, (.slice A91 x94.length c92)), (16, (pt g186)), (17, (.pointer (oepV A21 19 o206))), (18, (iv x196)), (19, (iv (-1))), (20, (iv x207)), (21, (pt g216)), (85, (iv p2)), (86, (iv x196)), (92, (.slice A21 y24.rows.length c22)), (93, (iv (y24.rows.length : Int))), (94, (iv x207)), (115, (.bool true))] rfl (by rw [ho234]; rfl) ?_
            injection hv232 with hv232
            subst hv232
            exact WL.toV K () e51 rfl trivial
           have ho234 : o206 = some i235 := ho234
           refine WL.reE [2, 8, 10, 12, 16, 17, 18, 19, 20, 21, 85, 86, 92, 93, 94, 103, 104] [(2, (iv p2)), (8, (pt g12)), (10, (pt g20)), (12, (.slice A91 x94.length c92)), (16, (pt g186)), (17, (.pointer (oepV A21 19 o206))), (18, (iv x196)), (19, (iv (-1))), (20, (iv x207)), (21, (pt g216)), (85, (iv p2)), (86, (iv x196)), (92, (.slice A21 y24.rows.length c22)), (93, (iv (y24.rows.length : Int))), (94, (iv x207)), (103, (.bool true)), (104, (.pointer (oepV A21 19 o206)))] [(2, (iv p2)), (8, (pt g12)), (10, (pt g20)), (12, (.slice A91 x94.length c92)), (16, (pt g186)), (17, (.pointer (some ((adr A21).add ((i235).toNat * 19))))), (18, (iv x196)), (19, (iv (-1))), (20, (iv x207)), (21, (pt g216)), (85, (iv p2)), (86, (iv x196)), (92, (.slice A21 y24.rows.length c22)), (93, (iv (y24.rows.length : Int))), (94, (iv x207)), (103, (.bool true)), (104, (.pointer (some ((adr A21).add ((i235).toNat * 19)))))] rfl (by rw [ho234]; rfl) ?_
           obtain ⟨h236, hv232⟩ := as_some hv232
           let e26 := (rdD y24.rows i235 z_Row).North
           let e59 := (adr A21).add ((i235).toNat * 19)
           refine segF 17 [.v e88, .v e89, .v e90, .v e91, .v e92, .v e93, .v e94, .v e95, .v (iv (e26.e0)), .v (iv (e26.e1)), .v (iv (e26.e2)), .v (iv (e26.e3)), .v (iv (e26.e4)), .v (iv (e26.e5)), .v (iv (e26.e6)), .v (iv (e26.e7))] e50 [e41, e36, e35, e19, e32, (17, (.pointer (some e59))), e39, e40, e47, e62, e37, e34, e20, e15, e44, (115, (bv ((e26.e0) == (e21.e0) && ((e26.e1) == (e21.e1) && ((e26.e2) == (e21.e2) && ((e26.e3) == (e21.e3) && ((e26.e4) == (e21.e4) && ((e26.e5) == (e21.e5) && ((e26.e6) == (e21.e6) && ((e26.e7) == (e21.e7)))))))))))] [.cell (e59.add 9) (iv (e26.e0)), .cell (e59.add 10) (iv (e26.e1)), .cell (e59.add 11) (iv (e26.e2)), .cell (e59.add 12) (iv (e26.e3)), .cell (e59.add 13) (iv (e26.e4)), .cell (e59.add 14) (iv (e26.e5)), .cell (e59.add 15) (iv (e26.e6)), .cell (e59.add 16) (iv (e26.e7))] [19, 20, 21, 22, 23, 24, 25, 26] e48 (fun fb => by kernel_rfl) rfl ⟨nrow_cell (rowO.rd (hS230.own 3).1) z_Row h236.1 h236.2 9 rfl, nrow_cell (rowO.rd (hS230.own 3).1) z_Row h236.1 h236.2 10 rfl, nrow_cell (rowO.rd (hS230.own 3).1) z_Row h236.1 h236.2 11 rfl, nrow_cell (rowO.rd (hS230.own 3).1) z_Row h236.1 h236.2 12 rfl, nrow_cell (rowO.rd (hS230.own 3).1) z_Row h236.1 h236.2 13 rfl, nrow_cell (rowO.rd (hS230.own 3).1) z_Row h236.1 h236.2 14 rfl, nrow_cell (rowO.rd (hS230.own 3).1) z_Row h236.1 h236.2 15 rfl, nrow_cell (rowO.rd (hS230.own 3).1) z_Row h236.1 h236.2 16 rfl, trivial⟩ rfl ?_
           refine WL.reE [2, 8, 10, 12, 16, 17, 18, 19, 20, 21, 85, 86, 92, 93, 94, 115] [(2, (iv p2)), (8, (pt g12)), (10, (pt g20)), (12, (.slice A91 x94.length c92)), (16, (pt g186)), (17, (.pointer (some ((adr A21).add ((i235).toNat * 19))))), (18, (iv x196)), (19, (iv (-1))), (20, (iv x207)), (21, (pt g216)), (85, (iv p2)), (86, (iv x196)), (92, (.slice A21 y24.rows.length c22)), (93, (iv (y24.rows.length : Int))), (94, (iv x207)), (115, (.bool ((((rdD y24.rows i235 z_Row).North).e0) == (((rdD y24.rows x207 z_Row).South).e0) && ((((rdD y24.rows i235 z_Row).North).e1) == (((rdD y24.rows x207 z_Row).South).e1) && ((((rdD y24.rows i235 z_Row).North).e2) == (((rdD y24.rows x207 z_Row).South).e2) && ((((rdD y24.rows i235 z_Row).North).e3) == (((rdD y24.rows x207 z_Row).South).e3) && ((((rdD y24.rows i235 z_Row).North).e4) == (((rdD y24.rows x207 z_Row).South).e4) && ((((rdD y24.rows i235 z_Row).North).e5) == (((rdD y24.rows x207 z_Row).South).e5) && ((((rdD y24.rows i235 z_Row).North).e6) == (((rdD y24.rows x207 z_Row).South).e6) && ((((rdD y24.rows i235 z_Row).North).e7) == (((rdD y24.rows x207 z_Row).South).e7)))))))))))] [(2, (iv p2)), (8, (pt g12)), (10, (pt g20)), (12, (.slice A91 x94.length c92)), (16, (pt g186)), (17, (.pointer (oepV A21 19 o206))), (18, (iv x196)), (19, (iv (-1))), (20, (iv x207)), (21, (pt g216)), (85, (iv p2)), (86, (iv x196)), (92, (.slice A21 y24.rows.length c22)), (93, (iv (y24.rows.length : Int))), (94, (iv x207)), (115, (.bool ((((rdD y24.rows i235 z_Row).North).e0) == (((rdD y24.rows x207 z_Row).South).e0) && ((((rdD y24.rows i235 z_Row).North).e1) == (((rdD y24.rows x207 z_Row).South).e1) && ((((rdD y24.rows i235 z_Row).North).e2) == (((rdD y24.rows x207 z_Row).South).e2) && ((((rdD y24.rows i235 z_Row).North).e3) == (((rdD y24.rows x207 z_Row).South).e3) && ((((rdD y24.rows i235 z_Row).North).e4) == (((rdD y24.rows x207 z_Row).South).e4) && ((((rdD y24.rows i235 z_Row).North).e5) == (((rdD y24.rows x207 z_Row).South).e5) && ((((rdD y24.rows i235 z_Row).North).e6) == (((rdD y24.rows x207 z_Row).South).e6) && ((((rdD y24.rows i235 z_Row).North).e7) == (((rdD y24.rows x207 z_Row).South).e7)))))))))))] rfl (by rw [ho234]; rfl) ?_
           injection hv232 with hv232
           subst hv232
           exact WL.toV K () e51 rfl trivial
          refine WL.setB 103 h233 rfl ?_
          refine sg 17 [] e50 [e41, e36, e35, e19, e32, (17, (.pointer e38)), e39, e40, e47, e62, e37, e34, e20, e15, e44, (115, (bv false))] (by kernel_rfl) ?_
          injection hv232 with hv232
          subst hv232
          exact WL.toV K () e51 rfl trivial
         rintro _ _
         refine sg 18 [] e130 [e41, e36, e35, e19, e32, (17, (.pointer e38)), e39, e40, e47, e62, e37, e34, e20, e15, e44, (116, (bv b231))] (by kernel_rfl) ?_
         refine WL.cutV (T := Bool) 33 (fun t => [(131, (bv t)), e41, e36, e35, e19, e32, (17, (.pointer e38)), e39, e40, e47, e37, e34, e20, e15, e44]) (fun t => b231 = t) (fun K => ?_) ?_
         ·
          rcases Bool.eq_false_or_eq_true b231 with h237 | h237
          ·
           refine WL.setB 116 h237 rfl ?_
           refine sg 23 [] e124 [e41, e36, e35, e19, e32, (17, (.pointer e38)), e39, e40, e47, e62, e37, e34, e20, e15, e44, e139, (121, (bv (x196 == e69)))] (by kernel_rfl) ?_
           refine WL.setB 121 h223 rfl ?_
           refine sg 33 [] e54 [e41, e36, e35, e19, e32, (17, (.pointer e38)), e39, e40, e47, e37, e34, e20, e15, e44, (131, (bv true))] (by kernel_rfl) ?_
           exact WL.toV K true [131, 2, 8, 10, 12, 16, 17, 18, 19, 20, 85, 86, 92, 93, 94] rfl (by first | (rw [h237]; done) | (rw [h237]; rfl))
          refine WL.setB 116 h237 rfl ?_
          refine sg 33 [] e54 [e41, e36, e35, e19, e32, (17, (.pointer e38)), e39, e40, e47, e37, e34, e20, e15, e44, (131, (bv false))] (by kernel_rfl) ?_
          exact WL.toV K false [131, 2, 8, 10, 12, 16, 17, 18, 19, 20, 85, 86, 92, 93, 94] rfl (by first | (rw [h237]; done) | (rw [h237]; rfl))
         rintro b238 rfl
         refine WL.done rfl ?_
         injection hx222 with hx222
         exact WX.to Kx221 b231 e54 rfl ⟨(hS230.subR e73).sub [1, 2, 3, 4, 5, 6, 7, 8] (by decide), hx222.symm⟩
        refine WC.regionD e78 e75 (by kernel_rfl) (by kernel_rfl) (NoPanic.seq (NoPanic.block (NoPanic.seq (NoPanic.seq (NoPanic.block (NoPanic.seq (NoPanic.block (NoPanic.seq (NoPanic.seq (NoPanic.block (NoPanic.seq (NoPanic.body)))))))))))) ?_
        have hS240 := hS220.drew
        revert hS240
        generalize World.drew w219 = w239
        intro hS240
        refine ⟨⟨hS240.cell 0 rfl 0 rfl, hS240.cell 0 rfl 1 rfl, hS240.cell 0 rfl 2 rfl, hS240.cell 0 rfl 3 rfl, hS240.cell 0 rfl 4 rfl, hS240.cell 0 rfl 5 rfl, hS240.cell 0 rfl 6 rfl, hS240.cell 0 rfl 7 rfl, hS240.cell 0 rfl 8 rfl, hS240.cell 0 rfl 9 rfl, hS240.cell 0 rfl 10 rfl, hS240.cell 0 rfl 11 rfl, hS240.cell 0 rfl 12 rfl, hS240.cell 0 rfl 13 rfl, hS240.cell 0 rfl 14 rfl, hS240.cell 0 rfl 15 rfl, hS240.cell 0 rfl 16 rfl, hS240.cell 0 rfl 17 rfl, hS240.cell 0 rfl 18 rfl, hS240.cell 0 rfl 1 rfl, hS240.cell 0 rfl 2 rfl, hS240.cell 0 rfl 3 rfl, hS240.cell 0 rfl 4 rfl, hS240.cell 0 rfl 5 rfl, hS240.cell 0 rfl 6 rfl, hS240.cell 0 rfl 7 rfl, hS240.cell 0 rfl 8 rfl, hS240.cell 0 rfl 9 rfl, hS240.cell 0 rfl 10 rfl, hS240.cell 0 rfl 11 rfl, hS240.cell 0 rfl 12 rfl, hS240.cell 0 rfl 13 rfl, hS240.cell 0 rfl 14 rfl, hS240.cell 0 rfl 15 rfl, hS240.cell 0 rfl 16 rfl, trivial⟩, forallC ?_ (forallN)⟩
        refine segF 3 [.v e46, .v e88, .v e89, .v e90, .v e91, .v e92, .v e93, .v e94, .v e95, .v e108, .v e109, .v e110, .v e111, .v e112, .v e113, .v e114, .v e115, .v e127, .v e128] e122 [e41, e36, e35, e19, e32, (17, (.pointer e38)), e39, e40, e47, e62, e37, e34, e20, e15, e44, (99, (pt g20)), (100, (.agg e11)), (101, (iv x196))] [] e74 e18 (fun fb => by kernel_rfl) rfl trivial rfl ?_
        obtain ⟨t241, ht242, hx222⟩ := bind_some hx222
        refine WL.call (some 102) 94 #[(pt g20), (.agg e11), (iv x196)] (fun fb => by kernel_rfl) (fill_job_allows_calls _ (Job.mk y24.rows y24.width y24.height p3) e8 x196 g20 A21 c22 H23 Ab cb Ac cc Ad cd Ae ce ((H23 x207.toNat 0).1) ((H23 x207.toNat 0).2) t241 _ (hS240.ow 2) (hS240.ow 3).ofO (poolO.ro (hS240.ow 4) 0) (hS240.rd 1) (hS240.rd 2) (hS240.rd 3) (hS240.rd 4) (nestO.ro (poolO.ro (hS240.ow 4) 0) z_Row h215.1 h215.2) ht242) (fun v w243 hR244 => ?_)
        obtain ⟨rfl, hk_⟩ := hR244
        have hS245 := hS240.keepN hk_
        refine ⟨⟨hS245.cell 0 rfl 1 rfl, hS245.cell 0 rfl 2 rfl, hS245.cell 0 rfl 3 rfl, hS245.cell 0 rfl 4 rfl, hS245.cell 0 rfl 5 rfl, hS245.cell 0 rfl 6 rfl, hS245.cell 0 rfl 7 rfl, hS245.cell 0 rfl 8 rfl, hS245.cell 0 rfl 9 rfl, hS245.cell 0 rfl 10 rfl, hS245.cell 0 rfl 11 rfl, hS245.cell 0 rfl 12 rfl, hS245.cell 0 rfl 13 rfl, hS245.cell 0 rfl 14 rfl, hS245.cell 0 rfl 15 rfl, hS245.cell 0 rfl 16 rfl, trivial⟩, ?_⟩
        refine sg 5 [] e129 [e41, e36, e35, e19, e32, (17, (.pointer e38)), e39, e40, e47, e62, e37, e34, e20, e15, e44, (103, (bv t241))] (by kernel_rfl) ?_
        obtain ⟨b246, hv247, hx222⟩ := bind_some hx222
        refine WL.cutV (T := Unit) 17 (fun t => [(115, (bv b246)), e41, e36, e35, e19, e32, (17, (.pointer e38)), e39, e40, e47, e62, e37, e34, e20, e15, e44]) (fun t => True) (fun K => ?_) ?_
        ·
         rcases br_some hv247 with ⟨h248, hv247⟩ | ⟨h248, hv247⟩
         ·
          refine WL.setB 103 h248 rfl ?_
          refine sg 6 [] e123 [e41, e36, e35, e19, e32, (17, (.pointer e38)), e39, e40, e47, e62, e37, e34, e20, e15, e44, (103, (bv true)), (104, (.pointer e38))] (by kernel_rfl) ?_
          rcases optM_some hv247 with ⟨ho249, hv247⟩ | ⟨i250, ho249, hv247⟩
          ·
           have ho249 : o206 = none := ho249
           refine WL.reE [2, 8, 10, 12, 16, 17, 18, 19, 20, 21, 85, 86, 92, 93, 94, 103, 104] [(2, (iv p2)), (8, (pt g12)), (10, (pt g20)), (12, (.slice A91 x94.length c92)), (16, (pt g186)), (17, (.pointer (oepV A21 19 o206))), (18, (iv x196)), (19, (iv (-1))), (20, (iv x207)), (21, (pt g216)), (85, (iv p2)), (86, (iv x196)), (92, (.slice A21 y24.rows.length c22)), (93, (iv (y24.rows.length : Int))), (94, (iv x207)), (103, (.bool true)), (104, (.pointer (oepV A21 19 o206)))] [(2, (iv p2)), (8, (pt g12)), (10, (pt g20)), (12, (.slice A91 x94.length c92)), (16, (pt g186)), (17, (.pointer none)), (18, (iv x196)), (19, (iv (-1))), (20, (iv x207)), (21, (pt g216)), (85, (iv p2)), (86, (iv x196)), (92, (.slice A21 y24.rows.length c22)), (93, (iv (y24.rows.length : Int))), (94, (iv x207)), (103, (.bool true)), (104, (.pointer none))] rfl (by rw [ho249]; rfl) ?_
           refine sg 17 [] e50 [e41, e36, e35, e19, e32, (17, (.pointer none)), e39, e40, e47, e62, e37, e34, e20, e15, e44, (115, (bv true))] (by kernel_rfl) ?_
           refine WL.reE [2, 8, 10, 12, 16, 17, 18, 19, 20, 21, 85, 86, 92, 93, 94, 115] [(2, (iv p2)), (8, (pt g12)), (10, (pt g20)), (12, (.slice A91 x94.length c92)), (16, (pt g186)), (17, (.pointer none)), (18, (iv x196)), (19, (iv (-1))), (20, (iv x207)), (21, (pt g216)), (85, (iv p2)), (86, (iv x196)), (92, (.slice A21 y24.rows.length c22)), (93, (iv (y24.rows.length : Int))), (94, (iv x207)), (115, (.bool true))] [(2, (iv p2)), (8, (pt g12)), (10, (pt g20)), (12, (.slice A91 x94.length c92)), (16, (pt g186)), (17, (.pointer (oepV A21 19 o206))), (18, (iv x196)), (19, (iv (-1))), (20, (iv x207)), (21, (pt g216)), (85, (iv p2)), (86, (iv x196)), (92, (.slice A21 y24.rows.length c22)), (93, (iv (y24.rows.length : Int))), (94, (iv x207)), (115, (.bool true))] rfl (by rw [ho249]; rfl) ?_
           injection hv247 with hv247
           subst hv247
           exact WL.toV K () e51 rfl trivial
          have ho249 : o206 = some i250 := ho249
          refine WL.reE [2, 8, 10, 12, 16, 17, 18, 19, 20, 21, 85, 86, 92, 93, 94, 103, 104] [(2, (iv p2)), (8, (pt g12)), (10, (pt g20)), (12, (.slice A91 x94.length c92)), (16, (pt g186)), (17, (.pointer (oepV A21 19 o206))), (18, (iv x196)), (19, (iv (-1))), (20, (iv x207)), (21, (pt g216)), (85, (iv p2)), (86, (iv x196)), (92, (.slice A21 y24.rows.length c22)), (93, (iv (y24.rows.length : Int))), (94, (iv x207)), (103, (.bool true)), (104, (.pointer (oepV A21 19 o206)))] [(2, (iv p2)), (8, (pt g12)), (10, (pt g20)), (12, (.slice A91 x94.length c92)), (16, (pt g186)), (17, (.pointer (some ((adr A21).add ((i250).toNat * 19))))), (18, (iv x196)), (19, (iv (-1))), (20, (iv x207)), (21, (pt g216)), (85, (iv p2)), (86, (iv x196)), (92, (.slice A21 y24.rows.length c22)), (93, (iv (y24.rows.length : Int))), (94, (iv x207)), (103, (.bool true)), (104, (.pointer (some ((adr A21).add ((i250).toNat * 19)))))] rfl (by rw [ho249]; rfl) ?_
          obtain ⟨h251, hv247⟩ := as_some hv247
          let e25 := (rdD y24.rows i250 z_Row).North
          let e58 := (adr A21).add ((i250).toNat * 19)
          refine segF 17 [.v e88, .v e89, .v e90, .v e91, .v e92, .v e93, .v e94, .v e95, .v (iv (e25.e0)), .v (iv (e25.e1)), .v (iv (e25.e2)), .v (iv (e25.e3)), .v (iv (e25.e4)), .v (iv (e25.e5)), .v (iv (e25.e6)), .v (iv (e25.e7))] e50 [e41, e36, e35, e19, e32, (17, (.pointer (some e58))), e39, e40, e47, e62, e37, e34, e20, e15, e44, (115, (bv ((e25.e0) == (e21.e0) && ((e25.e1) == (e21.e1) && ((e25.e2) == (e21.e2) && ((e25.e3) == (e21.e3) && ((e25.e4) == (e21.e4) && ((e25.e5) == (e21.e5) && ((e25.e6) == (e21.e6) && ((e25.e7) == (e21.e7)))))))))))] [.cell (e58.add 9) (iv (e25.e0)), .cell (e58.add 10) (iv (e25.e1)), .cell (e58.add 11) (iv (e25.e2)), .cell (e58.add 12) (iv (e25.e3)), .cell (e58.add 13) (iv (e25.e4)), .cell (e58.add 14) (iv (e25.e5)), .cell (e58.add 15) (iv (e25.e6)), .cell (e58.add 16) (iv (e25.e7))] [19, 20, 21, 22, 23, 24, 25, 26] e48 (fun fb => by kernel_rfl) rfl ⟨nrow_cell (rowO.rd (hS245.own 3).1) z_Row h251.1 h251.2 9 rfl, nrow_cell (rowO.rd (hS245.own 3).1) z_Row h251.1 h251.2 10 rfl, nrow_cell (rowO.rd (hS245.own 3).1) z_Row h251.1 h251.2 11 rfl, nrow_cell (rowO.rd (hS245.own 3).1) z_Row h251.1 h251.2 12 rfl, nrow_cell (rowO.rd (hS245.own 3).1) z_Row h251.1 h251.2 13 rfl, nrow_cell (rowO.rd (hS245.own 3).1) z_Row h251.1 h251.2 14 rfl, nrow_cell (rowO.rd (hS245.own 3).1) z_Row h251.1 h251.2 15 rfl, nrow_cell (rowO.rd (hS245.own 3).1) z_Row h251.1 h251.2 16 rfl, trivial⟩ rfl ?_
          refine WL.reE [2, 8, 10, 12, 16, 17, 18, 19, 20, 21, 85, 86, 92, 93, 94, 115] [(2, (iv p2)), (8, (pt g12)), (10, (pt g20)), (12, (.slice A91 x94.length c92)), (16, (pt g186)), (17, (.pointer (some ((adr A21).add ((i250).toNat * 19))))), (18, (iv x196)), (19, (iv (-1))), (20, (iv x207)), (21, (pt g216)), (85, (iv p2)), (86, (iv x196)), (92, (.slice A21 y24.rows.length c22)), (93, (iv (y24.rows.length : Int))), (94, (iv x207)), (115, (.bool ((((rdD y24.rows i250 z_Row).North).e0) == (((rdD y24.rows x207 z_Row).South).e0) && ((((rdD y24.rows i250 z_Row).North).e1) == (((rdD y24.rows x207 z_Row).South).e1) && ((((rdD y24.rows i250 z_Row).North).e2) == (((rdD y24.rows x207 z_Row).South).e2) && ((((rdD y24.rows i250 z_Row).North).e3) == (((rdD y24.rows x207 z_Row).South).e3) && ((((rdD y24.rows i250 z_Row).North).e4) == (((rdD y24.rows x207 z_Row).South).e4) && ((((rdD y24.rows i250 z_Row).North).e5) == (((rdD y24.rows x207 z_Row).South).e5) && ((((rdD y24.rows i250 z_Row).North).e6) == (((rdD y24.rows x207 z_Row).South).e6) && ((((rdD y24.rows i250 z_Row).North).e7) == (((rdD y24.rows x207 z_Row).South).e7)))))))))))] [(2, (iv p2)), (8, (pt g12)), (10, (pt g20)), (12, (.slice A91 x94.length c92)), (16, (pt g186)), (17, (.pointer (oepV A21 19 o206))), (18, (iv x196)), (19, (iv (-1))), (20, (iv x207)), (21, (pt g216)), (85, (iv p2)), (86, (iv x196)), (92, (.slice A21 y24.rows.length c22)), (93, (iv (y24.rows.length : Int))), (94, (iv x207)), (115, (.bool ((((rdD y24.rows i250 z_Row).North).e0) == (((rdD y24.rows x207 z_Row).South).e0) && ((((rdD y24.rows i250 z_Row).North).e1) == (((rdD y24.rows x207 z_Row).South).e1) && ((((rdD y24.rows i250 z_Row).North).e2) == (((rdD y24.rows x207 z_Row).South).e2) && ((((rdD y24.rows i250 z_Row).North).e3) == (((rdD y24.rows x207 z_Row).South).e3) && ((((rdD y24.rows i250 z_Row).North).e4) == (((rdD y24.rows x207 z_Row).South).e4) && ((((rdD y24.rows i250 z_Row).North).e5) == (((rdD y24.rows x207 z_Row).South).e5) && ((((rdD y24.rows i250 z_Row).North).e6) == (((rdD y24.rows x207 z_Row).South).e6) && ((((rdD y24.rows i250 z_Row).North).e7) == (((rdD y24.rows x207 z_Row).South).e7)))))))))))] rfl (by rw [ho249]; rfl) ?_
          injection hv247 with hv247
          subst hv247
          exact WL.toV K () e51 rfl trivial
         refine WL.setB 103 h248 rfl ?_
         refine sg 17 [] e50 [e41, e36, e35, e19, e32, (17, (.pointer e38)), e39, e40, e47, e62, e37, e34, e20, e15, e44, (115, (bv false))] (by kernel_rfl) ?_
         injection hv247 with hv247
         subst hv247
         exact WL.toV K () e51 rfl trivial
        rintro _ _
        refine sg 18 [] e130 [e41, e36, e35, e19, e32, (17, (.pointer e38)), e39, e40, e47, e62, e37, e34, e20, e15, e44, (116, (bv b246))] (by kernel_rfl) ?_
        obtain ⟨b252, hv253, hx222⟩ := bind_some hx222
        refine WL.cutV (T := Unit) 33 (fun t => [(131, (bv b252)), e41, e36, e35, e19, e32, (17, (.pointer e38)), e39, e40, e47, e37, e34, e20, e15, e44]) (fun t => True) (fun K => ?_) ?_
        ·
         rcases br_some hv253 with ⟨h254, hv253⟩ | ⟨h254, hv253⟩
         ·
          refine WL.setB 116 h254 rfl ?_
          refine sg 23 [] e124 [e41, e36, e35, e19, e32, (17, (.pointer e38)), e39, e40, e47, e62, e37, e34, e20, e15, e44, e139, (121, (bv (x196 == e69)))] (by kernel_rfl) ?_
          refine WL.setB 121 h223 rfl ?_
          refine sg 26 [] [2, 8, 10, 12, 16, 17, 18, 19, 20, 21, 85, 86, 92, 93, 94, 116, 121, 122, 124] [e41, e36, e35, e19, e32, (17, (.pointer e38)), e39, e40, e47, e62, e37, e34, e20, e15, e44, e139, (121, (bv false)), (122, (sv A91 x94 c92)), (124, (iv e99))] (by kernel_rfl) ?_
          obtain ⟨h255, hv253⟩ := as_some hv253
          refine segF 29 [.v e108, .v e109, .v e110, .v e111, .v e112, .v e113, .v e114, .v e115] [2, 8, 10, 12, 16, 17, 18, 19, 20, 85, 86, 92, 93, 94, 116, 121, 125, 128] [e41, e36, e35, e19, e32, (17, (.pointer e38)), e39, e40, e47, e37, e34, e20, e15, e44, e139, (121, (bv false)), (125, (.pointer (some ((adr A91).add (e99.toNat * 1))))), (128, (.agg e77))] [.idx A91 e99 x94.length] [27, 28, 29, 30, 31, 32, 33, 34] [(29, ⟨g216, 9, none⟩, e108), (29, ⟨g216, 10, none⟩, e109), (29, ⟨g216, 11, none⟩, e110), (29, ⟨g216, 12, none⟩, e111), (29, ⟨g216, 13, none⟩, e112), (29, ⟨g216, 14, none⟩, e113), (29, ⟨g216, 15, none⟩, e114), (29, ⟨g216, 16, none⟩, e115)] (fun fb => by kernel_rfl) rfl ⟨nrow_adr (rowO.rd (hS245.own 5).1) h255.1 h255.2, trivial⟩ rfl ?_
          obtain ⟨m256, hm257, hv253⟩ := bind_some hv253
          refine seg 30 [.v (.map (some (H93 e99.toNat)))] [2, 8, 10, 12, 16, 17, 18, 19, 20, 85, 86, 92, 93, 94, 116, 121, 126, 128] [e41, e36, e35, e19, e32, (17, (.pointer e38)), e39, e40, e47, e37, e34, e20, e15, e44, e139, (121, (bv false)), (126, (.map (some (H93 e99.toNat)))), (128, (.agg e77))] [.cell ((adr A91).add (e99.toNat * 1)) (.map (some (H93 e99.toNat)))] (fun fb => by kernel_rfl) rfl ⟨nrow_cell (rowO.rd (hS245.own 5).1) none h255.1 h255.2 0 (mapV_some hm257), trivial⟩ ?_
          refine WL.lookup (mapsO.at (hS245.own 6).1 h255.1 h255.2 hm257) e24 (d := 129) (c := false) (t := 103) (kT := 97) (eT := 4) (z := false) (kE := e70) (vE := vB) (l := m256) (bv (mget e24 false m256)) (fun fb => by kernel_rfl) fill_First_key97 (by kernel_rfl) (fun _ => by kernel_rfl) rfl ?_
          refine ⟨trivial, ?_⟩
          refine sg 33 [] e54 [e41, e36, e35, e19, e32, (17, (.pointer e38)), e39, e40, e47, e37, e34, e20, e15, e44, (131, (bv (mget e24 false m256)))] (by kernel_rfl) ?_
          injection hv253 with hv253
          subst hv253
          exact WL.toV K () e133 rfl trivial
         refine WL.setB 116 h254 rfl ?_
         refine sg 33 [] e54 [e41, e36, e35, e19, e32, (17, (.pointer e38)), e39, e40, e47, e37, e34, e20, e15, e44, (131, (bv false))] (by kernel_rfl) ?_
         injection hv253 with hv253
         subst hv253
         exact WL.toV K () e133 rfl trivial
        rintro _ _
        refine WL.done rfl ?_
        injection hx222 with hx222
        exact WX.to Kx221 b252 e54 rfl ⟨(hS245.subR e73).sub [1, 2, 3, 4, 5, 6, 7, 8] (by decide), hx222.symm⟩
       rintro y261 w258 ⟨hS259, hq260⟩
       subst hq260
       refine WX.next ?_
       rcases br_some hl213 with ⟨h262, hl213⟩ | ⟨h262, hl213⟩
       ·refine WC.condT2 (fun fb => by kernel_rfl) h262 ?_
        refine WC.seq (WC.region ?_)
        refine sg 2 [] e138 [e41, e36, e35, e19, e32, (19, (iv x207)), e37, e34] (by kernel_rfl) ?_
        refine WL.done rfl (WX.next ?_)
        refine WC.exit ?_
        injection hl213 with hl213
        exact WX.blockPast (by decide) (WX.thenX (WX.thenX (WX.blockHere (WX.to Kx208 x207 e138 rfl ⟨(hS259.subR e73).sub e116 (by decide), hl213.symm⟩))))
       refine WC.condF2 (fun fb => by kernel_rfl) h262 ?_
       refine WC.skip ?_
       refine WX.blockN (WX.next ?_)
       refine WC.region ?_
       refine sg 2 [] e72 [e41, e36, e35, e19, e32, (17, (.pointer e38)), e39, e40, e37, e34, e20, e15, (94, (iv (w64 (x207 + 1))))] (by kernel_rfl) ?_
       refine WL.done rfl ?_
       exact WX.again k210 (Nat.lt_succ_self _) (o206, w64 (x207 + 1)) e72 rfl ⟨(hS259.subR e73).sub e116 (by decide), hl213⟩
      refine WC.condF2 (fun fb => by kernel_rfl) h214 ?_
      refine WC.exit ?_
      injection hl213 with hl213
      exact WX.thenX (WX.thenX (WX.blockHere (WX.to Kx208 (-1) e138 rfl ⟨(hS212.subR e73).sub e116 (by decide), hl213.symm⟩)))
    rintro y266 w263 ⟨hS264, hq265⟩
    subst hq265
    refine WX.next (WC.seq (WC.seq (WC.region ?_)))
    refine sg 2 [] [2, 8, 10, 12, 16, 19, 85, 86, 135] [e41, e36, e35, e19, e32, (19, (iv x208)), e37, e34, (135, (bv (decide (x208 < 0))))] (by kernel_rfl) ?_
    refine WL.done rfl (WX.next ?_)
    rcases br_some hl204 with ⟨h267, hl204⟩ | ⟨h267, hl204⟩
    ·refine WC.condT2 (fun fb => by kernel_rfl) h267 ?_
     refine WC.seq (WC.region ?_)
     refine sg 1 [] [8, 136] [e36, (136, (.agg #[(iv 0), (iv 0), (.slice none 0 0)]))] (by kernel_rfl) ?_
     refine WL.store hS264 0 rfl [(0, (iv 0)), (1, (iv 0)), (2, (.slice none 0 0))] #[(iv 0), (iv 0), (.slice none 0 0)] (fun fb => by kernel_rfl) (by kernel_rfl) rfl [1, 2, 3, 4, 5, 6, 7] (by decide) (by decide) (fun w268 hS269 => ?_)
     refine ⟨trivial, ?_⟩
     refine sg 3 [] [8, 9] [e36, (9, (iv 6))] (by kernel_rfl) ?_
     refine WL.done rfl (WX.next ?_)
     refine WC.ret ?_
     have hS270 := hS269.nilrow 3 encInt
     injection hl204 with hl204
     subst hl204
     injection hf with hf
     subst hf
     exact WX.thenR (WX.blockR (WX.thenR (WX.thenR (WX.blockR (WX.thenR (WX.ret_ [.v (iv 0), .v (iv 0), .v (.slice none 0 0)] (.tuple #[(.agg #[(iv 0), (iv 0), (sv none ([] : List Int) 0)]), (iv 6)]) [.cell ⟨g12, 0, none⟩ (iv 0), .cell ⟨g12, 1, none⟩ (iv 0), .cell ⟨g12, 2, none⟩ (.slice none 0 0)] (fun fb => by kernel_rfl) ⟨hS269.cell 0 rfl 0 rfl, hS269.cell 0 rfl 1 rfl, hS269.cell 0 rfl 2 rfl, trivial⟩ ⟨_, rfl, none, 0, rfl, (hS270.sub [0] (by decide)).noR⟩))))))
    refine WC.condF2 (fun fb => by kernel_rfl) h267 ?_
    refine WC.skip (WX.next (WC.seq (WC.region ?_)))
    refine seg 5 [.v e119] [2, 8, 10, 12, 16, 85, 86, 140, 141] [e41, e36, e35, e19, e32, e37, e34, (140, e119), (141, (iv x208))] [.cell ⟨g20, 0, none⟩ e119] (fun fb => by kernel_rfl) rfl ⟨hS264.cell 1 rfl 0 rfl, trivial⟩ ?_
    obtain ⟨h271, hl204⟩ := as_some hl204
    refine seg 7 [] e117 [e41, e36, e35, e19, e32, (17, (.pointer (some ((adr A21).add ((x208).toNat * 19))))), e37, e34] [.idx A21 x208 y24.rows.length] (fun fb => by kernel_rfl) rfl ⟨nrow_adr (rowO.rd (hS264.own 2).1) h271.1 h271.2, trivial⟩ ?_
    refine WL.done rfl (WX.next ?_)
    refine WC.regionD ([(1, ⟨g186, 2, none⟩, e96), (5, ((adr A21).add ((x208).toNat * 19)), (sv ((H23 x208.toNat 0).1) ((rdD y24.rows x208 z_Row).Cells) ((H23 x208.toNat 0).2)))], [0, 1, 2, 3, 4, 5, 7], [[], [0], [], [2], [2, 3], [2, 3, 4], e98, [0, 1, 2, 3, 4, 5, 6], e116]) [[0, 1, 2, 3, 4, 5, 6, 7, 8]] (by kernel_rfl) (by kernel_rfl) (NoPanic.block (NoPanic.seq (NoPanic.seq (NoPanic.block (NoPanic.seq (NoPanic.body)))))) ?_
    have hS273 := hS264.drew
    revert hS273
    generalize World.drew w263 = w272
    intro hS273
    refine ⟨⟨hS273.cell 6 rfl 2 rfl, nrow_cell (rowO.rd (hS273.own 2).1) z_Row h271.1 h271.2 0 rfl, trivial⟩, forallC ?_ (forallN)⟩
    let e67 := sv ((H23 x208.toNat 0).1) ((rdD y24.rows x208 z_Row).Cells) ((H23 x208.toNat 0).2)
    refine segF 6 [.v e96, .v e67] [2, 8, 10, 12, 16, 17, 85, 86, 144, 148] [e41, e36, e35, e19, e32, (17, (.pointer (some ((adr A21).add ((x208).toNat * 19))))), e37, e34, (144, e96), (148, e67)] [] [0, 1] [(1, ⟨g186, 2, none⟩, e96), (5, ((adr A21).add ((x208).toNat * 19)), e67)] (fun fb => by kernel_rfl) rfl trivial rfl ?_
    obtain ⟨h274, hl204⟩ := as_some hl204
    refine WL.append hS273 7 (d := 149) (tS := 37) (z := (iv 0)) (bytes := 8) (c2 := (H23 x208.toNat 0).2) rfl (fun fb => by kernel_rfl) (nestO.at ((hS273.own 3).1 0) z_Row h271.1 h271.2) (by kernel_rfl) (by kernel_rfl) rfl (by decide) h274 (by decide) [0, 1, 2, 3, 4, 5, 6] (by decide) (by decide) (fun A275 c276 w277 hS278 => ?_)
    refine ⟨trivial, ?_⟩
    refine sg 8 [] [2, 8, 10, 12, 16, 17, 85, 86, 149, 150] [e41, e36, e35, e19, e32, (17, (.pointer (some ((adr A21).add ((x208).toNat * 19))))), e37, e34, (149, (sv A275 (l194 ++ ((rdD y24.rows x208 z_Row).Cells)) c276)), (150, (.pointer (some ⟨g186, 2, none⟩)))] (by kernel_rfl) ?_
    let e140 := sv A275 (l194 ++ ((rdD y24.rows x208 z_Row).Cells)) c276
    refine WL.store hS278 7 rfl [(2, e140)] #[(iv p1), (iv p2), e140] (fun fb => by kernel_rfl) (by kernel_rfl) rfl [0, 1, 2, 3, 4, 5, 6] (by decide) (by decide) (fun w279 hS280 => ?_)
    refine ⟨trivial, ?_⟩
    refine WL.done rfl ?_
    refine WX.blockN (WX.next ?_)
    refine WC.region ?_
    refine sg 2 [] e117 [e41, e36, e35, e19, e32, (17, (.pointer (some ((adr A21).add ((x208).toNat * 19))))), e37, (86, (iv e99))] (by kernel_rfl) ?_
    refine WL.done rfl ?_
    exact WX.again k201 (Nat.lt_succ_self _) ((l194 ++ ((rdD y24.rows x208 z_Row).Cells), (some x208), w64 (x196 + 1)), A275, c276) e117 rfl ⟨(hS280.subR e73).sub [2, 3, 4, 5, 6, 7, 0, 1] (by decide), hl204⟩
   refine WC.condF2 (fun fb => by kernel_rfl) h205 ?_
   refine WC.exit ?_
   injection hl204 with hl204
   exact WX.thenX (WX.thenX (WX.blockHere (WX.to Kx199 (l194, A192, c193) [8, 16] rfl ⟨(hS203.subR e73).sub [0, 6, 7] (by decide), hl204.symm⟩)))
 rintro ⟨y284, A197, c198⟩ w281 ⟨hS282, hq283⟩
 subst hq283
 have hf := sum_inr hf
 refine WX.next (WC.seq (WC.region ?_))
 refine seg 1 [.v (iv p1), .v (iv p2), .v (sv A197 y284 c198)] [8, 152] [e36, (152, (.agg #[(iv p1), (iv p2), (sv A197 y284 c198)]))] [.cell ⟨g186, 0, none⟩ (iv p1), .cell ⟨g186, 1, none⟩ (iv p2), .cell ⟨g186, 2, none⟩ (sv A197 y284 c198)] (fun fb => by kernel_rfl) rfl ⟨hS282.cell 1 rfl 0 rfl, hS282.cell 1 rfl 1 rfl, hS282.cell 1 rfl 2 rfl, trivial⟩ ?_
 refine WL.store hS282 0 rfl [(0, (iv p1)), (1, (iv p2)), (2, (sv A197 y284 c198))] #[(iv p1), (iv p2), (sv A197 y284 c198)] (fun fb => by kernel_rfl) (by kernel_rfl) rfl [1, 2] (by decide) (by decide) (fun w285 hS286 => ?_)
 refine ⟨trivial, ?_⟩
 refine sg 3 [] [8, 9] [e36, (9, (iv 0))] (by kernel_rfl) ?_
 refine WL.done rfl (WX.next ?_)
 refine WC.ret ?_
 injection hf with hf
 subst hf
 exact WX.ret_ [.v (iv p1), .v (iv p2), .v (sv A197 y284 c198)] (.tuple #[(.agg #[(iv p1), (iv p2), (sv A197 y284 c198)]), (iv 0)]) [.cell ⟨g12, 0, none⟩ (iv p1), .cell ⟨g12, 1, none⟩ (iv p2), .cell ⟨g12, 2, none⟩ (sv A197 y284 c198)] (fun fb => by kernel_rfl) ⟨hS286.cell 0 rfl 0 rfl, hS286.cell 0 rfl 1 rfl, hS286.cell 0 rfl 2 rfl, trivial⟩ ⟨_, rfl, A197, c198, rfl, (hS286.sub [2] (by decide)).noR⟩
theorem square_exists_calls (k : Nat) (p0 : List Tile) (p1 : Int) (Aa : Option Addr) (ca : Nat) (r : Bool) (w : World) (hR0 : RO NoS w (rowR enc_Tile Aa ca p0)) (hf : square_exists k p0 p1 = some r) :
  CallsR Try.prog 60 #[(sv Aa p0 ca), (iv p1)] w (fun v w' => v = (bv r) ∧ Keeps NoS w w') := by
 have hS : St NoS w w [rowR enc_Tile Aa ca p0] [] := St.init (ro_cons hR0 (ro_nil _ _))
 refine enter 17 Try.func60 rfl Try.ntmps60 rfl ?_
 unfold square_exists at hf
 refine WC.seq (WC.region ?_)
 refine sg 1 [] [0, 1] [(0, (sv Aa p0 ca)), (1, (iv p1))] (by kernel_rfl) ?_
 refine WL.done rfl (WX.next (WC.seq (WC.region ?_)))
 refine sg 4 [] [8, 9, 10, 11] [(8, (sv Aa p0 ca)), (9, (iv p1)), (10, (iv p1)), (11, (.agg #[(.slice none 0 0), (.slice none 0 0), (.slice none 0 0), (.slice none 0 0)]))] (by kernel_rfl) ?_
 obtain ⟨t2, ht3, hf⟩ := bind_some hf
 refine WL.call (some 12) 83 #[(sv Aa p0 ca), (iv p1), (iv p1), (.agg #[(.slice none 0 0), (.slice none 0 0), (.slice none 0 0), (.slice none 0 0)])] (fun fb => by kernel_rfl) (fill_First_calls _ p0 p1 p1 (Edges.mk ([] : List Int) ([] : List Int) ([] : List Int) ([] : List Int)) Aa ca none 0 none 0 none 0 none 0 t2 _ (hS.rd 0) (RO.nilR _ _ _) (RO.nilR _ _ _) (RO.nilR _ _ _) (RO.nilR _ _ _) ht3) (fun v w4 hR5 => ?_)
 obtain ⟨A7, c8, rfl, hk_⟩ := hR5
 have hS6 := hS.go w4 [rowO 3 encInt A7 c8 t2.1.Cells] (hS.call hk_ [] [] (fun g hg => hg.elim) (by simp) (by decide))
 refine ⟨trivial, ?_⟩
 refine sg 8 [] [13, 14] [(13, (.agg #[(iv t2.1.Width), (iv t2.1.Height), (sv A7 t2.1.Cells c8)])), (14, (iv t2.2))] (by kernel_rfl) ?_
 refine WL.new hS6 5 [] (fun g => (pt g)) (.cells #[(iv 0), (iv 0), (.slice none 0 0)] 39 (0, 0)) [] (fun fb g => by kernel_rfl) trivial (fun g9 w10 hS11 => ?_)
 refine ⟨trivial, ?_⟩
 refine WL.store hS11 0 rfl [(0, (iv t2.1.Width)), (1, (iv t2.1.Height)), (2, (sv A7 t2.1.Cells c8))] #[(iv t2.1.Width), (iv t2.1.Height), (sv A7 t2.1.Cells c8)] (fun fb => by kernel_rfl) (by kernel_rfl) rfl [1] (by decide) (by decide) (fun w12 hS13 => ?_)
 refine ⟨trivial, ?_⟩
 refine sg 11 [] [6] [(6, (iv t2.2))] (by kernel_rfl) ?_
 refine WL.done rfl (WX.next (WC.seq (WC.region ?_)))
 refine sg 3 [] [4] [(4, (bv (t2.2 == 0)))] (by kernel_rfl) ?_
 refine WL.done rfl (WX.next ?_)
 refine WC.ret ?_
 injection hf with hf
 subst hf
 exact WX.ret_ [] (bv (t2.2 == 0)) [] (fun fb => by kernel_rfl) trivial ⟨_, rfl, rfl, hS13.keep⟩
theorem square_Exists_calls (k : Nat) (p0 : List Tile) (p1 : Int) (Aa : Option Addr) (ca : Nat) (r : Bool × Int) (w : World) (hR0 : RO NoS w (rowR enc_Tile Aa ca p0)) (hf : square_Exists k p0 p1 = some r) :
  CallsR Try.prog 43 #[(sv Aa p0 ca), (iv p1)] w (fun v w' => v = (.tuple #[(bv r.1), (iv r.2)]) ∧ Keeps NoS w w') := by
 have hS : St NoS w w [rowR enc_Tile Aa ca p0] [] := St.init (ro_cons hR0 (ro_nil _ _))
 refine enter 16 Try.func43 rfl Try.ntmps43 rfl ?_
 unfold square_Exists at hf
 refine WC.seq (WC.region ?_)
 refine sg 2 [] [0, 1] [(0, (sv Aa p0 ca)), (1, (iv p1))] (by kernel_rfl) ?_
 refine WL.done rfl (WX.next (WC.seq (WC.seq (WC.region ?_))))
 refine sg 2 [] [0, 1, 7, 8] [(0, (sv Aa p0 ca)), (1, (iv p1)), (7, (sv Aa p0 ca)), (8, (iv p1))] (by kernel_rfl) ?_
 obtain ⟨t3, ht4, hf⟩ := bind_some hf
 refine WL.call (some 9) 59 #[(sv Aa p0 ca), (iv p1)] (fun fb => by kernel_rfl) (square_check_calls _ p0 p1 Aa ca t3 _ (hS.rd 0) ht4) (fun v w5 hR6 => ?_)
 obtain ⟨rfl, hk_⟩ := hR6
 have hS7 := hS.keepN hk_
 refine ⟨trivial, ?_⟩
 refine sg 4 [] [0, 1, 6] [(0, (sv Aa p0 ca)), (1, (iv p1)), (6, (iv t3))] (by kernel_rfl) ?_
 refine WL.done rfl (WX.next (WC.seq (WC.region ?_)))
 refine sg 2 [] [0, 1, 6, 11] [(0, (sv Aa p0 ca)), (1, (iv p1)), (6, (iv t3)), (11, (bv (t3 != 0)))] (by kernel_rfl) ?_
 refine WL.done rfl (WX.next ?_)
 rcases br_some hf with ⟨h8, hf⟩ | ⟨h8, hf⟩
 ·refine WC.condT2 (fun fb => by kernel_rfl) h8 ?_
  refine WC.seq (WC.region ?_)
  refine sg 3 [] [4, 5] [(4, (bv false)), (5, (iv t3))] (by kernel_rfl) ?_
  refine WL.done rfl (WX.next ?_)
  refine WC.ret ?_
  injection hf with hf
  subst hf
  exact WX.thenR (WX.ret_ [] (.tuple #[(bv false), (iv t3)]) [] (fun fb => by kernel_rfl) trivial ⟨_, rfl, rfl, hS7.keep⟩)
 refine WC.condF2 (fun fb => by kernel_rfl) h8 ?_
 refine WC.skip (WX.next (WC.seq (WC.region ?_)))
 refine sg 2 [] [13, 14] [(13, (sv Aa p0 ca)), (14, (iv p1))] (by kernel_rfl) ?_
 obtain ⟨t9, ht10, hf⟩ := bind_some hf
 refine WL.call (some 15) 60 #[(sv Aa p0 ca), (iv p1)] (fun fb => by kernel_rfl) (square_exists_calls _ p0 p1 Aa ca t9 _ (hS7.rd 0) ht10) (fun v w11 hR12 => ?_)
 obtain ⟨rfl, hk_⟩ := hR12
 have hS13 := hS7.keepN hk_
 refine ⟨trivial, ?_⟩
 refine sg 5 [] [4, 5] [(4, (bv t9)), (5, (iv 0))] (by kernel_rfl) ?_
 refine WL.done rfl (WX.next ?_)
 refine WC.ret ?_
 injection hf with hf
 subst hf
 exact WX.ret_ [] (.tuple #[(bv t9), (iv 0)]) [] (fun fb => by kernel_rfl) trivial ⟨_, rfl, rfl, hS13.keep⟩
theorem decide_sides_1_y_calls {σ τ : Type} (k : Nat) (f0 : List Tile) (yf : Int → Bool → σ → Option (σ × Bool)) (sY : σ) (ga : Nat) (Aa : Option Addr) (ca : Nat) (yl : Nat) (Y : σ → τ → Own) (tY : τ) (Rd : Own) (r : σ) (w : World) (hR0 : RO (fpL [Y sY tY]) w (Rd)) (hR1 : RO (fpL [Y sY tY]) w (blk ga (.cells #[(sv Aa f0 ca)] 28 (0, 0)))) (hR2 : RO (fpL [Y sY tY]) w (rowR enc_Tile Aa ca f0)) (hI : IoOK w [Y sY tY]) (hY : ∀ (x0_ : Int) (x1_ : Bool) (s_ : σ) (t_ : τ) (r_ : σ × Bool) (w_ : World), RO (fpL [Y s_ t_]) w_ Rd → IoOK w_ [Y s_ t_] → yf x0_ x1_ s_ = some r_ → YieldR Try.prog (.func (.yield yl) #[] #[]) #[(iv x0_), (bv x1_)] w_ (fun v_ w' => ∃ t1_, v_ = .bool r_.2 ∧ St (fpL [Y s_ t_]) w_ w' [] [Y r_.1 t1_])) (hf : decide_sides_1_y k f0 yf sY = some r) :
  CallsR Try.prog 42 #[(.func (.yield yl) #[] #[]), (pt ga)] w (fun v w' => ∃ (t1_ : τ), v = (.tuple #[]) ∧ St (fpL [Y sY tY]) w w' [] [Y r t1_]) := by
 have hS : St (fpL [Y sY tY]) w w [Rd, blk ga (.cells #[(sv Aa f0 ca)] 28 (0, 0)), rowR enc_Tile Aa ca f0] [Y sY tY] := St.initIO (ro_cons hR0 (ro_cons hR1 (ro_cons hR2 (ro_nil _ _)))) hI
 refine enter 25 Try.func42 rfl Try.ntmps42 rfl ?_
 unfold decide_sides_1_y at hf
 refine WC.seq (WC.region ?_)
 refine sg 1 [] [0, 1, 3] [(0, (.func (.yield yl) #[] #[])), (1, (pt ga)), (3, (iv 1))] (by kernel_rfl) ?_
 refine WL.done rfl (WX.next ?_)
 obtain ⟨x7, hx8, hf⟩ := bind_some hf
 let e1 : Nat × Value := (1, (pt ga))
 let e3 := sv Aa f0 ca
 refine WC.cutN (T := σ × τ) (fun t => []) (fun t w1 => St (fpL [Y sY tY]) w w1 [Rd, blk ga (.cells #[e3] 28 (0, 0)), rowR enc_Tile Aa ca f0] [Y t.1 t.2] ∧ x7 = .inr t.1) (fun Kx7 => ?_) ?_
 ·
  refine WC.block ?_
  refine WC.loop (T := (Int × σ) × τ) (fun t => [(0, (.func (.yield yl) #[] #[])), e1, (3, (iv t.1.1))]) (fun n t w1 => St (fpL [Y sY tY]) w w1 [Rd, blk ga (.cells #[e3] 28 (0, 0)), rowR enc_Tile Aa ca f0] [Y t.1.2 t.2] ∧ decide_sides_1_y.l0 n t.1.1 t.1.2 f0 yf = some x7) k ((1, sY), tY) [0, 1, 3] rfl ⟨(hS.subR [0, 1, 2]).sub [0] (by decide), hx8⟩ ?_
  rintro k9 ⟨⟨x3, s4⟩, tt5⟩ w10 ⟨hS11, hl12⟩
  let e2 : Nat × Value := (3, (iv x3))
  cases k9 with
  | zero => rw [decide_sides_1_y.l0] at hl12; cases hl12
  | succ k9 =>
   rw [decide_sides_1_y.l0] at hl12
   refine WC.seq (WC.seq (WC.region ?_))
   refine sg 2 [] [0, 1, 3, 7] [(0, (.func (.yield yl) #[] #[])), e1, e2, (7, (bv (decide (x3 ≤ 8))))] (by kernel_rfl) ?_
   refine WL.done rfl (WX.next ?_)
   rcases br_some hl12 with ⟨h13, hl12⟩ | ⟨h13, hl12⟩
   ·refine WC.condT2 (fun fb => by kernel_rfl) h13 ?_
    refine WC.skip (WX.next (WC.seq (WC.block (WC.seq (WC.region ?_)))))
    refine seg 2 [.v e3] [0, 1, 3, 11, 12] [(0, (.func (.yield yl) #[] #[])), e1, e2, (11, e3), (12, (iv x3))] [.cell ⟨ga, 0, none⟩ e3] (fun fb => by kernel_rfl) rfl ⟨blk_cell (hS11.rd 1).1 0 rfl, trivial⟩ ?_
    obtain ⟨t14, ht15, hl12⟩ := bind_some hl12
    refine WL.call (some 13) 43 #[e3, (iv x3)] (fun fb => by kernel_rfl) (square_Exists_calls _ f0 x3 Aa ca t14 _ (hS11.rd 2) ht15) (fun v w16 hR17 => ?_)
    obtain ⟨rfl, hk_⟩ := hR17
    have hS18 := hS11.keepN hk_
    refine ⟨trivial, ?_⟩
    refine sg 8 [] [0, 1, 3, 4, 5] [(0, (.func (.yield yl) #[] #[])), e1, e2, (4, (bv t14.1)), (5, (iv t14.2))] (by kernel_rfl) ?_
    refine WL.done rfl (WX.next (WC.seq (WC.region ?_)))
    refine sg 3 [] [0, 1, 3, 4, 18] [(0, (.func (.yield yl) #[] #[])), e1, e2, (4, (bv t14.1)), (18, (bv (t14.2 != 0)))] (by kernel_rfl) ?_
    obtain ⟨x20, hx21, hl12⟩ := bind_some hl12
    refine WL.cutW (T := (Bool × σ) × τ) 9 (fun t => [(0, (.func (.yield yl) #[] #[])), e1, e2, (24, (bv t.1.1))]) (fun t w1 => (St (fpL [Y sY tY]) w w1 [Rd, blk ga (.cells #[e3] 28 (0, 0)), rowR enc_Tile Aa ca f0] [Y t.1.2 t.2] ∧ x20 = t.1) ∧ CellsOK [] w1) (fun K => ?_) ?_
    ·
     rcases br_some hx21 with ⟨h22, hx21⟩ | ⟨h22, hx21⟩
     ·
      refine WL.setB 18 h22 rfl ?_
      refine sg 9 [] [0, 1, 3, 24] [(0, (.func (.yield yl) #[] #[])), e1, e2, (24, (bv true))] (by kernel_rfl) ?_
      injection hx21 with hx21
      exact WL.to K ((true, s4), tt5) [0, 1, 3, 24] rfl ⟨⟨(hS18.subR [0, 1, 2]).sub [0] (by decide), hx21.symm⟩, trivial⟩
     refine WL.setB 18 h22 rfl ?_
     refine sg 6 [] [0, 1, 3, 18, 19, 20, 21] [(0, (.func (.yield yl) #[] #[])), e1, e2, (18, (bv false)), (19, (.func (.yield yl) #[] #[])), (20, (iv x3)), (21, (bv t14.1))] (by kernel_rfl) ?_
     obtain ⟨t23, ht24, hx21⟩ := bind_some hx21
     refine WL.yield (some 22) (.func (.yield yl) #[] #[]) #[(iv x3), (bv t14.1)] (fun fb => by kernel_rfl) (hY x3 t14.1 s4 tt5 t23 _  (hS18.rdT [0] 0) (hS18.io [0] (by decide)) ht24) (fun v w25 hR26 => ?_)
     obtain ⟨tt28, rfl, hk_⟩ := hR26
     have hS27 := hS.go w25 [Y t23.1 tt28] (hS18.call hk_ [0] [] (fun g hg => fpL_sel g hg) (by decide) (by decide))
     refine ⟨trivial, ?_⟩
     refine sg 9 [] [0, 1, 3, 24] [(0, (.func (.yield yl) #[] #[])), e1, e2, (24, (bv (!t23.2)))] (by kernel_rfl) ?_
     injection hx21 with hx21
     exact WL.to K ((!t23.2, t23.1), tt28) [0, 1, 3, 24] rfl ⟨⟨(hS27.subR [0, 1, 2]).sub [0] (by decide), hx21.symm⟩, trivial⟩
    rintro ⟨y29, tt19⟩ w31 ⟨⟨hS32, hq30⟩, hF33⟩
    subst hq30
    refine WL.done rfl (WX.next ?_)
    rcases br_some hl12 with ⟨h34, hl12⟩ | ⟨h34, hl12⟩
    ·refine WC.condT2 (fun fb => by kernel_rfl) h34 ?_
     refine WC.ret ?_
     injection hl12 with hl12
     subst hl12
     injection hf with hf
     subst hf
     exact WX.blockR (WX.thenR (WX.thenR (WX.blockR (WX.ret_ [] (.tuple #[]) [] (fun fb => by kernel_rfl) trivial ⟨_, rfl, tt19, rfl, (hS32.sub [0] (by decide)).noR⟩))))
    refine WC.condF2 (fun fb => by kernel_rfl) h34 ?_
    refine WC.skip ?_
    refine WX.blockN (WX.next ?_)
    refine WC.region ?_
    refine sg 3 [] [0, 1, 3] [(0, (.func (.yield yl) #[] #[])), e1, (3, (iv (w64 (x3 + 1))))] (by kernel_rfl) ?_
    refine WL.done rfl ?_
    exact WX.again k9 (Nat.lt_succ_self _) ((w64 (x3 + 1), x20.2), tt19) [0, 1, 3] rfl ⟨(hS32.subR [0, 1, 2]).sub [0] (by decide), hl12⟩
   refine WC.condF2 (fun fb => by kernel_rfl) h13 ?_
   refine WC.exit ?_
   injection hl12 with hl12
   exact WX.thenX (WX.thenX (WX.blockHere (WX.to Kx7 (s4, tt5) [] rfl ⟨(hS11.subR [0, 1, 2]).sub [0] (by decide), hl12.symm⟩)))
 rintro ⟨y38, tt6⟩ w35 ⟨hS36, hq37⟩
 subst hq37
 have hf := sum_inr hf
 injection hf with hf
 subst hf
 exact WX.end_ [] (.tuple #[]) [] (fun fb => by kernel_rfl) trivial ⟨_, rfl, tt6, rfl, (hS36.sub [0] (by decide)).noR⟩
end Gp
