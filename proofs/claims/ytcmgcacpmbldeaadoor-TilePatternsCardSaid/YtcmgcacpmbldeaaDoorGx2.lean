/- Walks: each function of the program computes its plain function. -/
import Derived.Test.YtcmgcacpmbldeaaDoorGx1
set_option linter.unusedVariables false
set_option linter.unusedSimpArgs false
namespace Gp
open Go Gw Go.Proofs
theorem ref01_Repeat_calls (k : Nat) (p0 : Pattern) (p1 : Int) (p2 : Int) (A_p0_Cells : Option Addr) (c_p0_Cells : Nat) (r : Pattern) (w : World) (hR0 : RO NoS w (rowR encInt A_p0_Cells c_p0_Cells p0.Cells)) (hf : ref01_Repeat k p0 p1 p2 = some r) :
    CallsR Tryd.prog 39 #[(.agg #[(.int .i64 p0.Width), (.int .i64 p0.Height), (.slice A_p0_Cells p0.Cells.length c_p0_Cells)]), (.int .i64 p1), (.int .i64 p2)] w (fun v w' => ∃ (A1_ : Option Addr), ∃ (c1_ : Nat), v = (.agg #[(.int .i64 r.Width), (.int .i64 r.Height), (.slice A1_ r.Cells.length c1_)]) ∧ St NoS w w' [] [rowO 3 encInt A1_ c1_ r.Cells]) := by
  have hS : St NoS w w [rowR encInt A_p0_Cells c_p0_Cells p0.Cells] [] := St.init (ro_cons hR0 (ro_nil _ _))
  refine enter 39 Tryd.func39 rfl Tryd.ntmps39 rfl ?_
  unfold ref01_Repeat at hf
  refine WC.seq ?_
  refine WC.region ?_
  refine WL.new hS 3 [] (fun g => (.pointer (some ⟨g, 0, none⟩))) (.cells #[(.int .i64 p0.Width), (.int .i64 p0.Height), (.slice A_p0_Cells p0.Cells.length c_p0_Cells)] 35 (0, 0)) [] (fun fb g => by kernel_rfl) trivial (fun g5752 w5753 hS5754 => ?_)
  refine ⟨trivial, ?_⟩
  refine WL.new hS5754 6 [] (fun g => (.pointer (some ⟨g, 0, none⟩))) (.cells #[(.int .i64 0), (.int .i64 0), (.slice none 0 0)] 35 (0, 0)) [] (fun fb g => by kernel_rfl) trivial (fun g5756 w5757 hS5758 => ?_)
  refine ⟨trivial, ?_⟩
  refine WL.done rfl ?_
  refine WX.next ?_
  refine WC.seq ?_
  refine WC.region ?_
  refine seg 3 [] [1, 2, 3, 6, 12] [(1, (.int .i64 p1)), (2, (.int .i64 p2)), (3, (.pointer (some ⟨g5752, 0, none⟩))), (6, (.pointer (some ⟨g5756, 0, none⟩))), (12, (.agg #[(.int .i64 p1), (.int .i64 p2), (.slice none 0 0)]))] [] (fun fb => by kernel_rfl) rfl trivial ?_
  refine WL.new hS5758 7 [] (fun g => (.pointer (some ⟨g, 0, none⟩))) (.cells #[(.int .i64 0), (.int .i64 0), (.slice none 0 0)] 35 (0, 0)) [] (fun fb g => by kernel_rfl) trivial (fun g5760 w5761 hS5762 => ?_)
  refine ⟨trivial, ?_⟩
  refine WL.store hS5762 0 rfl [(0, (.int .i64 p1)), (1, (.int .i64 p2)), (2, (.slice none 0 0))] #[(.int .i64 p1), (.int .i64 p2), (.slice none 0 0)] (fun fb => by kernel_rfl) (by kernel_rfl) rfl [1, 2] (by decide) (by decide) (fun w5764 hS5765 => ?_)
  refine ⟨trivial, ?_⟩
  refine WL.done rfl ?_
  refine WX.next ?_
  refine WC.seq ?_
  refine WC.seq ?_
  refine WC.region ?_
  refine seg 1 [] [1, 2, 3, 6, 7, 8] [(1, (.int .i64 p1)), (2, (.int .i64 p2)), (3, (.pointer (some ⟨g5752, 0, none⟩))), (6, (.pointer (some ⟨g5756, 0, none⟩))), (7, (.pointer (some ⟨g5760, 0, none⟩))), (8, (.int .i64 0))] [] (fun fb => by kernel_rfl) rfl trivial ?_
  refine WL.done rfl ?_
  refine WX.next ?_
  have hS6077 := hS5765.nilrow 3 encInt
  obtain ⟨x6085, hx6086, hf⟩ := bind_some hf
  refine WC.cutN (T := (List Int) × (Option Addr) × Nat) (fun t => [(6, (.pointer (some ⟨g5756, 0, none⟩))), (7, (.pointer (some ⟨g5760, 0, none⟩)))]) (fun t w1 => St NoS w w1 [rowR encInt A_p0_Cells c_p0_Cells p0.Cells] [blk g5756 (.cells #[(.int .i64 0), (.int .i64 0), (.slice none 0 0)] 35 (0, 0)), blk g5760 (.cells #[(.int .i64 p1), (.int .i64 p2), (.slice t.2.1 t.1.length t.2.2)] 35 (0, 0)), rowO 3 encInt t.2.1 t.2.2 t.1] ∧ x6085 = t.1) (fun Kx6085 => ?_) ?_
  ·
    refine WC.block ?_
    refine WC.loop (T := ((List Int) × Int) × (Option Addr) × Nat) (fun t => [(1, (.int .i64 p1)), (2, (.int .i64 p2)), (3, (.pointer (some ⟨g5752, 0, none⟩))), (6, (.pointer (some ⟨g5756, 0, none⟩))), (7, (.pointer (some ⟨g5760, 0, none⟩))), (8, (.int .i64 t.1.2))]) (fun n t w1 => St NoS w w1 [rowR encInt A_p0_Cells c_p0_Cells p0.Cells] [blk g5752 (.cells #[(.int .i64 p0.Width), (.int .i64 p0.Height), (.slice A_p0_Cells p0.Cells.length c_p0_Cells)] 35 (0, 0)), blk g5756 (.cells #[(.int .i64 0), (.int .i64 0), (.slice none 0 0)] 35 (0, 0)), blk g5760 (.cells #[(.int .i64 p1), (.int .i64 p2), (.slice t.2.1 t.1.1.length t.2.2)] 35 (0, 0)), rowO 3 encInt t.2.1 t.2.2 t.1.1] ∧ ref01_Repeat.l0 n t.1.1 t.1.2 p0 p1 p2 = some x6085) k ((([] : List Int), 0), none, 0) [1, 2, 3, 6, 7, 8] rfl ⟨(hS6077.subR [0]).sub [3, 2, 1, 0] (by decide), hx6086⟩ ?_
    rintro k6087 ⟨⟨l6080, x6081⟩, A6078, c6079⟩ w6088 ⟨hS6089, hl6090⟩
    cases k6087 with
    | zero => rw [ref01_Repeat.l0] at hl6090; cases hl6090
    | succ k6087 =>
      rw [ref01_Repeat.l0] at hl6090
      refine WC.seq ?_
      refine WC.seq ?_
      refine WC.region ?_
      refine seg 3 [] [1, 2, 3, 6, 7, 8, 15] [(1, (.int .i64 p1)), (2, (.int .i64 p2)), (3, (.pointer (some ⟨g5752, 0, none⟩))), (6, (.pointer (some ⟨g5756, 0, none⟩))), (7, (.pointer (some ⟨g5760, 0, none⟩))), (8, (.int .i64 x6081)), (15, (.bool (decide (x6081 < p2))))] [] (fun fb => by kernel_rfl) rfl trivial ?_
      refine WL.done rfl ?_
      refine WX.next ?_
      rcases br_some hl6090 with ⟨h6091, hl6090⟩ | ⟨h6091, hl6090⟩
      · refine WC.condT2 (fun fb => by kernel_rfl) h6091 ?_
        refine WC.skip ?_
        refine WX.next ?_
        refine WC.seq ?_
        refine WC.block ?_
        refine WC.seq ?_
        refine WC.region ?_
        refine seg 1 [] [1, 2, 3, 6, 7, 8, 9] [(1, (.int .i64 p1)), (2, (.int .i64 p2)), (3, (.pointer (some ⟨g5752, 0, none⟩))), (6, (.pointer (some ⟨g5756, 0, none⟩))), (7, (.pointer (some ⟨g5760, 0, none⟩))), (8, (.int .i64 x6081)), (9, (.int .i64 0))] [] (fun fb => by kernel_rfl) rfl trivial ?_
        refine WL.done rfl ?_
        refine WX.next ?_
        obtain ⟨x6189, hx6190, hl6090⟩ := bind_some hl6090
        refine WC.cutN (T := (List Int) × (Option Addr) × Nat) (fun t => [(1, (.int .i64 p1)), (2, (.int .i64 p2)), (3, (.pointer (some ⟨g5752, 0, none⟩))), (6, (.pointer (some ⟨g5756, 0, none⟩))), (7, (.pointer (some ⟨g5760, 0, none⟩))), (8, (.int .i64 x6081))]) (fun t w1 => St NoS w w1 [rowR encInt A_p0_Cells c_p0_Cells p0.Cells] [blk g5752 (.cells #[(.int .i64 p0.Width), (.int .i64 p0.Height), (.slice A_p0_Cells p0.Cells.length c_p0_Cells)] 35 (0, 0)), blk g5756 (.cells #[(.int .i64 0), (.int .i64 0), (.slice none 0 0)] 35 (0, 0)), blk g5760 (.cells #[(.int .i64 p1), (.int .i64 p2), (.slice t.2.1 t.1.length t.2.2)] 35 (0, 0)), rowO 3 encInt t.2.1 t.2.2 t.1] ∧ x6189 = t.1) (fun Kx6189 => ?_) ?_
        ·
          refine WC.block ?_
          refine WC.loop (T := ((List Int) × Int) × (Option Addr) × Nat) (fun t => [(1, (.int .i64 p1)), (2, (.int .i64 p2)), (3, (.pointer (some ⟨g5752, 0, none⟩))), (6, (.pointer (some ⟨g5756, 0, none⟩))), (7, (.pointer (some ⟨g5760, 0, none⟩))), (8, (.int .i64 x6081)), (9, (.int .i64 t.1.2))]) (fun n t w1 => St NoS w w1 [rowR encInt A_p0_Cells c_p0_Cells p0.Cells] [blk g5752 (.cells #[(.int .i64 p0.Width), (.int .i64 p0.Height), (.slice A_p0_Cells p0.Cells.length c_p0_Cells)] 35 (0, 0)), blk g5756 (.cells #[(.int .i64 0), (.int .i64 0), (.slice none 0 0)] 35 (0, 0)), blk g5760 (.cells #[(.int .i64 p1), (.int .i64 p2), (.slice t.2.1 t.1.1.length t.2.2)] 35 (0, 0)), rowO 3 encInt t.2.1 t.2.2 t.1.1] ∧ ref01_Repeat.l1 n t.1.1 t.1.2 p0 p1 x6081 = some x6189) k6087 ((l6080, 0), A6078, c6079) [1, 2, 3, 6, 7, 8, 9] rfl ⟨(hS6089.subR [0]).sub [0, 1, 2, 3] (by decide), hx6190⟩ ?_
          rintro k6191 ⟨⟨l6184, x6185⟩, A6182, c6183⟩ w6192 ⟨hS6193, hl6194⟩
          cases k6191 with
          | zero => rw [ref01_Repeat.l1] at hl6194; cases hl6194
          | succ k6191 =>
            rw [ref01_Repeat.l1] at hl6194
            refine WC.seq ?_
            refine WC.seq ?_
            refine WC.region ?_
            refine seg 3 [] [1, 2, 3, 6, 7, 8, 9, 20] [(1, (.int .i64 p1)), (2, (.int .i64 p2)), (3, (.pointer (some ⟨g5752, 0, none⟩))), (6, (.pointer (some ⟨g5756, 0, none⟩))), (7, (.pointer (some ⟨g5760, 0, none⟩))), (8, (.int .i64 x6081)), (9, (.int .i64 x6185)), (20, (.bool (decide (x6185 < p1))))] [] (fun fb => by kernel_rfl) rfl trivial ?_
            refine WL.done rfl ?_
            refine WX.next ?_
            rcases br_some hl6194 with ⟨h6195, hl6194⟩ | ⟨h6195, hl6194⟩
            · refine WC.condT2 (fun fb => by kernel_rfl) h6195 ?_
              refine WC.skip ?_
              refine WX.next ?_
              refine WC.seq ?_
              refine WC.block ?_
              obtain ⟨h6219, hl6194⟩ := as_some hl6194
              obtain ⟨h6220, hl6194⟩ := as_some hl6194
              refine WC.regionD ([(1, ⟨g5760, 2, none⟩, (.slice A6182 l6184.length c6183)), (2, ⟨g5752, 0, none⟩, (.int .i64 p0.Width)), (2, ⟨g5752, 1, none⟩, (.int .i64 p0.Height)), (2, ⟨g5752, 2, none⟩, (.slice A_p0_Cells p0.Cells.length c_p0_Cells)), (5, ⟨g5752, 0, none⟩, (.int .i64 p0.Width)), (9, ⟨g5752, 1, none⟩, (.int .i64 p0.Height))], [0, 1, 2, 3, 4, 5, 6, 7, 8, 9, 10, 14], [[], [0], [], [], [], [4], [3, 4, 5], [], [], [8], [7, 8, 9], [2, 3, 4, 5, 6, 7, 8, 9, 10], [2, 3, 4, 5, 6, 7, 8, 9, 10, 11], [0, 1, 2, 3, 4, 5, 6, 7, 8, 9, 10, 11, 12], [0, 1, 2, 3, 4, 5, 6, 7, 8, 9, 10, 11, 12, 13], [0, 1, 2, 3, 4, 5, 6, 7, 8, 9, 10, 11, 12, 13, 14]]) [[0, 1, 2, 3, 4, 5, 6, 7, 8, 9, 10, 11, 12, 13, 14, 15]] (by kernel_rfl) (by kernel_rfl) (NoPanic.block (NoPanic.seq (NoPanic.seq (NoPanic.block (NoPanic.block (NoPanic.seq (NoPanic.seq (NoPanic.block (NoPanic.seq (NoPanic.body)))))))))) ?_
              have hS6216 := hS6193.drew
              revert hS6216
              generalize World.drew w6192 = w6215
              intro hS6216
              refine ⟨⟨hS6216.cell 2 rfl 2 rfl, hS6216.cell 0 rfl 0 rfl, hS6216.cell 0 rfl 1 rfl, hS6216.cell 0 rfl 2 rfl, hS6216.cell 0 rfl 0 rfl, hS6216.cell 0 rfl 1 rfl, trivial⟩, forallC ?_ (forallN)⟩
              refine segF 11 [.v (.slice A6182 l6184.length c6183), .v (.int .i64 p0.Width), .v (.int .i64 p0.Height), .v (.slice A_p0_Cells p0.Cells.length c_p0_Cells), .v (.int .i64 p0.Width), .v (.int .i64 p0.Height)] [1, 2, 3, 6, 7, 8, 9, 24, 25, 29, 33] [(1, (.int .i64 p1)), (2, (.int .i64 p2)), (3, (.pointer (some ⟨g5752, 0, none⟩))), (6, (.pointer (some ⟨g5756, 0, none⟩))), (7, (.pointer (some ⟨g5760, 0, none⟩))), (8, (.int .i64 x6081)), (9, (.int .i64 x6185)), (24, (.slice A6182 l6184.length c6183)), (25, (.agg #[(.int .i64 p0.Width), (.int .i64 p0.Height), (.slice A_p0_Cells p0.Cells.length c_p0_Cells)])), (29, (.int .i64 (Int.tmod x6185 p0.Width))), (33, (.int .i64 (Int.tmod x6081 p0.Height)))] [.ne p0.Width, .ne p0.Height] [0, 1, 2, 3, 4, 5] [(1, ⟨g5760, 2, none⟩, (.slice A6182 l6184.length c6183)), (2, ⟨g5752, 0, none⟩, (.int .i64 p0.Width)), (2, ⟨g5752, 1, none⟩, (.int .i64 p0.Height)), (2, ⟨g5752, 2, none⟩, (.slice A_p0_Cells p0.Cells.length c_p0_Cells)), (5, ⟨g5752, 0, none⟩, (.int .i64 p0.Width)), (9, ⟨g5752, 1, none⟩, (.int .i64 p0.Height))] (fun fb => by kernel_rfl) rfl ⟨h6219, h6220, trivial⟩ rfl ?_
              obtain ⟨t6221, ht6222, hl6194⟩ := bind_some hl6194
              refine WL.call (some 34) 49 #[(.agg #[(.int .i64 p0.Width), (.int .i64 p0.Height), (.slice A_p0_Cells p0.Cells.length c_p0_Cells)]), (.int .i64 (Int.tmod x6185 p0.Width)), (.int .i64 (Int.tmod x6081 p0.Height))] (fun fb => by kernel_rfl) (ref01_Cell_calls p0 (Int.tmod x6185 p0.Width) (Int.tmod x6081 p0.Height) A_p0_Cells c_p0_Cells t6221 _ (hS6216.rd 0) ht6222) (fun v w6223 hR6224 => ?_)
              obtain ⟨rfl, hk_⟩ := hR6224
              have hS6225 := hS6216.keepN hk_
              refine ⟨⟨hS6225.cell 2 rfl 2 rfl, trivial⟩, ?_⟩
              refine WL.new hS6225 35 [] (fun g => (.slice (some ⟨g, 0, none⟩) 1 1)) (.cells #[(.int .i64 t6221)] 3 (0, 0)) [] (fun fb g => by kernel_rfl) trivial (fun g6226 w6227 hS6228 => ?_)
              refine ⟨⟨hS6228.cell 3 rfl 2 rfl, trivial⟩, ?_⟩
              have hS6230 : St NoS w w6227 [rowR encInt A_p0_Cells c_p0_Cells p0.Cells] [rowO 3 encInt (some ⟨g6226, 0, none⟩) 1 [t6221], blk g5752 (.cells #[(.int .i64 p0.Width), (.int .i64 p0.Height), (.slice A_p0_Cells p0.Cells.length c_p0_Cells)] 35 (0, 0)), blk g5756 (.cells #[(.int .i64 0), (.int .i64 0), (.slice none 0 0)] 35 (0, 0)), blk g5760 (.cells #[(.int .i64 p1), (.int .i64 p2), (.slice A6182 l6184.length c6183)] 35 (0, 0)), rowO 3 encInt A6182 c6183 l6184] := hS6228.map1 0 _ (fun h => rowO.ofBlk h rfl (Nat.le_of_ble_eq_true (by kernel_rfl))) (fun _ h => by obtain ⟨_, h1, h2⟩ := h; injection h1 with h1; subst h1; exact h2) [1, 2, 3, 4] (by decide) (by decide)
              obtain ⟨h6231, hl6194⟩ := as_some hl6194
              refine WL.append hS6230 4 (d := 36) (tS := 33) (z := (.int .i64 0)) (bytes := 8) (c2 := 1) rfl (fun fb => by kernel_rfl) (rowO.rd (hS6230.own 0).1) (by kernel_rfl) (by kernel_rfl) rfl (by decide) h6231 (by decide) [0, 1, 2, 3] (by decide) (by decide) (fun A6232 c6233 w6234 hS6235 => ?_)
              refine ⟨trivial, ?_⟩
              refine seg 15 [] [1, 2, 3, 6, 7, 8, 9, 36, 37] [(1, (.int .i64 p1)), (2, (.int .i64 p2)), (3, (.pointer (some ⟨g5752, 0, none⟩))), (6, (.pointer (some ⟨g5756, 0, none⟩))), (7, (.pointer (some ⟨g5760, 0, none⟩))), (8, (.int .i64 x6081)), (9, (.int .i64 x6185)), (36, (.slice A6232 (l6184 ++ [t6221]).length c6233)), (37, (.pointer (some ⟨g5760, 2, none⟩)))] [] (fun fb => by kernel_rfl) rfl trivial ?_
              refine WL.store hS6235 4 rfl [(2, (.slice A6232 (l6184 ++ [t6221]).length c6233))] #[(.int .i64 p1), (.int .i64 p2), (.slice A6232 (l6184 ++ [t6221]).length c6233)] (fun fb => by kernel_rfl) (by kernel_rfl) rfl [0, 1, 2, 3] (by decide) (by decide) (fun w6236 hS6237 => ?_)
              refine ⟨trivial, ?_⟩
              refine WL.done rfl ?_
              refine WX.blockN (WX.next ?_)
              refine WC.region ?_
              refine seg 3 [] [1, 2, 3, 6, 7, 8, 9] [(1, (.int .i64 p1)), (2, (.int .i64 p2)), (3, (.pointer (some ⟨g5752, 0, none⟩))), (6, (.pointer (some ⟨g5756, 0, none⟩))), (7, (.pointer (some ⟨g5760, 0, none⟩))), (8, (.int .i64 x6081)), (9, (.int .i64 (w64 (x6185 + 1))))] [] (fun fb => by kernel_rfl) rfl trivial ?_
              refine WL.done rfl ?_
              exact WX.again k6191 (Nat.lt_succ_self _) ((l6184 ++ [t6221], w64 (x6185 + 1)), A6232, c6233) [1, 2, 3, 6, 7, 8, 9] rfl ⟨(hS6237.subR [0]).sub [3, 4, 0, 1] (by decide), hl6194⟩
            refine WC.condF2 (fun fb => by kernel_rfl) h6195 ?_
            refine WC.exit ?_
            injection hl6194 with hl6194
            exact WX.thenX (WX.thenX (WX.blockHere (WX.to Kx6189 (l6184, A6182, c6183) [1, 2, 3, 6, 7, 8] rfl ⟨(hS6193.subR [0]).sub [0, 1, 2, 3] (by decide), hl6194.symm⟩)))
        rintro ⟨y6241, A6186, c6187⟩ w6238 ⟨hS6239, hq6240⟩
        subst hq6240
        refine WX.blockN (WX.next ?_)
        refine WC.region ?_
        refine seg 3 [] [1, 2, 3, 6, 7, 8] [(1, (.int .i64 p1)), (2, (.int .i64 p2)), (3, (.pointer (some ⟨g5752, 0, none⟩))), (6, (.pointer (some ⟨g5756, 0, none⟩))), (7, (.pointer (some ⟨g5760, 0, none⟩))), (8, (.int .i64 (w64 (x6081 + 1))))] [] (fun fb => by kernel_rfl) rfl trivial ?_
        refine WL.done rfl ?_
        exact WX.again k6087 (Nat.lt_succ_self _) ((x6189, w64 (x6081 + 1)), A6186, c6187) [1, 2, 3, 6, 7, 8] rfl ⟨(hS6239.subR [0]).sub [0, 1, 2, 3] (by decide), hl6090⟩
      refine WC.condF2 (fun fb => by kernel_rfl) h6091 ?_
      refine WC.exit ?_
      injection hl6090 with hl6090
      exact WX.thenX (WX.thenX (WX.blockHere (WX.to Kx6085 (l6080, A6078, c6079) [6, 7] rfl ⟨(hS6089.subR [0]).sub [1, 2, 3] (by decide), hl6090.symm⟩)))
  rintro ⟨y6245, A6082, c6083⟩ w6242 ⟨hS6243, hq6244⟩
  subst hq6244
  refine WX.next ?_
  refine WC.seq ?_
  refine WC.region ?_
  refine seg 1 [.v (.int .i64 p1), .v (.int .i64 p2), .v (.slice A6082 x6085.length c6083)] [6, 38] [(6, (.pointer (some ⟨g5756, 0, none⟩))), (38, (.agg #[(.int .i64 p1), (.int .i64 p2), (.slice A6082 x6085.length c6083)]))] [.cell ⟨g5760, 0, none⟩ (.int .i64 p1), .cell ⟨g5760, 1, none⟩ (.int .i64 p2), .cell ⟨g5760, 2, none⟩ (.slice A6082 x6085.length c6083)] (fun fb => by kernel_rfl) rfl ⟨hS6243.cell 1 rfl 0 rfl, hS6243.cell 1 rfl 1 rfl, hS6243.cell 1 rfl 2 rfl, trivial⟩ ?_
  refine WL.store hS6243 0 rfl [(0, (.int .i64 p1)), (1, (.int .i64 p2)), (2, (.slice A6082 x6085.length c6083))] #[(.int .i64 p1), (.int .i64 p2), (.slice A6082 x6085.length c6083)] (fun fb => by kernel_rfl) (by kernel_rfl) rfl [1, 2] (by decide) (by decide) (fun w6246 hS6247 => ?_)
  refine ⟨trivial, ?_⟩
  refine WL.done rfl ?_
  refine WX.next ?_
  refine WC.ret ?_
  injection hf with hf
  subst hf
  exact WX.ret_ [.v (.int .i64 p1), .v (.int .i64 p2), .v (.slice A6082 x6085.length c6083)] (.agg #[(.int .i64 p1), (.int .i64 p2), (.slice A6082 x6085.length c6083)]) [.cell ⟨g5756, 0, none⟩ (.int .i64 p1), .cell ⟨g5756, 1, none⟩ (.int .i64 p2), .cell ⟨g5756, 2, none⟩ (.slice A6082 x6085.length c6083)] (fun fb => by kernel_rfl) ⟨hS6247.cell 0 rfl 0 rfl, hS6247.cell 0 rfl 1 rfl, hS6247.cell 0 rfl 2 rfl, trivial⟩ ⟨_, rfl, A6082, c6083, rfl, (hS6247.sub [2] (by decide)).noR⟩
theorem law01_TilePatterns_calls (k : Nat) (p0 : Pattern) (p1 : Int) (p2 : Int) (p3 : Int) (p4 : Int) (A_p0_Cells : Option Addr) (c_p0_Cells : Nat) (mG : Int) (r : Bool) (w : World) (hR0 : RO NoS w (rowR encInt A_p0_Cells c_p0_Cells p0.Cells)) (hR1 : RO NoS w (cel ⟨2, 0, none⟩ (.int .i64 mG))) (hf : law01_TilePatterns k p0 p1 p2 p3 p4 = some r) :
    CallsR Tryd.prog 6 #[(.agg #[(.int .i64 p0.Width), (.int .i64 p0.Height), (.slice A_p0_Cells p0.Cells.length c_p0_Cells)]), (.int .i64 p1), (.int .i64 p2), (.int .i64 p3), (.int .i64 p4)] w (fun v w' => v = (.bool r) ∧ Keeps NoS w w') := by
  have hS : St NoS w w [rowR encInt A_p0_Cells c_p0_Cells p0.Cells, cel ⟨2, 0, none⟩ (.int .i64 mG)] [] := St.init (ro_cons hR0 (ro_cons hR1 (ro_nil _ _)))
  refine enter 208 Tryd.func6 rfl Tryd.ntmps6 rfl ?_
  unfold law01_TilePatterns at hf
  refine WC.seq ?_
  refine WC.region ?_
  refine WL.new hS 5 [] (fun g => (.pointer (some ⟨g, 0, none⟩))) (.cells #[(.int .i64 p0.Width), (.int .i64 p0.Height), (.slice A_p0_Cells p0.Cells.length c_p0_Cells)] 35 (0, 0)) [] (fun fb g => by kernel_rfl) trivial (fun g1 w2 hS3 => ?_)
  refine ⟨trivial, ?_⟩
  refine seg 2 [] [1, 2, 3, 4, 5] [(1, (.int .i64 p1)), (2, (.int .i64 p2)), (3, (.int .i64 p3)), (4, (.int .i64 p4)), (5, (.pointer (some ⟨g1, 0, none⟩)))] [] (fun fb => by kernel_rfl) rfl trivial ?_
  refine WL.done rfl ?_
  refine WX.next ?_
  refine WC.seq ?_
  refine WC.seq ?_
  refine WC.region ?_
  refine seg 4 [.v (.slice A_p0_Cells p0.Cells.length c_p0_Cells)] [1, 2, 3, 4, 5, 25] [(1, (.int .i64 p1)), (2, (.int .i64 p2)), (3, (.int .i64 p3)), (4, (.int .i64 p4)), (5, (.pointer (some ⟨g1, 0, none⟩))), (25, (.bool (decide ((p0.Cells.length : Int) > 50000))))] [.cell ⟨g1, 2, none⟩ (.slice A_p0_Cells p0.Cells.length c_p0_Cells)] (fun fb => by kernel_rfl) rfl ⟨hS3.cell 0 rfl 2 rfl, trivial⟩ ?_
  refine WL.done rfl ?_
  refine WX.next ?_
  rcases br_some hf with ⟨h5, hf⟩ | ⟨h5, hf⟩
  · refine WC.condT2 (fun fb => by kernel_rfl) h5 ?_
    refine WC.seq ?_
    refine WC.region ?_
    obtain ⟨t1772, ht1773, hf⟩ := bind_some hf
    refine WL.call (some 26) 8 #[] (fun fb => by kernel_rfl) (law01_awake_calls _ mG t1772 _ (hS3.rd 1) ht1773) (fun v w1774 hR1775 => ?_)
    obtain ⟨rfl, hk_⟩ := hR1775
    have hS1776 := hS3.keepN hk_
    refine ⟨trivial, ?_⟩
    refine seg 2 [] [10] [(10, (.bool t1772))] [] (fun fb => by kernel_rfl) rfl trivial ?_
    refine WL.done rfl ?_
    refine WX.next ?_
    refine WC.ret ?_
    injection hf with hf
    subst hf
    exact WX.thenR (WX.ret_ [] (.bool t1772) [] (fun fb => by kernel_rfl) trivial ⟨_, rfl, rfl, hS1776.keep⟩)
  refine WC.condF2 (fun fb => by kernel_rfl) h5 ?_
  refine WC.skip ?_
  refine WX.next ?_
  refine WC.seq ?_
  refine WC.region ?_
  refine seg 1 [.v (.int .i64 p0.Width), .v (.int .i64 p0.Height), .v (.slice A_p0_Cells p0.Cells.length c_p0_Cells)] [1, 2, 3, 4, 5, 28] [(1, (.int .i64 p1)), (2, (.int .i64 p2)), (3, (.int .i64 p3)), (4, (.int .i64 p4)), (5, (.pointer (some ⟨g1, 0, none⟩))), (28, (.agg #[(.int .i64 p0.Width), (.int .i64 p0.Height), (.slice A_p0_Cells p0.Cells.length c_p0_Cells)]))] [.cell ⟨g1, 0, none⟩ (.int .i64 p0.Width), .cell ⟨g1, 1, none⟩ (.int .i64 p0.Height), .cell ⟨g1, 2, none⟩ (.slice A_p0_Cells p0.Cells.length c_p0_Cells)] (fun fb => by kernel_rfl) rfl ⟨hS3.cell 0 rfl 0 rfl, hS3.cell 0 rfl 1 rfl, hS3.cell 0 rfl 2 rfl, trivial⟩ ?_
  obtain ⟨t2255, ht2256, hf⟩ := bind_some hf
  refine WL.call (some 29) 28 #[(.agg #[(.int .i64 p0.Width), (.int .i64 p0.Height), (.slice A_p0_Cells p0.Cells.length c_p0_Cells)])] (fun fb => by kernel_rfl) (tile_MirrorPattern_calls _ p0 A_p0_Cells c_p0_Cells t2255 _ (hS3.rd 0) ht2256) (fun v w2257 hR2258 => ?_)
  obtain ⟨A2260, c2261, rfl, hk_⟩ := hR2258
  have hS2259 : St NoS w w2257 [rowR encInt A_p0_Cells c_p0_Cells p0.Cells, cel ⟨2, 0, none⟩ (.int .i64 mG)] [rowO 3 encInt A2260 c2261 t2255.1.Cells, blk g1 (.cells #[(.int .i64 p0.Width), (.int .i64 p0.Height), (.slice A_p0_Cells p0.Cells.length c_p0_Cells)] 35 (0, 0))] := hS3.call hk_ [] [0] (fun g hg => hg.elim) (by simp) (by decide)
  refine ⟨trivial, ?_⟩
  refine seg 5 [] [1, 2, 3, 4, 5, 30, 31] [(1, (.int .i64 p1)), (2, (.int .i64 p2)), (3, (.int .i64 p3)), (4, (.int .i64 p4)), (5, (.pointer (some ⟨g1, 0, none⟩))), (30, (.agg #[(.int .i64 t2255.1.Width), (.int .i64 t2255.1.Height), (.slice A2260 t2255.1.Cells.length c2261)])), (31, (.int .i64 t2255.2))] [] (fun fb => by kernel_rfl) rfl trivial ?_
  refine WL.new hS2259 11 [] (fun g => (.pointer (some ⟨g, 0, none⟩))) (.cells #[(.int .i64 0), (.int .i64 0), (.slice none 0 0)] 35 (0, 0)) [] (fun fb g => by kernel_rfl) trivial (fun g2262 w2263 hS2264 => ?_)
  refine ⟨trivial, ?_⟩
  refine WL.store hS2264 0 rfl [(0, (.int .i64 t2255.1.Width)), (1, (.int .i64 t2255.1.Height)), (2, (.slice A2260 t2255.1.Cells.length c2261))] #[(.int .i64 t2255.1.Width), (.int .i64 t2255.1.Height), (.slice A2260 t2255.1.Cells.length c2261)] (fun fb => by kernel_rfl) (by kernel_rfl) rfl [1, 2] (by decide) (by decide) (fun w2266 hS2267 => ?_)
  refine ⟨trivial, ?_⟩
  refine seg 8 [] [1, 2, 3, 4, 5, 11, 12] [(1, (.int .i64 p1)), (2, (.int .i64 p2)), (3, (.int .i64 p3)), (4, (.int .i64 p4)), (5, (.pointer (some ⟨g1, 0, none⟩))), (11, (.pointer (some ⟨g2262, 0, none⟩))), (12, (.int .i64 t2255.2))] [] (fun fb => by kernel_rfl) rfl trivial ?_
  refine WL.done rfl ?_
  refine WX.next ?_
  refine WC.seq ?_
  refine WC.region ?_
  refine seg 1 [.v (.int .i64 p0.Width), .v (.int .i64 p0.Height), .v (.slice A_p0_Cells p0.Cells.length c_p0_Cells)] [1, 2, 3, 4, 5, 11, 12, 33] [(1, (.int .i64 p1)), (2, (.int .i64 p2)), (3, (.int .i64 p3)), (4, (.int .i64 p4)), (5, (.pointer (some ⟨g1, 0, none⟩))), (11, (.pointer (some ⟨g2262, 0, none⟩))), (12, (.int .i64 t2255.2)), (33, (.agg #[(.int .i64 p0.Width), (.int .i64 p0.Height), (.slice A_p0_Cells p0.Cells.length c_p0_Cells)]))] [.cell ⟨g1, 0, none⟩ (.int .i64 p0.Width), .cell ⟨g1, 1, none⟩ (.int .i64 p0.Height), .cell ⟨g1, 2, none⟩ (.slice A_p0_Cells p0.Cells.length c_p0_Cells)] (fun fb => by kernel_rfl) rfl ⟨hS2267.cell 2 rfl 0 rfl, hS2267.cell 2 rfl 1 rfl, hS2267.cell 2 rfl 2 rfl, trivial⟩ ?_
  obtain ⟨t2742, ht2743, hf⟩ := bind_some hf
  refine WL.call (some 34) 29 #[(.agg #[(.int .i64 p0.Width), (.int .i64 p0.Height), (.slice A_p0_Cells p0.Cells.length c_p0_Cells)])] (fun fb => by kernel_rfl) (tile_UpturnPattern_calls _ p0 A_p0_Cells c_p0_Cells t2742 _ (hS2267.rd 0) ht2743) (fun v w2744 hR2745 => ?_)
  obtain ⟨A2747, c2748, rfl, hk_⟩ := hR2745
  have hS2746 : St NoS w w2744 [rowR encInt A_p0_Cells c_p0_Cells p0.Cells, cel ⟨2, 0, none⟩ (.int .i64 mG)] [rowO 3 encInt A2747 c2748 t2742.1.Cells, blk g2262 (.cells #[(.int .i64 t2255.1.Width), (.int .i64 t2255.1.Height), (.slice A2260 t2255.1.Cells.length c2261)] 35 (0, 0)), rowO 3 encInt A2260 c2261 t2255.1.Cells, blk g1 (.cells #[(.int .i64 p0.Width), (.int .i64 p0.Height), (.slice A_p0_Cells p0.Cells.length c_p0_Cells)] 35 (0, 0))] := hS2267.call hk_ [] [0, 1, 2] (fun g hg => hg.elim) (by simp) (by decide)
  refine ⟨trivial, ?_⟩
  refine seg 5 [] [1, 2, 3, 4, 5, 11, 12, 35, 36] [(1, (.int .i64 p1)), (2, (.int .i64 p2)), (3, (.int .i64 p3)), (4, (.int .i64 p4)), (5, (.pointer (some ⟨g1, 0, none⟩))), (11, (.pointer (some ⟨g2262, 0, none⟩))), (12, (.int .i64 t2255.2)), (35, (.agg #[(.int .i64 t2742.1.Width), (.int .i64 t2742.1.Height), (.slice A2747 t2742.1.Cells.length c2748)])), (36, (.int .i64 t2742.2))] [] (fun fb => by kernel_rfl) rfl trivial ?_
  refine WL.new hS2746 13 [] (fun g => (.pointer (some ⟨g, 0, none⟩))) (.cells #[(.int .i64 0), (.int .i64 0), (.slice none 0 0)] 35 (0, 0)) [] (fun fb g => by kernel_rfl) trivial (fun g2749 w2750 hS2751 => ?_)
  refine ⟨trivial, ?_⟩
  refine WL.store hS2751 0 rfl [(0, (.int .i64 t2742.1.Width)), (1, (.int .i64 t2742.1.Height)), (2, (.slice A2747 t2742.1.Cells.length c2748))] #[(.int .i64 t2742.1.Width), (.int .i64 t2742.1.Height), (.slice A2747 t2742.1.Cells.length c2748)] (fun fb => by kernel_rfl) (by kernel_rfl) rfl [1, 2, 3, 4] (by decide) (by decide) (fun w2753 hS2754 => ?_)
  refine ⟨trivial, ?_⟩
  refine seg 8 [] [1, 2, 3, 4, 5, 11, 12, 13, 14] [(1, (.int .i64 p1)), (2, (.int .i64 p2)), (3, (.int .i64 p3)), (4, (.int .i64 p4)), (5, (.pointer (some ⟨g1, 0, none⟩))), (11, (.pointer (some ⟨g2262, 0, none⟩))), (12, (.int .i64 t2255.2)), (13, (.pointer (some ⟨g2749, 0, none⟩))), (14, (.int .i64 t2742.2))] [] (fun fb => by kernel_rfl) rfl trivial ?_
  refine WL.done rfl ?_
  refine WX.next ?_
  refine WC.seq ?_
  refine WC.region ?_
  refine seg 1 [.v (.int .i64 p0.Width), .v (.int .i64 p0.Height), .v (.slice A_p0_Cells p0.Cells.length c_p0_Cells)] [1, 2, 3, 4, 5, 11, 12, 13, 14, 38] [(1, (.int .i64 p1)), (2, (.int .i64 p2)), (3, (.int .i64 p3)), (4, (.int .i64 p4)), (5, (.pointer (some ⟨g1, 0, none⟩))), (11, (.pointer (some ⟨g2262, 0, none⟩))), (12, (.int .i64 t2255.2)), (13, (.pointer (some ⟨g2749, 0, none⟩))), (14, (.int .i64 t2742.2)), (38, (.agg #[(.int .i64 p0.Width), (.int .i64 p0.Height), (.slice A_p0_Cells p0.Cells.length c_p0_Cells)]))] [.cell ⟨g1, 0, none⟩ (.int .i64 p0.Width), .cell ⟨g1, 1, none⟩ (.int .i64 p0.Height), .cell ⟨g1, 2, none⟩ (.slice A_p0_Cells p0.Cells.length c_p0_Cells)] (fun fb => by kernel_rfl) rfl ⟨hS2754.cell 4 rfl 0 rfl, hS2754.cell 4 rfl 1 rfl, hS2754.cell 4 rfl 2 rfl, trivial⟩ ?_
  obtain ⟨t3227, ht3228, hf⟩ := bind_some hf
  refine WL.call (some 39) 30 #[(.agg #[(.int .i64 p0.Width), (.int .i64 p0.Height), (.slice A_p0_Cells p0.Cells.length c_p0_Cells)])] (fun fb => by kernel_rfl) (tile_TurnPattern_calls _ p0 A_p0_Cells c_p0_Cells t3227 _ (hS2754.rd 0) ht3228) (fun v w3229 hR3230 => ?_)
  obtain ⟨A3232, c3233, rfl, hk_⟩ := hR3230
  have hS3231 : St NoS w w3229 [rowR encInt A_p0_Cells c_p0_Cells p0.Cells, cel ⟨2, 0, none⟩ (.int .i64 mG)] [rowO 3 encInt A3232 c3233 t3227.1.Cells, blk g2749 (.cells #[(.int .i64 t2742.1.Width), (.int .i64 t2742.1.Height), (.slice A2747 t2742.1.Cells.length c2748)] 35 (0, 0)), rowO 3 encInt A2747 c2748 t2742.1.Cells, blk g2262 (.cells #[(.int .i64 t2255.1.Width), (.int .i64 t2255.1.Height), (.slice A2260 t2255.1.Cells.length c2261)] 35 (0, 0)), rowO 3 encInt A2260 c2261 t2255.1.Cells, blk g1 (.cells #[(.int .i64 p0.Width), (.int .i64 p0.Height), (.slice A_p0_Cells p0.Cells.length c_p0_Cells)] 35 (0, 0))] := hS2754.call hk_ [] [0, 1, 2, 3, 4] (fun g hg => hg.elim) (by simp) (by decide)
  refine ⟨trivial, ?_⟩
  refine seg 5 [] [1, 2, 3, 4, 5, 11, 12, 13, 14, 40, 41] [(1, (.int .i64 p1)), (2, (.int .i64 p2)), (3, (.int .i64 p3)), (4, (.int .i64 p4)), (5, (.pointer (some ⟨g1, 0, none⟩))), (11, (.pointer (some ⟨g2262, 0, none⟩))), (12, (.int .i64 t2255.2)), (13, (.pointer (some ⟨g2749, 0, none⟩))), (14, (.int .i64 t2742.2)), (40, (.agg #[(.int .i64 t3227.1.Width), (.int .i64 t3227.1.Height), (.slice A3232 t3227.1.Cells.length c3233)])), (41, (.int .i64 t3227.2))] [] (fun fb => by kernel_rfl) rfl trivial ?_
  refine WL.new hS3231 15 [] (fun g => (.pointer (some ⟨g, 0, none⟩))) (.cells #[(.int .i64 0), (.int .i64 0), (.slice none 0 0)] 35 (0, 0)) [] (fun fb g => by kernel_rfl) trivial (fun g3234 w3235 hS3236 => ?_)
  refine ⟨trivial, ?_⟩
  refine WL.store hS3236 0 rfl [(0, (.int .i64 t3227.1.Width)), (1, (.int .i64 t3227.1.Height)), (2, (.slice A3232 t3227.1.Cells.length c3233))] #[(.int .i64 t3227.1.Width), (.int .i64 t3227.1.Height), (.slice A3232 t3227.1.Cells.length c3233)] (fun fb => by kernel_rfl) (by kernel_rfl) rfl [1, 2, 3, 4, 5, 6] (by decide) (by decide) (fun w3238 hS3239 => ?_)
  refine ⟨trivial, ?_⟩
  refine seg 8 [] [1, 2, 3, 4, 5, 11, 12, 13, 14, 15, 16] [(1, (.int .i64 p1)), (2, (.int .i64 p2)), (3, (.int .i64 p3)), (4, (.int .i64 p4)), (5, (.pointer (some ⟨g1, 0, none⟩))), (11, (.pointer (some ⟨g2262, 0, none⟩))), (12, (.int .i64 t2255.2)), (13, (.pointer (some ⟨g2749, 0, none⟩))), (14, (.int .i64 t2742.2)), (15, (.pointer (some ⟨g3234, 0, none⟩))), (16, (.int .i64 t3227.2))] [] (fun fb => by kernel_rfl) rfl trivial ?_
  refine WL.done rfl ?_
  refine WX.next ?_
  refine WC.seq ?_
  refine WC.region ?_
  refine seg 5 [.v (.int .i64 p0.Width), .v (.int .i64 p0.Height), .v (.slice A_p0_Cells p0.Cells.length c_p0_Cells)] [1, 2, 3, 4, 5, 11, 12, 13, 14, 15, 16, 43, 44, 45, 46, 47] [(1, (.int .i64 p1)), (2, (.int .i64 p2)), (3, (.int .i64 p3)), (4, (.int .i64 p4)), (5, (.pointer (some ⟨g1, 0, none⟩))), (11, (.pointer (some ⟨g2262, 0, none⟩))), (12, (.int .i64 t2255.2)), (13, (.pointer (some ⟨g2749, 0, none⟩))), (14, (.int .i64 t2742.2)), (15, (.pointer (some ⟨g3234, 0, none⟩))), (16, (.int .i64 t3227.2)), (43, (.agg #[(.int .i64 p0.Width), (.int .i64 p0.Height), (.slice A_p0_Cells p0.Cells.length c_p0_Cells)])), (44, (.int .i64 p1)), (45, (.int .i64 p2)), (46, (.int .i64 p3)), (47, (.int .i64 p4))] [.cell ⟨g1, 0, none⟩ (.int .i64 p0.Width), .cell ⟨g1, 1, none⟩ (.int .i64 p0.Height), .cell ⟨g1, 2, none⟩ (.slice A_p0_Cells p0.Cells.length c_p0_Cells)] (fun fb => by kernel_rfl) rfl ⟨hS3239.cell 6 rfl 0 rfl, hS3239.cell 6 rfl 1 rfl, hS3239.cell 6 rfl 2 rfl, trivial⟩ ?_
  obtain ⟨t3371, ht3372, hf⟩ := bind_some hf
  refine WL.call (some 48) 31 #[(.agg #[(.int .i64 p0.Width), (.int .i64 p0.Height), (.slice A_p0_Cells p0.Cells.length c_p0_Cells)]), (.int .i64 p1), (.int .i64 p2), (.int .i64 p3), (.int .i64 p4)] (fun fb => by kernel_rfl) (tile_Cut_calls _ p0 p1 p2 p3 p4 A_p0_Cells c_p0_Cells t3371 _ (hS3239.rd 0) ht3372) (fun v w3373 hR3374 => ?_)
  obtain ⟨A3376, c3377, rfl, hk_⟩ := hR3374
  have hS3375 : St NoS w w3373 [rowR encInt A_p0_Cells c_p0_Cells p0.Cells, cel ⟨2, 0, none⟩ (.int .i64 mG)] [rowO 3 encInt A3376 c3377 t3371.1.Cells, blk g3234 (.cells #[(.int .i64 t3227.1.Width), (.int .i64 t3227.1.Height), (.slice A3232 t3227.1.Cells.length c3233)] 35 (0, 0)), rowO 3 encInt A3232 c3233 t3227.1.Cells, blk g2749 (.cells #[(.int .i64 t2742.1.Width), (.int .i64 t2742.1.Height), (.slice A2747 t2742.1.Cells.length c2748)] 35 (0, 0)), rowO 3 encInt A2747 c2748 t2742.1.Cells, blk g2262 (.cells #[(.int .i64 t2255.1.Width), (.int .i64 t2255.1.Height), (.slice A2260 t2255.1.Cells.length c2261)] 35 (0, 0)), rowO 3 encInt A2260 c2261 t2255.1.Cells, blk g1 (.cells #[(.int .i64 p0.Width), (.int .i64 p0.Height), (.slice A_p0_Cells p0.Cells.length c_p0_Cells)] 35 (0, 0))] := hS3239.call hk_ [] [0, 1, 2, 3, 4, 5, 6] (fun g hg => hg.elim) (by simp) (by decide)
  refine ⟨trivial, ?_⟩
  refine seg 9 [] [1, 2, 3, 4, 5, 11, 12, 13, 14, 15, 16, 49, 50] [(1, (.int .i64 p1)), (2, (.int .i64 p2)), (3, (.int .i64 p3)), (4, (.int .i64 p4)), (5, (.pointer (some ⟨g1, 0, none⟩))), (11, (.pointer (some ⟨g2262, 0, none⟩))), (12, (.int .i64 t2255.2)), (13, (.pointer (some ⟨g2749, 0, none⟩))), (14, (.int .i64 t2742.2)), (15, (.pointer (some ⟨g3234, 0, none⟩))), (16, (.int .i64 t3227.2)), (49, (.agg #[(.int .i64 t3371.1.Width), (.int .i64 t3371.1.Height), (.slice A3376 t3371.1.Cells.length c3377)])), (50, (.int .i64 t3371.2))] [] (fun fb => by kernel_rfl) rfl trivial ?_
  refine WL.new hS3375 17 [] (fun g => (.pointer (some ⟨g, 0, none⟩))) (.cells #[(.int .i64 0), (.int .i64 0), (.slice none 0 0)] 35 (0, 0)) [] (fun fb g => by kernel_rfl) trivial (fun g3378 w3379 hS3380 => ?_)
  refine ⟨trivial, ?_⟩
  refine WL.store hS3380 0 rfl [(0, (.int .i64 t3371.1.Width)), (1, (.int .i64 t3371.1.Height)), (2, (.slice A3376 t3371.1.Cells.length c3377))] #[(.int .i64 t3371.1.Width), (.int .i64 t3371.1.Height), (.slice A3376 t3371.1.Cells.length c3377)] (fun fb => by kernel_rfl) (by kernel_rfl) rfl [1, 2, 3, 4, 5, 6, 7, 8] (by decide) (by decide) (fun w3382 hS3383 => ?_)
  refine ⟨trivial, ?_⟩
  refine seg 12 [] [1, 2, 3, 4, 5, 11, 12, 13, 14, 15, 16, 17, 18] [(1, (.int .i64 p1)), (2, (.int .i64 p2)), (3, (.int .i64 p3)), (4, (.int .i64 p4)), (5, (.pointer (some ⟨g1, 0, none⟩))), (11, (.pointer (some ⟨g2262, 0, none⟩))), (12, (.int .i64 t2255.2)), (13, (.pointer (some ⟨g2749, 0, none⟩))), (14, (.int .i64 t2742.2)), (15, (.pointer (some ⟨g3234, 0, none⟩))), (16, (.int .i64 t3227.2)), (17, (.pointer (some ⟨g3378, 0, none⟩))), (18, (.int .i64 t3371.2))] [] (fun fb => by kernel_rfl) rfl trivial ?_
  refine WL.done rfl ?_
  refine WX.next ?_
  refine WC.seq ?_
  refine WC.region ?_
  refine seg 3 [.v (.int .i64 p0.Width), .v (.int .i64 p0.Height), .v (.slice A_p0_Cells p0.Cells.length c_p0_Cells)] [1, 2, 3, 4, 5, 11, 12, 13, 14, 15, 16, 17, 18, 52, 53, 54] [(1, (.int .i64 p1)), (2, (.int .i64 p2)), (3, (.int .i64 p3)), (4, (.int .i64 p4)), (5, (.pointer (some ⟨g1, 0, none⟩))), (11, (.pointer (some ⟨g2262, 0, none⟩))), (12, (.int .i64 t2255.2)), (13, (.pointer (some ⟨g2749, 0, none⟩))), (14, (.int .i64 t2742.2)), (15, (.pointer (some ⟨g3234, 0, none⟩))), (16, (.int .i64 t3227.2)), (17, (.pointer (some ⟨g3378, 0, none⟩))), (18, (.int .i64 t3371.2)), (52, (.agg #[(.int .i64 p0.Width), (.int .i64 p0.Height), (.slice A_p0_Cells p0.Cells.length c_p0_Cells)])), (53, (.int .i64 p3)), (54, (.int .i64 p4))] [.cell ⟨g1, 0, none⟩ (.int .i64 p0.Width), .cell ⟨g1, 1, none⟩ (.int .i64 p0.Height), .cell ⟨g1, 2, none⟩ (.slice A_p0_Cells p0.Cells.length c_p0_Cells)] (fun fb => by kernel_rfl) rfl ⟨hS3383.cell 8 rfl 0 rfl, hS3383.cell 8 rfl 1 rfl, hS3383.cell 8 rfl 2 rfl, trivial⟩ ?_
  obtain ⟨t3840, ht3841, hf⟩ := bind_some hf
  refine WL.call (some 55) 32 #[(.agg #[(.int .i64 p0.Width), (.int .i64 p0.Height), (.slice A_p0_Cells p0.Cells.length c_p0_Cells)]), (.int .i64 p3), (.int .i64 p4)] (fun fb => by kernel_rfl) (tile_Repeat_calls _ p0 p3 p4 A_p0_Cells c_p0_Cells t3840 _ (hS3383.rd 0) ht3841) (fun v w3842 hR3843 => ?_)
  obtain ⟨A3845, c3846, rfl, hk_⟩ := hR3843
  have hS3844 : St NoS w w3842 [rowR encInt A_p0_Cells c_p0_Cells p0.Cells, cel ⟨2, 0, none⟩ (.int .i64 mG)] [rowO 3 encInt A3845 c3846 t3840.1.Cells, blk g3378 (.cells #[(.int .i64 t3371.1.Width), (.int .i64 t3371.1.Height), (.slice A3376 t3371.1.Cells.length c3377)] 35 (0, 0)), rowO 3 encInt A3376 c3377 t3371.1.Cells, blk g3234 (.cells #[(.int .i64 t3227.1.Width), (.int .i64 t3227.1.Height), (.slice A3232 t3227.1.Cells.length c3233)] 35 (0, 0)), rowO 3 encInt A3232 c3233 t3227.1.Cells, blk g2749 (.cells #[(.int .i64 t2742.1.Width), (.int .i64 t2742.1.Height), (.slice A2747 t2742.1.Cells.length c2748)] 35 (0, 0)), rowO 3 encInt A2747 c2748 t2742.1.Cells, blk g2262 (.cells #[(.int .i64 t2255.1.Width), (.int .i64 t2255.1.Height), (.slice A2260 t2255.1.Cells.length c2261)] 35 (0, 0)), rowO 3 encInt A2260 c2261 t2255.1.Cells, blk g1 (.cells #[(.int .i64 p0.Width), (.int .i64 p0.Height), (.slice A_p0_Cells p0.Cells.length c_p0_Cells)] 35 (0, 0))] := hS3383.call hk_ [] [0, 1, 2, 3, 4, 5, 6, 7, 8] (fun g hg => hg.elim) (by simp) (by decide)
  refine ⟨trivial, ?_⟩
  refine seg 7 [] [1, 2, 3, 4, 5, 11, 12, 13, 14, 15, 16, 17, 18, 56, 57] [(1, (.int .i64 p1)), (2, (.int .i64 p2)), (3, (.int .i64 p3)), (4, (.int .i64 p4)), (5, (.pointer (some ⟨g1, 0, none⟩))), (11, (.pointer (some ⟨g2262, 0, none⟩))), (12, (.int .i64 t2255.2)), (13, (.pointer (some ⟨g2749, 0, none⟩))), (14, (.int .i64 t2742.2)), (15, (.pointer (some ⟨g3234, 0, none⟩))), (16, (.int .i64 t3227.2)), (17, (.pointer (some ⟨g3378, 0, none⟩))), (18, (.int .i64 t3371.2)), (56, (.agg #[(.int .i64 t3840.1.Width), (.int .i64 t3840.1.Height), (.slice A3845 t3840.1.Cells.length c3846)])), (57, (.int .i64 t3840.2))] [] (fun fb => by kernel_rfl) rfl trivial ?_
  refine WL.new hS3844 19 [] (fun g => (.pointer (some ⟨g, 0, none⟩))) (.cells #[(.int .i64 0), (.int .i64 0), (.slice none 0 0)] 35 (0, 0)) [] (fun fb g => by kernel_rfl) trivial (fun g3847 w3848 hS3849 => ?_)
  refine ⟨trivial, ?_⟩
  refine WL.store hS3849 0 rfl [(0, (.int .i64 t3840.1.Width)), (1, (.int .i64 t3840.1.Height)), (2, (.slice A3845 t3840.1.Cells.length c3846))] #[(.int .i64 t3840.1.Width), (.int .i64 t3840.1.Height), (.slice A3845 t3840.1.Cells.length c3846)] (fun fb => by kernel_rfl) (by kernel_rfl) rfl [1, 2, 3, 4, 5, 6, 7, 8, 9, 10] (by decide) (by decide) (fun w3851 hS3852 => ?_)
  refine ⟨trivial, ?_⟩
  refine seg 10 [] [1, 2, 3, 4, 5, 11, 12, 13, 14, 15, 16, 17, 18, 19, 20] [(1, (.int .i64 p1)), (2, (.int .i64 p2)), (3, (.int .i64 p3)), (4, (.int .i64 p4)), (5, (.pointer (some ⟨g1, 0, none⟩))), (11, (.pointer (some ⟨g2262, 0, none⟩))), (12, (.int .i64 t2255.2)), (13, (.pointer (some ⟨g2749, 0, none⟩))), (14, (.int .i64 t2742.2)), (15, (.pointer (some ⟨g3234, 0, none⟩))), (16, (.int .i64 t3227.2)), (17, (.pointer (some ⟨g3378, 0, none⟩))), (18, (.int .i64 t3371.2)), (19, (.pointer (some ⟨g3847, 0, none⟩))), (20, (.int .i64 t3840.2))] [] (fun fb => by kernel_rfl) rfl trivial ?_
  refine WL.done rfl ?_
  refine WX.next ?_
  refine WC.seq ?_
  refine WC.region ?_
  refine seg 1 [] [1, 2, 3, 4, 5, 11, 12, 13, 14, 15, 16, 17, 18, 19, 20, 58] [(1, (.int .i64 p1)), (2, (.int .i64 p2)), (3, (.int .i64 p3)), (4, (.int .i64 p4)), (5, (.pointer (some ⟨g1, 0, none⟩))), (11, (.pointer (some ⟨g2262, 0, none⟩))), (12, (.int .i64 t2255.2)), (13, (.pointer (some ⟨g2749, 0, none⟩))), (14, (.int .i64 t2742.2)), (15, (.pointer (some ⟨g3234, 0, none⟩))), (16, (.int .i64 t3227.2)), (17, (.pointer (some ⟨g3378, 0, none⟩))), (18, (.int .i64 t3371.2)), (19, (.pointer (some ⟨g3847, 0, none⟩))), (20, (.int .i64 t3840.2)), (58, (.agg #[(.int .i64 0), (.int .i64 0), (.slice none 0 0)]))] [] (fun fb => by kernel_rfl) rfl trivial ?_
  refine WL.new hS3852 21 [] (fun g => (.pointer (some ⟨g, 0, none⟩))) (.cells #[(.int .i64 0), (.int .i64 0), (.slice none 0 0)] 35 (0, 0)) [] (fun fb g => by kernel_rfl) trivial (fun g3853 w3854 hS3855 => ?_)
  refine ⟨trivial, ?_⟩
  refine WL.store hS3855 0 rfl [(0, (.int .i64 0)), (1, (.int .i64 0)), (2, (.slice none 0 0))] #[(.int .i64 0), (.int .i64 0), (.slice none 0 0)] (fun fb => by kernel_rfl) (by kernel_rfl) rfl [1, 2, 3, 4, 5, 6, 7, 8, 9, 10, 11] (by decide) (by decide) (fun w3857 hS3858 => ?_)
  refine ⟨trivial, ?_⟩
  refine WL.done rfl ?_
  refine WX.next ?_
  refine WC.seq ?_
  refine WC.seq ?_
  refine WC.region ?_
  refine seg 1 [.v (.int .i64 p0.Width), .v (.int .i64 p0.Height), .v (.slice A_p0_Cells p0.Cells.length c_p0_Cells)] [1, 2, 3, 4, 5, 11, 12, 13, 14, 15, 16, 17, 18, 19, 20, 21, 59] [(1, (.int .i64 p1)), (2, (.int .i64 p2)), (3, (.int .i64 p3)), (4, (.int .i64 p4)), (5, (.pointer (some ⟨g1, 0, none⟩))), (11, (.pointer (some ⟨g2262, 0, none⟩))), (12, (.int .i64 t2255.2)), (13, (.pointer (some ⟨g2749, 0, none⟩))), (14, (.int .i64 t2742.2)), (15, (.pointer (some ⟨g3234, 0, none⟩))), (16, (.int .i64 t3227.2)), (17, (.pointer (some ⟨g3378, 0, none⟩))), (18, (.int .i64 t3371.2)), (19, (.pointer (some ⟨g3847, 0, none⟩))), (20, (.int .i64 t3840.2)), (21, (.pointer (some ⟨g3853, 0, none⟩))), (59, (.agg #[(.int .i64 p0.Width), (.int .i64 p0.Height), (.slice A_p0_Cells p0.Cells.length c_p0_Cells)]))] [.cell ⟨g1, 0, none⟩ (.int .i64 p0.Width), .cell ⟨g1, 1, none⟩ (.int .i64 p0.Height), .cell ⟨g1, 2, none⟩ (.slice A_p0_Cells p0.Cells.length c_p0_Cells)] (fun fb => by kernel_rfl) rfl ⟨hS3858.cell 11 rfl 0 rfl, hS3858.cell 11 rfl 1 rfl, hS3858.cell 11 rfl 2 rfl, trivial⟩ ?_
  obtain ⟨t3873, ht3874, hf⟩ := bind_some hf
  refine WL.call (some 60) 33 #[(.agg #[(.int .i64 p0.Width), (.int .i64 p0.Height), (.slice A_p0_Cells p0.Cells.length c_p0_Cells)])] (fun fb => by kernel_rfl) (ref01_Form_calls p0 A_p0_Cells c_p0_Cells t3873 _ (hS3858.rd 0) ht3874) (fun v w3875 hR3876 => ?_)
  obtain ⟨rfl, hk_⟩ := hR3876
  have hS3877 := hS3858.keepN hk_
  refine ⟨trivial, ?_⟩
  refine seg 3 [] [1, 2, 3, 4, 5, 11, 12, 13, 14, 15, 16, 17, 18, 19, 20, 21, 61] [(1, (.int .i64 p1)), (2, (.int .i64 p2)), (3, (.int .i64 p3)), (4, (.int .i64 p4)), (5, (.pointer (some ⟨g1, 0, none⟩))), (11, (.pointer (some ⟨g2262, 0, none⟩))), (12, (.int .i64 t2255.2)), (13, (.pointer (some ⟨g2749, 0, none⟩))), (14, (.int .i64 t2742.2)), (15, (.pointer (some ⟨g3234, 0, none⟩))), (16, (.int .i64 t3227.2)), (17, (.pointer (some ⟨g3378, 0, none⟩))), (18, (.int .i64 t3371.2)), (19, (.pointer (some ⟨g3847, 0, none⟩))), (20, (.int .i64 t3840.2)), (21, (.pointer (some ⟨g3853, 0, none⟩))), (61, (.bool (!t3873)))] [] (fun fb => by kernel_rfl) rfl trivial ?_
  refine WL.done rfl ?_
  refine WX.next ?_
  rcases br_some hf with ⟨h3878, hf⟩ | ⟨h3878, hf⟩
  · refine WC.condT2 (fun fb => by kernel_rfl) h3878 ?_
    refine WC.seq ?_
    refine WC.region ?_
    refine seg 3 [.v (.int .i64 t2255.1.Width), .v (.int .i64 t2255.1.Height), .v (.slice A2260 t2255.1.Cells.length c2261), .v (.int .i64 0), .v (.int .i64 0), .v (.slice none 0 0)] [13, 14, 15, 16, 17, 18, 19, 20, 21, 62, 63, 64] [(13, (.pointer (some ⟨g2749, 0, none⟩))), (14, (.int .i64 t2742.2)), (15, (.pointer (some ⟨g3234, 0, none⟩))), (16, (.int .i64 t3227.2)), (17, (.pointer (some ⟨g3378, 0, none⟩))), (18, (.int .i64 t3371.2)), (19, (.pointer (some ⟨g3847, 0, none⟩))), (20, (.int .i64 t3840.2)), (21, (.pointer (some ⟨g3853, 0, none⟩))), (62, (.agg #[(.int .i64 t2255.1.Width), (.int .i64 t2255.1.Height), (.slice A2260 t2255.1.Cells.length c2261)])), (63, (.int .i64 t2255.2)), (64, (.agg #[(.int .i64 0), (.int .i64 0), (.slice none 0 0)]))] [.cell ⟨g2262, 0, none⟩ (.int .i64 t2255.1.Width), .cell ⟨g2262, 1, none⟩ (.int .i64 t2255.1.Height), .cell ⟨g2262, 2, none⟩ (.slice A2260 t2255.1.Cells.length c2261), .cell ⟨g3853, 0, none⟩ (.int .i64 0), .cell ⟨g3853, 1, none⟩ (.int .i64 0), .cell ⟨g3853, 2, none⟩ (.slice none 0 0)] (fun fb => by kernel_rfl) rfl ⟨hS3877.cell 9 rfl 0 rfl, hS3877.cell 9 rfl 1 rfl, hS3877.cell 9 rfl 2 rfl, hS3877.cell 0 rfl 0 rfl, hS3877.cell 0 rfl 1 rfl, hS3877.cell 0 rfl 2 rfl, trivial⟩ ?_
    obtain ⟨t3997, ht3998, hf⟩ := bind_some hf
    refine WL.call (some 65) 34 #[(.agg #[(.int .i64 t2255.1.Width), (.int .i64 t2255.1.Height), (.slice A2260 t2255.1.Cells.length c2261)]), (.int .i64 t2255.2), (.agg #[(.int .i64 0), (.int .i64 0), (.slice none 0 0)]), (.int .i64 1)] (fun fb => by kernel_rfl) (law01_is_calls _ t2255.1 t2255.2 (Pattern.mk 0 0 ([] : List Int)) 1 A2260 c2261 none 0 t3997 _ (hS3877.ow 10).ofO (RO.nilR _ _ _) ht3998) (fun v w3999 hR4000 => ?_)
    obtain ⟨rfl, hk_⟩ := hR4000
    have hS4001 := hS3877.keepN hk_
    refine ⟨trivial, ?_⟩
    refine seg 5 [] [13, 14, 15, 16, 17, 18, 19, 20, 21, 66] [(13, (.pointer (some ⟨g2749, 0, none⟩))), (14, (.int .i64 t2742.2)), (15, (.pointer (some ⟨g3234, 0, none⟩))), (16, (.int .i64 t3227.2)), (17, (.pointer (some ⟨g3378, 0, none⟩))), (18, (.int .i64 t3371.2)), (19, (.pointer (some ⟨g3847, 0, none⟩))), (20, (.int .i64 t3840.2)), (21, (.pointer (some ⟨g3853, 0, none⟩))), (66, (.bool t3997))] [] (fun fb => by kernel_rfl) rfl trivial ?_
    obtain ⟨x4008, hx4009, hf⟩ := bind_some hf
    refine WL.cutW (T := Bool) 10 (fun t => [(15, (.pointer (some ⟨g3234, 0, none⟩))), (16, (.int .i64 t3227.2)), (17, (.pointer (some ⟨g3378, 0, none⟩))), (18, (.int .i64 t3371.2)), (19, (.pointer (some ⟨g3847, 0, none⟩))), (20, (.int .i64 t3840.2)), (21, (.pointer (some ⟨g3853, 0, none⟩))), (71, (.bool t))]) (fun t w1 => (St NoS w w1 [rowR encInt A_p0_Cells c_p0_Cells p0.Cells, cel ⟨2, 0, none⟩ (.int .i64 mG)] [blk g3234 (.cells #[(.int .i64 t3227.1.Width), (.int .i64 t3227.1.Height), (.slice A3232 t3227.1.Cells.length c3233)] 35 (0, 0)), rowO 3 encInt A3232 c3233 t3227.1.Cells, blk g3378 (.cells #[(.int .i64 t3371.1.Width), (.int .i64 t3371.1.Height), (.slice A3376 t3371.1.Cells.length c3377)] 35 (0, 0)), rowO 3 encInt A3376 c3377 t3371.1.Cells, blk g3847 (.cells #[(.int .i64 t3840.1.Width), (.int .i64 t3840.1.Height), (.slice A3845 t3840.1.Cells.length c3846)] 35 (0, 0)), rowO 3 encInt A3845 c3846 t3840.1.Cells, blk g3853 (.cells #[(.int .i64 0), (.int .i64 0), (.slice none 0 0)] 35 (0, 0))] ∧ x4008 = t) ∧ CellsOK [] w1) (fun K => ?_) ?_
    ·
      rcases br_some hx4009 with ⟨h4010, hx4009⟩ | ⟨h4010, hx4009⟩
      ·
        refine WL.setB 66 h4010 rfl ?_
        refine seg 8 [.v (.int .i64 t2742.1.Width), .v (.int .i64 t2742.1.Height), .v (.slice A2747 t2742.1.Cells.length c2748), .v (.int .i64 0), .v (.int .i64 0), .v (.slice none 0 0)] [15, 16, 17, 18, 19, 20, 21, 66, 67, 68, 69] [(15, (.pointer (some ⟨g3234, 0, none⟩))), (16, (.int .i64 t3227.2)), (17, (.pointer (some ⟨g3378, 0, none⟩))), (18, (.int .i64 t3371.2)), (19, (.pointer (some ⟨g3847, 0, none⟩))), (20, (.int .i64 t3840.2)), (21, (.pointer (some ⟨g3853, 0, none⟩))), (66, (.bool true)), (67, (.agg #[(.int .i64 t2742.1.Width), (.int .i64 t2742.1.Height), (.slice A2747 t2742.1.Cells.length c2748)])), (68, (.int .i64 t2742.2)), (69, (.agg #[(.int .i64 0), (.int .i64 0), (.slice none 0 0)]))] [.cell ⟨g2749, 0, none⟩ (.int .i64 t2742.1.Width), .cell ⟨g2749, 1, none⟩ (.int .i64 t2742.1.Height), .cell ⟨g2749, 2, none⟩ (.slice A2747 t2742.1.Cells.length c2748), .cell ⟨g3853, 0, none⟩ (.int .i64 0), .cell ⟨g3853, 1, none⟩ (.int .i64 0), .cell ⟨g3853, 2, none⟩ (.slice none 0 0)] (fun fb => by kernel_rfl) rfl ⟨hS4001.cell 7 rfl 0 rfl, hS4001.cell 7 rfl 1 rfl, hS4001.cell 7 rfl 2 rfl, hS4001.cell 0 rfl 0 rfl, hS4001.cell 0 rfl 1 rfl, hS4001.cell 0 rfl 2 rfl, trivial⟩ ?_
        obtain ⟨t4011, ht4012, hx4009⟩ := bind_some hx4009
        refine WL.call (some 70) 34 #[(.agg #[(.int .i64 t2742.1.Width), (.int .i64 t2742.1.Height), (.slice A2747 t2742.1.Cells.length c2748)]), (.int .i64 t2742.2), (.agg #[(.int .i64 0), (.int .i64 0), (.slice none 0 0)]), (.int .i64 1)] (fun fb => by kernel_rfl) (law01_is_calls _ t2742.1 t2742.2 (Pattern.mk 0 0 ([] : List Int)) 1 A2747 c2748 none 0 t4011 _ (hS4001.ow 8).ofO (RO.nilR _ _ _) ht4012) (fun v w4013 hR4014 => ?_)
        obtain ⟨rfl, hk_⟩ := hR4014
        have hS4015 := hS4001.keepN hk_
        refine ⟨trivial, ?_⟩
        refine seg 10 [] [15, 16, 17, 18, 19, 20, 21, 71] [(15, (.pointer (some ⟨g3234, 0, none⟩))), (16, (.int .i64 t3227.2)), (17, (.pointer (some ⟨g3378, 0, none⟩))), (18, (.int .i64 t3371.2)), (19, (.pointer (some ⟨g3847, 0, none⟩))), (20, (.int .i64 t3840.2)), (21, (.pointer (some ⟨g3853, 0, none⟩))), (71, (.bool t4011))] [] (fun fb => by kernel_rfl) rfl trivial ?_
        injection hx4009 with hx4009
        exact WL.to K t4011 [15, 16, 17, 18, 19, 20, 21, 71] rfl ⟨⟨(hS4015.subR [0, 1]).sub [5, 6, 3, 4, 1, 2, 0] (by decide), hx4009.symm⟩, trivial⟩
      refine WL.setB 66 h4010 rfl ?_
      refine seg 10 [] [15, 16, 17, 18, 19, 20, 21, 71] [(15, (.pointer (some ⟨g3234, 0, none⟩))), (16, (.int .i64 t3227.2)), (17, (.pointer (some ⟨g3378, 0, none⟩))), (18, (.int .i64 t3371.2)), (19, (.pointer (some ⟨g3847, 0, none⟩))), (20, (.int .i64 t3840.2)), (21, (.pointer (some ⟨g3853, 0, none⟩))), (71, (.bool false))] [] (fun fb => by kernel_rfl) rfl trivial ?_
      injection hx4009 with hx4009
      exact WL.to K false [15, 16, 17, 18, 19, 20, 21, 71] rfl ⟨⟨(hS4001.subR [0, 1]).sub [5, 6, 3, 4, 1, 2, 0] (by decide), hx4009.symm⟩, trivial⟩
    rintro y4016 w4018 ⟨⟨hS4019, hq4017⟩, hF4020⟩
    subst hq4017
    refine seg 11 [] [15, 16, 17, 18, 19, 20, 21, 72] [(15, (.pointer (some ⟨g3234, 0, none⟩))), (16, (.int .i64 t3227.2)), (17, (.pointer (some ⟨g3378, 0, none⟩))), (18, (.int .i64 t3371.2)), (19, (.pointer (some ⟨g3847, 0, none⟩))), (20, (.int .i64 t3840.2)), (21, (.pointer (some ⟨g3853, 0, none⟩))), (72, (.bool x4008))] [] (fun fb => by kernel_rfl) rfl trivial ?_
    obtain ⟨x4027, hx4028, hf⟩ := bind_some hf
    refine WL.cutW (T := Bool) 16 (fun t => [(17, (.pointer (some ⟨g3378, 0, none⟩))), (18, (.int .i64 t3371.2)), (19, (.pointer (some ⟨g3847, 0, none⟩))), (20, (.int .i64 t3840.2)), (21, (.pointer (some ⟨g3853, 0, none⟩))), (77, (.bool t))]) (fun t w1 => (St NoS w w1 [rowR encInt A_p0_Cells c_p0_Cells p0.Cells, cel ⟨2, 0, none⟩ (.int .i64 mG)] [blk g3378 (.cells #[(.int .i64 t3371.1.Width), (.int .i64 t3371.1.Height), (.slice A3376 t3371.1.Cells.length c3377)] 35 (0, 0)), rowO 3 encInt A3376 c3377 t3371.1.Cells, blk g3847 (.cells #[(.int .i64 t3840.1.Width), (.int .i64 t3840.1.Height), (.slice A3845 t3840.1.Cells.length c3846)] 35 (0, 0)), rowO 3 encInt A3845 c3846 t3840.1.Cells, blk g3853 (.cells #[(.int .i64 0), (.int .i64 0), (.slice none 0 0)] 35 (0, 0))] ∧ x4027 = t) ∧ CellsOK [] w1) (fun K => ?_) ?_
    ·
      rcases br_some hx4028 with ⟨h4029, hx4028⟩ | ⟨h4029, hx4028⟩
      ·
        refine WL.setB 72 h4029 rfl ?_
        refine seg 14 [.v (.int .i64 t3227.1.Width), .v (.int .i64 t3227.1.Height), .v (.slice A3232 t3227.1.Cells.length c3233), .v (.int .i64 0), .v (.int .i64 0), .v (.slice none 0 0)] [17, 18, 19, 20, 21, 72, 73, 74, 75] [(17, (.pointer (some ⟨g3378, 0, none⟩))), (18, (.int .i64 t3371.2)), (19, (.pointer (some ⟨g3847, 0, none⟩))), (20, (.int .i64 t3840.2)), (21, (.pointer (some ⟨g3853, 0, none⟩))), (72, (.bool true)), (73, (.agg #[(.int .i64 t3227.1.Width), (.int .i64 t3227.1.Height), (.slice A3232 t3227.1.Cells.length c3233)])), (74, (.int .i64 t3227.2)), (75, (.agg #[(.int .i64 0), (.int .i64 0), (.slice none 0 0)]))] [.cell ⟨g3234, 0, none⟩ (.int .i64 t3227.1.Width), .cell ⟨g3234, 1, none⟩ (.int .i64 t3227.1.Height), .cell ⟨g3234, 2, none⟩ (.slice A3232 t3227.1.Cells.length c3233), .cell ⟨g3853, 0, none⟩ (.int .i64 0), .cell ⟨g3853, 1, none⟩ (.int .i64 0), .cell ⟨g3853, 2, none⟩ (.slice none 0 0)] (fun fb => by kernel_rfl) rfl ⟨hS4019.cell 0 rfl 0 rfl, hS4019.cell 0 rfl 1 rfl, hS4019.cell 0 rfl 2 rfl, hS4019.cell 6 rfl 0 rfl, hS4019.cell 6 rfl 1 rfl, hS4019.cell 6 rfl 2 rfl, trivial⟩ ?_
        obtain ⟨t4030, ht4031, hx4028⟩ := bind_some hx4028
        refine WL.call (some 76) 34 #[(.agg #[(.int .i64 t3227.1.Width), (.int .i64 t3227.1.Height), (.slice A3232 t3227.1.Cells.length c3233)]), (.int .i64 t3227.2), (.agg #[(.int .i64 0), (.int .i64 0), (.slice none 0 0)]), (.int .i64 1)] (fun fb => by kernel_rfl) (law01_is_calls _ t3227.1 t3227.2 (Pattern.mk 0 0 ([] : List Int)) 1 A3232 c3233 none 0 t4030 _ (hS4019.ow 1).ofO (RO.nilR _ _ _) ht4031) (fun v w4032 hR4033 => ?_)
        obtain ⟨rfl, hk_⟩ := hR4033
        have hS4034 := hS4019.keepN hk_
        refine ⟨trivial, ?_⟩
        refine seg 16 [] [17, 18, 19, 20, 21, 77] [(17, (.pointer (some ⟨g3378, 0, none⟩))), (18, (.int .i64 t3371.2)), (19, (.pointer (some ⟨g3847, 0, none⟩))), (20, (.int .i64 t3840.2)), (21, (.pointer (some ⟨g3853, 0, none⟩))), (77, (.bool t4030))] [] (fun fb => by kernel_rfl) rfl trivial ?_
        injection hx4028 with hx4028
        exact WL.to K t4030 [17, 18, 19, 20, 21, 77] rfl ⟨⟨(hS4034.subR [0, 1]).sub [2, 3, 4, 5, 6] (by decide), hx4028.symm⟩, trivial⟩
      refine WL.setB 72 h4029 rfl ?_
      refine seg 16 [] [17, 18, 19, 20, 21, 77] [(17, (.pointer (some ⟨g3378, 0, none⟩))), (18, (.int .i64 t3371.2)), (19, (.pointer (some ⟨g3847, 0, none⟩))), (20, (.int .i64 t3840.2)), (21, (.pointer (some ⟨g3853, 0, none⟩))), (77, (.bool false))] [] (fun fb => by kernel_rfl) rfl trivial ?_
      injection hx4028 with hx4028
      exact WL.to K false [17, 18, 19, 20, 21, 77] rfl ⟨⟨(hS4019.subR [0, 1]).sub [2, 3, 4, 5, 6] (by decide), hx4028.symm⟩, trivial⟩
    rintro y4035 w4037 ⟨⟨hS4038, hq4036⟩, hF4039⟩
    subst hq4036
    refine seg 17 [] [17, 18, 19, 20, 21, 78] [(17, (.pointer (some ⟨g3378, 0, none⟩))), (18, (.int .i64 t3371.2)), (19, (.pointer (some ⟨g3847, 0, none⟩))), (20, (.int .i64 t3840.2)), (21, (.pointer (some ⟨g3853, 0, none⟩))), (78, (.bool x4027))] [] (fun fb => by kernel_rfl) rfl trivial ?_
    obtain ⟨x4046, hx4047, hf⟩ := bind_some hf
    refine WL.cutW (T := Bool) 22 (fun t => [(19, (.pointer (some ⟨g3847, 0, none⟩))), (20, (.int .i64 t3840.2)), (21, (.pointer (some ⟨g3853, 0, none⟩))), (83, (.bool t))]) (fun t w1 => (St NoS w w1 [rowR encInt A_p0_Cells c_p0_Cells p0.Cells, cel ⟨2, 0, none⟩ (.int .i64 mG)] [blk g3847 (.cells #[(.int .i64 t3840.1.Width), (.int .i64 t3840.1.Height), (.slice A3845 t3840.1.Cells.length c3846)] 35 (0, 0)), rowO 3 encInt A3845 c3846 t3840.1.Cells, blk g3853 (.cells #[(.int .i64 0), (.int .i64 0), (.slice none 0 0)] 35 (0, 0))] ∧ x4046 = t) ∧ CellsOK [] w1) (fun K => ?_) ?_
    ·
      rcases br_some hx4047 with ⟨h4048, hx4047⟩ | ⟨h4048, hx4047⟩
      ·
        refine WL.setB 78 h4048 rfl ?_
        refine seg 20 [.v (.int .i64 t3371.1.Width), .v (.int .i64 t3371.1.Height), .v (.slice A3376 t3371.1.Cells.length c3377), .v (.int .i64 0), .v (.int .i64 0), .v (.slice none 0 0)] [19, 20, 21, 78, 79, 80, 81] [(19, (.pointer (some ⟨g3847, 0, none⟩))), (20, (.int .i64 t3840.2)), (21, (.pointer (some ⟨g3853, 0, none⟩))), (78, (.bool true)), (79, (.agg #[(.int .i64 t3371.1.Width), (.int .i64 t3371.1.Height), (.slice A3376 t3371.1.Cells.length c3377)])), (80, (.int .i64 t3371.2)), (81, (.agg #[(.int .i64 0), (.int .i64 0), (.slice none 0 0)]))] [.cell ⟨g3378, 0, none⟩ (.int .i64 t3371.1.Width), .cell ⟨g3378, 1, none⟩ (.int .i64 t3371.1.Height), .cell ⟨g3378, 2, none⟩ (.slice A3376 t3371.1.Cells.length c3377), .cell ⟨g3853, 0, none⟩ (.int .i64 0), .cell ⟨g3853, 1, none⟩ (.int .i64 0), .cell ⟨g3853, 2, none⟩ (.slice none 0 0)] (fun fb => by kernel_rfl) rfl ⟨hS4038.cell 0 rfl 0 rfl, hS4038.cell 0 rfl 1 rfl, hS4038.cell 0 rfl 2 rfl, hS4038.cell 4 rfl 0 rfl, hS4038.cell 4 rfl 1 rfl, hS4038.cell 4 rfl 2 rfl, trivial⟩ ?_
        obtain ⟨t4049, ht4050, hx4047⟩ := bind_some hx4047
        refine WL.call (some 82) 34 #[(.agg #[(.int .i64 t3371.1.Width), (.int .i64 t3371.1.Height), (.slice A3376 t3371.1.Cells.length c3377)]), (.int .i64 t3371.2), (.agg #[(.int .i64 0), (.int .i64 0), (.slice none 0 0)]), (.int .i64 1)] (fun fb => by kernel_rfl) (law01_is_calls _ t3371.1 t3371.2 (Pattern.mk 0 0 ([] : List Int)) 1 A3376 c3377 none 0 t4049 _ (hS4038.ow 1).ofO (RO.nilR _ _ _) ht4050) (fun v w4051 hR4052 => ?_)
        obtain ⟨rfl, hk_⟩ := hR4052
        have hS4053 := hS4038.keepN hk_
        refine ⟨trivial, ?_⟩
        refine seg 22 [] [19, 20, 21, 83] [(19, (.pointer (some ⟨g3847, 0, none⟩))), (20, (.int .i64 t3840.2)), (21, (.pointer (some ⟨g3853, 0, none⟩))), (83, (.bool t4049))] [] (fun fb => by kernel_rfl) rfl trivial ?_
        injection hx4047 with hx4047
        exact WL.to K t4049 [19, 20, 21, 83] rfl ⟨⟨(hS4053.subR [0, 1]).sub [2, 3, 4] (by decide), hx4047.symm⟩, trivial⟩
      refine WL.setB 78 h4048 rfl ?_
      refine seg 22 [] [19, 20, 21, 83] [(19, (.pointer (some ⟨g3847, 0, none⟩))), (20, (.int .i64 t3840.2)), (21, (.pointer (some ⟨g3853, 0, none⟩))), (83, (.bool false))] [] (fun fb => by kernel_rfl) rfl trivial ?_
      injection hx4047 with hx4047
      exact WL.to K false [19, 20, 21, 83] rfl ⟨⟨(hS4038.subR [0, 1]).sub [2, 3, 4] (by decide), hx4047.symm⟩, trivial⟩
    rintro y4054 w4056 ⟨⟨hS4057, hq4055⟩, hF4058⟩
    subst hq4055
    refine seg 23 [] [19, 20, 21, 84] [(19, (.pointer (some ⟨g3847, 0, none⟩))), (20, (.int .i64 t3840.2)), (21, (.pointer (some ⟨g3853, 0, none⟩))), (84, (.bool x4046))] [] (fun fb => by kernel_rfl) rfl trivial ?_
    obtain ⟨x4065, hx4066, hf⟩ := bind_some hf
    refine WL.cutW (T := Bool) 28 (fun t => [(89, (.bool t))]) (fun t w1 => (St NoS w w1 [rowR encInt A_p0_Cells c_p0_Cells p0.Cells, cel ⟨2, 0, none⟩ (.int .i64 mG)] [] ∧ x4065 = t) ∧ CellsOK [] w1) (fun K => ?_) ?_
    ·
      rcases br_some hx4066 with ⟨h4067, hx4066⟩ | ⟨h4067, hx4066⟩
      ·
        refine WL.setB 84 h4067 rfl ?_
        refine seg 26 [.v (.int .i64 t3840.1.Width), .v (.int .i64 t3840.1.Height), .v (.slice A3845 t3840.1.Cells.length c3846), .v (.int .i64 0), .v (.int .i64 0), .v (.slice none 0 0)] [84, 85, 86, 87] [(84, (.bool true)), (85, (.agg #[(.int .i64 t3840.1.Width), (.int .i64 t3840.1.Height), (.slice A3845 t3840.1.Cells.length c3846)])), (86, (.int .i64 t3840.2)), (87, (.agg #[(.int .i64 0), (.int .i64 0), (.slice none 0 0)]))] [.cell ⟨g3847, 0, none⟩ (.int .i64 t3840.1.Width), .cell ⟨g3847, 1, none⟩ (.int .i64 t3840.1.Height), .cell ⟨g3847, 2, none⟩ (.slice A3845 t3840.1.Cells.length c3846), .cell ⟨g3853, 0, none⟩ (.int .i64 0), .cell ⟨g3853, 1, none⟩ (.int .i64 0), .cell ⟨g3853, 2, none⟩ (.slice none 0 0)] (fun fb => by kernel_rfl) rfl ⟨hS4057.cell 0 rfl 0 rfl, hS4057.cell 0 rfl 1 rfl, hS4057.cell 0 rfl 2 rfl, hS4057.cell 2 rfl 0 rfl, hS4057.cell 2 rfl 1 rfl, hS4057.cell 2 rfl 2 rfl, trivial⟩ ?_
        obtain ⟨t4068, ht4069, hx4066⟩ := bind_some hx4066
        refine WL.call (some 88) 34 #[(.agg #[(.int .i64 t3840.1.Width), (.int .i64 t3840.1.Height), (.slice A3845 t3840.1.Cells.length c3846)]), (.int .i64 t3840.2), (.agg #[(.int .i64 0), (.int .i64 0), (.slice none 0 0)]), (.int .i64 1)] (fun fb => by kernel_rfl) (law01_is_calls _ t3840.1 t3840.2 (Pattern.mk 0 0 ([] : List Int)) 1 A3845 c3846 none 0 t4068 _ (hS4057.ow 1).ofO (RO.nilR _ _ _) ht4069) (fun v w4070 hR4071 => ?_)
        obtain ⟨rfl, hk_⟩ := hR4071
        have hS4072 := hS4057.keepN hk_
        refine ⟨trivial, ?_⟩
        refine seg 28 [] [89] [(89, (.bool t4068))] [] (fun fb => by kernel_rfl) rfl trivial ?_
        injection hx4066 with hx4066
        exact WL.to K t4068 [89] rfl ⟨⟨(hS4072.subR [0, 1]).sub [] (by decide), hx4066.symm⟩, trivial⟩
      refine WL.setB 84 h4067 rfl ?_
      refine seg 28 [] [89] [(89, (.bool false))] [] (fun fb => by kernel_rfl) rfl trivial ?_
      injection hx4066 with hx4066
      exact WL.to K false [89] rfl ⟨⟨(hS4057.subR [0, 1]).sub [] (by decide), hx4066.symm⟩, trivial⟩
    rintro y4073 w4075 ⟨⟨hS4076, hq4074⟩, hF4077⟩
    subst hq4074
    refine seg 29 [] [90] [(90, (.bool x4065))] [] (fun fb => by kernel_rfl) rfl trivial ?_
    obtain ⟨x4084, hx4085, hf⟩ := bind_some hf
    refine WL.cutW (T := Bool) 31 (fun t => [(92, (.bool t))]) (fun t w1 => (St NoS w w1 [rowR encInt A_p0_Cells c_p0_Cells p0.Cells, cel ⟨2, 0, none⟩ (.int .i64 mG)] [] ∧ x4084 = t) ∧ CellsOK [] w1) (fun K => ?_) ?_
    ·
      rcases br_some hx4085 with ⟨h4086, hx4085⟩ | ⟨h4086, hx4085⟩
      ·
        refine WL.setB 90 h4086 rfl ?_
        obtain ⟨t4087, ht4088, hx4085⟩ := bind_some hx4085
        refine WL.call (some 91) 8 #[] (fun fb => by kernel_rfl) (law01_awake_calls _ mG t4087 _ (hS4076.rd 1) ht4088) (fun v w4089 hR4090 => ?_)
        obtain ⟨rfl, hk_⟩ := hR4090
        have hS4091 := hS4076.keepN hk_
        refine ⟨trivial, ?_⟩
        refine seg 31 [] [92] [(92, (.bool t4087))] [] (fun fb => by kernel_rfl) rfl trivial ?_
        injection hx4085 with hx4085
        exact WL.to K t4087 [92] rfl ⟨⟨(hS4091.subR [0, 1]).sub [] (by decide), hx4085.symm⟩, trivial⟩
      refine WL.setB 90 h4086 rfl ?_
      refine seg 31 [] [92] [(92, (.bool false))] [] (fun fb => by kernel_rfl) rfl trivial ?_
      injection hx4085 with hx4085
      exact WL.to K false [92] rfl ⟨⟨(hS4076.subR [0, 1]).sub [] (by decide), hx4085.symm⟩, trivial⟩
    rintro y4092 w4094 ⟨⟨hS4095, hq4093⟩, hF4096⟩
    subst hq4093
    refine seg 32 [] [10] [(10, (.bool x4084))] [] (fun fb => by kernel_rfl) rfl trivial ?_
    refine WL.done rfl ?_
    refine WX.next ?_
    refine WC.ret ?_
    injection hf with hf
    subst hf
    exact WX.thenR (WX.ret_ [] (.bool x4084) [] (fun fb => by kernel_rfl) trivial ⟨_, rfl, rfl, hS4095.keep⟩)
  refine WC.condF2 (fun fb => by kernel_rfl) h3878 ?_
  refine WC.skip ?_
  refine WX.next ?_
  refine WC.seq ?_
  refine WC.seq ?_
  refine WC.regionD ([(0, ⟨g2262, 0, none⟩, (.int .i64 t2255.1.Width)), (0, ⟨g2262, 1, none⟩, (.int .i64 t2255.1.Height)), (0, ⟨g2262, 2, none⟩, (.slice A2260 t2255.1.Cells.length c2261)), (2, ⟨g1, 0, none⟩, (.int .i64 p0.Width)), (2, ⟨g1, 1, none⟩, (.int .i64 p0.Height)), (2, ⟨g1, 2, none⟩, (.slice A_p0_Cells p0.Cells.length c_p0_Cells)), (7, ⟨g2749, 0, none⟩, (.int .i64 t2742.1.Width)), (7, ⟨g2749, 1, none⟩, (.int .i64 t2742.1.Height)), (7, ⟨g2749, 2, none⟩, (.slice A2747 t2742.1.Cells.length c2748)), (9, ⟨g1, 0, none⟩, (.int .i64 p0.Width)), (9, ⟨g1, 1, none⟩, (.int .i64 p0.Height)), (9, ⟨g1, 2, none⟩, (.slice A_p0_Cells p0.Cells.length c_p0_Cells)), (15, ⟨g3234, 0, none⟩, (.int .i64 t3227.1.Width)), (15, ⟨g3234, 1, none⟩, (.int .i64 t3227.1.Height)), (15, ⟨g3234, 2, none⟩, (.slice A3232 t3227.1.Cells.length c3233)), (17, ⟨g1, 0, none⟩, (.int .i64 p0.Width)), (17, ⟨g1, 1, none⟩, (.int .i64 p0.Height)), (17, ⟨g1, 2, none⟩, (.slice A_p0_Cells p0.Cells.length c_p0_Cells))], [0, 1, 2, 5, 6, 7, 8, 9, 12, 13, 14, 15, 16, 17, 20, 21], [[], [], [], [2], [0, 1, 2, 3], [0, 1, 2, 3, 4], [0, 1, 2, 3, 4, 5], [0, 1, 2, 3, 4, 5, 6], [0, 1, 2, 3, 4, 5, 6], [0, 1, 2, 3, 4, 5, 6], [0, 1, 2, 3, 4, 5, 6, 9], [0, 1, 2, 3, 4, 5, 6, 7, 8, 9, 10], [0, 1, 2, 3, 4, 5, 6, 7, 8, 9, 10, 11], [0, 1, 2, 3, 4, 5, 6, 7, 8, 9, 10, 11, 12], [0, 1, 2, 3, 4, 5, 6, 7, 8, 9, 10, 11, 12, 13], [0, 1, 2, 3, 4, 5, 6, 7, 8, 9, 10, 11, 12, 13, 14], [0, 1, 2, 3, 4, 5, 6, 7, 8, 9, 10, 11, 12, 13, 14], [0, 1, 2, 3, 4, 5, 6, 7, 8, 9, 10, 11, 12, 13, 14], [0, 1, 2, 3, 4, 5, 6, 7, 8, 9, 10, 11, 12, 13, 14, 17], [0, 1, 2, 3, 4, 5, 6, 7, 8, 9, 10, 11, 12, 13, 14, 15, 16, 17, 18], [0, 1, 2, 3, 4, 5, 6, 7, 8, 9, 10, 11, 12, 13, 14, 15, 16, 17, 18, 19], [0, 1, 2, 3, 4, 5, 6, 7, 8, 9, 10, 11, 12, 13, 14, 15, 16, 17, 18, 19, 20]]) [[0, 1, 2, 3, 4, 5, 6, 7, 8, 9, 10, 11, 12, 13, 14, 15, 16, 17, 18, 19, 20, 21]] (by kernel_rfl) (by kernel_rfl) (NoPanic.seq (NoPanic.seq (NoPanic.body))) ?_
  have hS5088 := hS3877.drew
  revert hS5088
  generalize World.drew w3875 = w5087
  intro hS5088
  refine ⟨⟨hS5088.cell 9 rfl 0 rfl, hS5088.cell 9 rfl 1 rfl, hS5088.cell 9 rfl 2 rfl, hS5088.cell 11 rfl 0 rfl, hS5088.cell 11 rfl 1 rfl, hS5088.cell 11 rfl 2 rfl, hS5088.cell 7 rfl 0 rfl, hS5088.cell 7 rfl 1 rfl, hS5088.cell 7 rfl 2 rfl, hS5088.cell 11 rfl 0 rfl, hS5088.cell 11 rfl 1 rfl, hS5088.cell 11 rfl 2 rfl, hS5088.cell 5 rfl 0 rfl, hS5088.cell 5 rfl 1 rfl, hS5088.cell 5 rfl 2 rfl, hS5088.cell 11 rfl 0 rfl, hS5088.cell 11 rfl 1 rfl, hS5088.cell 11 rfl 2 rfl, trivial⟩, forallC ?_ (forallN)⟩
  refine segF 3 [.v (.int .i64 t2255.1.Width), .v (.int .i64 t2255.1.Height), .v (.slice A2260 t2255.1.Cells.length c2261), .v (.int .i64 p0.Width), .v (.int .i64 p0.Height), .v (.slice A_p0_Cells p0.Cells.length c_p0_Cells)] [1, 2, 3, 4, 5, 13, 14, 15, 16, 17, 18, 19, 20, 21, 93, 94, 95] [(1, (.int .i64 p1)), (2, (.int .i64 p2)), (3, (.int .i64 p3)), (4, (.int .i64 p4)), (5, (.pointer (some ⟨g1, 0, none⟩))), (13, (.pointer (some ⟨g2749, 0, none⟩))), (14, (.int .i64 t2742.2)), (15, (.pointer (some ⟨g3234, 0, none⟩))), (16, (.int .i64 t3227.2)), (17, (.pointer (some ⟨g3378, 0, none⟩))), (18, (.int .i64 t3371.2)), (19, (.pointer (some ⟨g3847, 0, none⟩))), (20, (.int .i64 t3840.2)), (21, (.pointer (some ⟨g3853, 0, none⟩))), (93, (.agg #[(.int .i64 t2255.1.Width), (.int .i64 t2255.1.Height), (.slice A2260 t2255.1.Cells.length c2261)])), (94, (.int .i64 t2255.2)), (95, (.agg #[(.int .i64 p0.Width), (.int .i64 p0.Height), (.slice A_p0_Cells p0.Cells.length c_p0_Cells)]))] [] [0, 1, 2, 3, 4, 5] [(0, ⟨g2262, 0, none⟩, (.int .i64 t2255.1.Width)), (0, ⟨g2262, 1, none⟩, (.int .i64 t2255.1.Height)), (0, ⟨g2262, 2, none⟩, (.slice A2260 t2255.1.Cells.length c2261)), (2, ⟨g1, 0, none⟩, (.int .i64 p0.Width)), (2, ⟨g1, 1, none⟩, (.int .i64 p0.Height)), (2, ⟨g1, 2, none⟩, (.slice A_p0_Cells p0.Cells.length c_p0_Cells))] (fun fb => by kernel_rfl) rfl trivial rfl ?_
  obtain ⟨t5089, ht5090, hf⟩ := bind_some hf
  refine WL.call (some 96) 35 #[(.agg #[(.int .i64 p0.Width), (.int .i64 p0.Height), (.slice A_p0_Cells p0.Cells.length c_p0_Cells)])] (fun fb => by kernel_rfl) (ref01_MirrorPattern_calls _ p0 A_p0_Cells c_p0_Cells t5089 _ (hS5088.rd 0) ht5090) (fun v w5091 hR5092 => ?_)
  obtain ⟨A5094, c5095, rfl, hk_⟩ := hR5092
  have hS5093 : St NoS w w5091 [rowR encInt A_p0_Cells c_p0_Cells p0.Cells, cel ⟨2, 0, none⟩ (.int .i64 mG)] [rowO 3 encInt A5094 c5095 t5089.Cells, blk g3853 (.cells #[(.int .i64 0), (.int .i64 0), (.slice none 0 0)] 35 (0, 0)), blk g3847 (.cells #[(.int .i64 t3840.1.Width), (.int .i64 t3840.1.Height), (.slice A3845 t3840.1.Cells.length c3846)] 35 (0, 0)), rowO 3 encInt A3845 c3846 t3840.1.Cells, blk g3378 (.cells #[(.int .i64 t3371.1.Width), (.int .i64 t3371.1.Height), (.slice A3376 t3371.1.Cells.length c3377)] 35 (0, 0)), rowO 3 encInt A3376 c3377 t3371.1.Cells, blk g3234 (.cells #[(.int .i64 t3227.1.Width), (.int .i64 t3227.1.Height), (.slice A3232 t3227.1.Cells.length c3233)] 35 (0, 0)), rowO 3 encInt A3232 c3233 t3227.1.Cells, blk g2749 (.cells #[(.int .i64 t2742.1.Width), (.int .i64 t2742.1.Height), (.slice A2747 t2742.1.Cells.length c2748)] 35 (0, 0)), rowO 3 encInt A2747 c2748 t2742.1.Cells, blk g2262 (.cells #[(.int .i64 t2255.1.Width), (.int .i64 t2255.1.Height), (.slice A2260 t2255.1.Cells.length c2261)] 35 (0, 0)), rowO 3 encInt A2260 c2261 t2255.1.Cells, blk g1 (.cells #[(.int .i64 p0.Width), (.int .i64 p0.Height), (.slice A_p0_Cells p0.Cells.length c_p0_Cells)] 35 (0, 0))] := hS5088.call hk_ [] [0, 1, 2, 3, 4, 5, 6, 7, 8, 9, 10, 11] (fun g hg => hg.elim) (by simp) (by decide)
  refine ⟨⟨hS5093.cell 10 rfl 0 rfl, hS5093.cell 10 rfl 1 rfl, hS5093.cell 10 rfl 2 rfl, hS5093.cell 8 rfl 0 rfl, hS5093.cell 8 rfl 1 rfl, hS5093.cell 8 rfl 2 rfl, hS5093.cell 12 rfl 0 rfl, hS5093.cell 12 rfl 1 rfl, hS5093.cell 12 rfl 2 rfl, hS5093.cell 6 rfl 0 rfl, hS5093.cell 6 rfl 1 rfl, hS5093.cell 6 rfl 2 rfl, hS5093.cell 12 rfl 0 rfl, hS5093.cell 12 rfl 1 rfl, hS5093.cell 12 rfl 2 rfl, trivial⟩, ?_⟩
  obtain ⟨t5096, ht5097, hf⟩ := bind_some hf
  refine WL.call (some 97) 34 #[(.agg #[(.int .i64 t2255.1.Width), (.int .i64 t2255.1.Height), (.slice A2260 t2255.1.Cells.length c2261)]), (.int .i64 t2255.2), (.agg #[(.int .i64 t5089.Width), (.int .i64 t5089.Height), (.slice A5094 t5089.Cells.length c5095)]), (.int .i64 0)] (fun fb => by kernel_rfl) (law01_is_calls _ t2255.1 t2255.2 t5089 0 A2260 c2261 A5094 c5095 t5096 _ (hS5093.ow 11).ofO (hS5093.ow 0).ofO ht5097) (fun v w5098 hR5099 => ?_)
  obtain ⟨rfl, hk_⟩ := hR5099
  have hS5100 := hS5093.keepN hk_
  refine ⟨⟨hS5100.cell 8 rfl 0 rfl, hS5100.cell 8 rfl 1 rfl, hS5100.cell 8 rfl 2 rfl, hS5100.cell 12 rfl 0 rfl, hS5100.cell 12 rfl 1 rfl, hS5100.cell 12 rfl 2 rfl, hS5100.cell 6 rfl 0 rfl, hS5100.cell 6 rfl 1 rfl, hS5100.cell 6 rfl 2 rfl, hS5100.cell 12 rfl 0 rfl, hS5100.cell 12 rfl 1 rfl, hS5100.cell 12 rfl 2 rfl, trivial⟩, ?_⟩
  refine seg 7 [] [1, 2, 3, 4, 5, 13, 14, 15, 16, 17, 18, 19, 20, 21, 99] [(1, (.int .i64 p1)), (2, (.int .i64 p2)), (3, (.int .i64 p3)), (4, (.int .i64 p4)), (5, (.pointer (some ⟨g1, 0, none⟩))), (13, (.pointer (some ⟨g2749, 0, none⟩))), (14, (.int .i64 t2742.2)), (15, (.pointer (some ⟨g3234, 0, none⟩))), (16, (.int .i64 t3227.2)), (17, (.pointer (some ⟨g3378, 0, none⟩))), (18, (.int .i64 t3371.2)), (19, (.pointer (some ⟨g3847, 0, none⟩))), (20, (.int .i64 t3840.2)), (21, (.pointer (some ⟨g3853, 0, none⟩))), (99, (.bool (!t5096)))] [] (fun fb => by kernel_rfl) rfl trivial ?_
  obtain ⟨x5114, hx5115, hf⟩ := bind_some hf
  refine WL.cutW (T := Bool) 14 (fun t => [(1, (.int .i64 p1)), (2, (.int .i64 p2)), (3, (.int .i64 p3)), (4, (.int .i64 p4)), (5, (.pointer (some ⟨g1, 0, none⟩))), (15, (.pointer (some ⟨g3234, 0, none⟩))), (16, (.int .i64 t3227.2)), (17, (.pointer (some ⟨g3378, 0, none⟩))), (18, (.int .i64 t3371.2)), (19, (.pointer (some ⟨g3847, 0, none⟩))), (20, (.int .i64 t3840.2)), (21, (.pointer (some ⟨g3853, 0, none⟩))), (106, (.bool t))]) (fun t w1 => (St NoS w w1 [rowR encInt A_p0_Cells c_p0_Cells p0.Cells, cel ⟨2, 0, none⟩ (.int .i64 mG)] [blk g1 (.cells #[(.int .i64 p0.Width), (.int .i64 p0.Height), (.slice A_p0_Cells p0.Cells.length c_p0_Cells)] 35 (0, 0)), blk g3234 (.cells #[(.int .i64 t3227.1.Width), (.int .i64 t3227.1.Height), (.slice A3232 t3227.1.Cells.length c3233)] 35 (0, 0)), rowO 3 encInt A3232 c3233 t3227.1.Cells, blk g3378 (.cells #[(.int .i64 t3371.1.Width), (.int .i64 t3371.1.Height), (.slice A3376 t3371.1.Cells.length c3377)] 35 (0, 0)), rowO 3 encInt A3376 c3377 t3371.1.Cells, blk g3847 (.cells #[(.int .i64 t3840.1.Width), (.int .i64 t3840.1.Height), (.slice A3845 t3840.1.Cells.length c3846)] 35 (0, 0)), rowO 3 encInt A3845 c3846 t3840.1.Cells, blk g3853 (.cells #[(.int .i64 0), (.int .i64 0), (.slice none 0 0)] 35 (0, 0))] ∧ x5114 = t) ∧ CellsOK [] w1) (fun K => ?_) ?_
  ·
    rcases br_some hx5115 with ⟨h5116, hx5115⟩ | ⟨h5116, hx5115⟩
    ·
      refine WL.setB 99 h5116 rfl ?_
      refine seg 14 [] [1, 2, 3, 4, 5, 15, 16, 17, 18, 19, 20, 21, 106] [(1, (.int .i64 p1)), (2, (.int .i64 p2)), (3, (.int .i64 p3)), (4, (.int .i64 p4)), (5, (.pointer (some ⟨g1, 0, none⟩))), (15, (.pointer (some ⟨g3234, 0, none⟩))), (16, (.int .i64 t3227.2)), (17, (.pointer (some ⟨g3378, 0, none⟩))), (18, (.int .i64 t3371.2)), (19, (.pointer (some ⟨g3847, 0, none⟩))), (20, (.int .i64 t3840.2)), (21, (.pointer (some ⟨g3853, 0, none⟩))), (106, (.bool true))] [] (fun fb => by kernel_rfl) rfl trivial ?_
      injection hx5115 with hx5115
      exact WL.to K true [1, 2, 3, 4, 5, 15, 16, 17, 18, 19, 20, 21, 106] rfl ⟨⟨(hS5100.subR [0, 1]).sub [12, 6, 7, 4, 5, 2, 3, 1] (by decide), hx5115.symm⟩, trivial⟩
    refine WL.setB 99 h5116 rfl ?_
    refine segF 10 [.v (.int .i64 t2742.1.Width), .v (.int .i64 t2742.1.Height), .v (.slice A2747 t2742.1.Cells.length c2748), .v (.int .i64 p0.Width), .v (.int .i64 p0.Height), .v (.slice A_p0_Cells p0.Cells.length c_p0_Cells)] [1, 2, 3, 4, 5, 15, 16, 17, 18, 19, 20, 21, 99, 100, 101, 102] [(1, (.int .i64 p1)), (2, (.int .i64 p2)), (3, (.int .i64 p3)), (4, (.int .i64 p4)), (5, (.pointer (some ⟨g1, 0, none⟩))), (15, (.pointer (some ⟨g3234, 0, none⟩))), (16, (.int .i64 t3227.2)), (17, (.pointer (some ⟨g3378, 0, none⟩))), (18, (.int .i64 t3371.2)), (19, (.pointer (some ⟨g3847, 0, none⟩))), (20, (.int .i64 t3840.2)), (21, (.pointer (some ⟨g3853, 0, none⟩))), (99, (.bool false)), (100, (.agg #[(.int .i64 t2742.1.Width), (.int .i64 t2742.1.Height), (.slice A2747 t2742.1.Cells.length c2748)])), (101, (.int .i64 t2742.2)), (102, (.agg #[(.int .i64 p0.Width), (.int .i64 p0.Height), (.slice A_p0_Cells p0.Cells.length c_p0_Cells)]))] [] [6, 7, 8, 9, 10, 11] [(7, ⟨g2749, 0, none⟩, (.int .i64 t2742.1.Width)), (7, ⟨g2749, 1, none⟩, (.int .i64 t2742.1.Height)), (7, ⟨g2749, 2, none⟩, (.slice A2747 t2742.1.Cells.length c2748)), (9, ⟨g1, 0, none⟩, (.int .i64 p0.Width)), (9, ⟨g1, 1, none⟩, (.int .i64 p0.Height)), (9, ⟨g1, 2, none⟩, (.slice A_p0_Cells p0.Cells.length c_p0_Cells))] (fun fb => by kernel_rfl) rfl trivial rfl ?_
    obtain ⟨t5117, ht5118, hx5115⟩ := bind_some hx5115
    refine WL.call (some 103) 36 #[(.agg #[(.int .i64 p0.Width), (.int .i64 p0.Height), (.slice A_p0_Cells p0.Cells.length c_p0_Cells)])] (fun fb => by kernel_rfl) (ref01_UpturnPattern_calls _ p0 A_p0_Cells c_p0_Cells t5117 _ (hS5100.rd 0) ht5118) (fun v w5119 hR5120 => ?_)
    obtain ⟨A5122, c5123, rfl, hk_⟩ := hR5120
    have hS5121 : St NoS w w5119 [rowR encInt A_p0_Cells c_p0_Cells p0.Cells, cel ⟨2, 0, none⟩ (.int .i64 mG)] [rowO 3 encInt A5122 c5123 t5117.Cells, rowO 3 encInt A5094 c5095 t5089.Cells, blk g3853 (.cells #[(.int .i64 0), (.int .i64 0), (.slice none 0 0)] 35 (0, 0)), blk g3847 (.cells #[(.int .i64 t3840.1.Width), (.int .i64 t3840.1.Height), (.slice A3845 t3840.1.Cells.length c3846)] 35 (0, 0)), rowO 3 encInt A3845 c3846 t3840.1.Cells, blk g3378 (.cells #[(.int .i64 t3371.1.Width), (.int .i64 t3371.1.Height), (.slice A3376 t3371.1.Cells.length c3377)] 35 (0, 0)), rowO 3 encInt A3376 c3377 t3371.1.Cells, blk g3234 (.cells #[(.int .i64 t3227.1.Width), (.int .i64 t3227.1.Height), (.slice A3232 t3227.1.Cells.length c3233)] 35 (0, 0)), rowO 3 encInt A3232 c3233 t3227.1.Cells, blk g2749 (.cells #[(.int .i64 t2742.1.Width), (.int .i64 t2742.1.Height), (.slice A2747 t2742.1.Cells.length c2748)] 35 (0, 0)), rowO 3 encInt A2747 c2748 t2742.1.Cells, blk g2262 (.cells #[(.int .i64 t2255.1.Width), (.int .i64 t2255.1.Height), (.slice A2260 t2255.1.Cells.length c2261)] 35 (0, 0)), rowO 3 encInt A2260 c2261 t2255.1.Cells, blk g1 (.cells #[(.int .i64 p0.Width), (.int .i64 p0.Height), (.slice A_p0_Cells p0.Cells.length c_p0_Cells)] 35 (0, 0))] := hS5100.call hk_ [] [0, 1, 2, 3, 4, 5, 6, 7, 8, 9, 10, 11, 12] (fun g hg => hg.elim) (by simp) (by decide)
    refine ⟨⟨hS5121.cell 9 rfl 0 rfl, hS5121.cell 9 rfl 1 rfl, hS5121.cell 9 rfl 2 rfl, hS5121.cell 7 rfl 0 rfl, hS5121.cell 7 rfl 1 rfl, hS5121.cell 7 rfl 2 rfl, hS5121.cell 13 rfl 0 rfl, hS5121.cell 13 rfl 1 rfl, hS5121.cell 13 rfl 2 rfl, trivial⟩, ?_⟩
    obtain ⟨t5124, ht5125, hx5115⟩ := bind_some hx5115
    refine WL.call (some 104) 34 #[(.agg #[(.int .i64 t2742.1.Width), (.int .i64 t2742.1.Height), (.slice A2747 t2742.1.Cells.length c2748)]), (.int .i64 t2742.2), (.agg #[(.int .i64 t5117.Width), (.int .i64 t5117.Height), (.slice A5122 t5117.Cells.length c5123)]), (.int .i64 0)] (fun fb => by kernel_rfl) (law01_is_calls _ t2742.1 t2742.2 t5117 0 A2747 c2748 A5122 c5123 t5124 _ (hS5121.ow 10).ofO (hS5121.ow 0).ofO ht5125) (fun v w5126 hR5127 => ?_)
    obtain ⟨rfl, hk_⟩ := hR5127
    have hS5128 := hS5121.keepN hk_
    refine ⟨⟨hS5128.cell 7 rfl 0 rfl, hS5128.cell 7 rfl 1 rfl, hS5128.cell 7 rfl 2 rfl, hS5128.cell 13 rfl 0 rfl, hS5128.cell 13 rfl 1 rfl, hS5128.cell 13 rfl 2 rfl, trivial⟩, ?_⟩
    refine seg 14 [] [1, 2, 3, 4, 5, 15, 16, 17, 18, 19, 20, 21, 106] [(1, (.int .i64 p1)), (2, (.int .i64 p2)), (3, (.int .i64 p3)), (4, (.int .i64 p4)), (5, (.pointer (some ⟨g1, 0, none⟩))), (15, (.pointer (some ⟨g3234, 0, none⟩))), (16, (.int .i64 t3227.2)), (17, (.pointer (some ⟨g3378, 0, none⟩))), (18, (.int .i64 t3371.2)), (19, (.pointer (some ⟨g3847, 0, none⟩))), (20, (.int .i64 t3840.2)), (21, (.pointer (some ⟨g3853, 0, none⟩))), (106, (.bool (!t5124)))] [] (fun fb => by kernel_rfl) rfl trivial ?_
    injection hx5115 with hx5115
    exact WL.to K (!t5124) [1, 2, 3, 4, 5, 15, 16, 17, 18, 19, 20, 21, 106] rfl ⟨⟨(hS5128.subR [0, 1]).sub [13, 7, 8, 5, 6, 3, 4, 2] (by decide), hx5115.symm⟩, trivial⟩
  rintro y5129 w5131 ⟨⟨hS5132, hq5130⟩, hF5133⟩
  subst hq5130
  refine seg 15 [] [1, 2, 3, 4, 5, 15, 16, 17, 18, 19, 20, 21, 107] [(1, (.int .i64 p1)), (2, (.int .i64 p2)), (3, (.int .i64 p3)), (4, (.int .i64 p4)), (5, (.pointer (some ⟨g1, 0, none⟩))), (15, (.pointer (some ⟨g3234, 0, none⟩))), (16, (.int .i64 t3227.2)), (17, (.pointer (some ⟨g3378, 0, none⟩))), (18, (.int .i64 t3371.2)), (19, (.pointer (some ⟨g3847, 0, none⟩))), (20, (.int .i64 t3840.2)), (21, (.pointer (some ⟨g3853, 0, none⟩))), (107, (.bool x5114))] [] (fun fb => by kernel_rfl) rfl trivial ?_
  obtain ⟨x5147, hx5148, hf⟩ := bind_some hf
  refine WL.cutW (T := Bool) 22 (fun t => [(1, (.int .i64 p1)), (2, (.int .i64 p2)), (3, (.int .i64 p3)), (4, (.int .i64 p4)), (5, (.pointer (some ⟨g1, 0, none⟩))), (17, (.pointer (some ⟨g3378, 0, none⟩))), (18, (.int .i64 t3371.2)), (19, (.pointer (some ⟨g3847, 0, none⟩))), (20, (.int .i64 t3840.2)), (21, (.pointer (some ⟨g3853, 0, none⟩))), (114, (.bool t))]) (fun t w1 => (St NoS w w1 [rowR encInt A_p0_Cells c_p0_Cells p0.Cells, cel ⟨2, 0, none⟩ (.int .i64 mG)] [blk g1 (.cells #[(.int .i64 p0.Width), (.int .i64 p0.Height), (.slice A_p0_Cells p0.Cells.length c_p0_Cells)] 35 (0, 0)), blk g3378 (.cells #[(.int .i64 t3371.1.Width), (.int .i64 t3371.1.Height), (.slice A3376 t3371.1.Cells.length c3377)] 35 (0, 0)), rowO 3 encInt A3376 c3377 t3371.1.Cells, blk g3847 (.cells #[(.int .i64 t3840.1.Width), (.int .i64 t3840.1.Height), (.slice A3845 t3840.1.Cells.length c3846)] 35 (0, 0)), rowO 3 encInt A3845 c3846 t3840.1.Cells, blk g3853 (.cells #[(.int .i64 0), (.int .i64 0), (.slice none 0 0)] 35 (0, 0))] ∧ x5147 = t) ∧ CellsOK [] w1) (fun K => ?_) ?_
  ·
    rcases br_some hx5148 with ⟨h5149, hx5148⟩ | ⟨h5149, hx5148⟩
    ·
      refine WL.setB 107 h5149 rfl ?_
      refine seg 22 [] [1, 2, 3, 4, 5, 17, 18, 19, 20, 21, 114] [(1, (.int .i64 p1)), (2, (.int .i64 p2)), (3, (.int .i64 p3)), (4, (.int .i64 p4)), (5, (.pointer (some ⟨g1, 0, none⟩))), (17, (.pointer (some ⟨g3378, 0, none⟩))), (18, (.int .i64 t3371.2)), (19, (.pointer (some ⟨g3847, 0, none⟩))), (20, (.int .i64 t3840.2)), (21, (.pointer (some ⟨g3853, 0, none⟩))), (114, (.bool true))] [] (fun fb => by kernel_rfl) rfl trivial ?_
      injection hx5148 with hx5148
      exact WL.to K true [1, 2, 3, 4, 5, 17, 18, 19, 20, 21, 114] rfl ⟨⟨(hS5132.subR [0, 1]).sub [0, 3, 4, 5, 6, 7] (by decide), hx5148.symm⟩, trivial⟩
    refine WL.setB 107 h5149 rfl ?_
    refine segF 18 [.v (.int .i64 t3227.1.Width), .v (.int .i64 t3227.1.Height), .v (.slice A3232 t3227.1.Cells.length c3233), .v (.int .i64 p0.Width), .v (.int .i64 p0.Height), .v (.slice A_p0_Cells p0.Cells.length c_p0_Cells)] [1, 2, 3, 4, 5, 17, 18, 19, 20, 21, 107, 108, 109, 110] [(1, (.int .i64 p1)), (2, (.int .i64 p2)), (3, (.int .i64 p3)), (4, (.int .i64 p4)), (5, (.pointer (some ⟨g1, 0, none⟩))), (17, (.pointer (some ⟨g3378, 0, none⟩))), (18, (.int .i64 t3371.2)), (19, (.pointer (some ⟨g3847, 0, none⟩))), (20, (.int .i64 t3840.2)), (21, (.pointer (some ⟨g3853, 0, none⟩))), (107, (.bool false)), (108, (.agg #[(.int .i64 t3227.1.Width), (.int .i64 t3227.1.Height), (.slice A3232 t3227.1.Cells.length c3233)])), (109, (.int .i64 t3227.2)), (110, (.agg #[(.int .i64 p0.Width), (.int .i64 p0.Height), (.slice A_p0_Cells p0.Cells.length c_p0_Cells)]))] [] [12, 13, 14, 15, 16, 17] [(15, ⟨g3234, 0, none⟩, (.int .i64 t3227.1.Width)), (15, ⟨g3234, 1, none⟩, (.int .i64 t3227.1.Height)), (15, ⟨g3234, 2, none⟩, (.slice A3232 t3227.1.Cells.length c3233)), (17, ⟨g1, 0, none⟩, (.int .i64 p0.Width)), (17, ⟨g1, 1, none⟩, (.int .i64 p0.Height)), (17, ⟨g1, 2, none⟩, (.slice A_p0_Cells p0.Cells.length c_p0_Cells))] (fun fb => by kernel_rfl) rfl trivial rfl ?_
    obtain ⟨t5150, ht5151, hx5148⟩ := bind_some hx5148
    refine WL.call (some 111) 37 #[(.agg #[(.int .i64 p0.Width), (.int .i64 p0.Height), (.slice A_p0_Cells p0.Cells.length c_p0_Cells)])] (fun fb => by kernel_rfl) (ref01_TurnPattern_calls _ p0 A_p0_Cells c_p0_Cells t5150 _ (hS5132.rd 0) ht5151) (fun v w5152 hR5153 => ?_)
    obtain ⟨A5155, c5156, rfl, hk_⟩ := hR5153
    have hS5154 : St NoS w w5152 [rowR encInt A_p0_Cells c_p0_Cells p0.Cells, cel ⟨2, 0, none⟩ (.int .i64 mG)] [rowO 3 encInt A5155 c5156 t5150.Cells, blk g1 (.cells #[(.int .i64 p0.Width), (.int .i64 p0.Height), (.slice A_p0_Cells p0.Cells.length c_p0_Cells)] 35 (0, 0)), blk g3234 (.cells #[(.int .i64 t3227.1.Width), (.int .i64 t3227.1.Height), (.slice A3232 t3227.1.Cells.length c3233)] 35 (0, 0)), rowO 3 encInt A3232 c3233 t3227.1.Cells, blk g3378 (.cells #[(.int .i64 t3371.1.Width), (.int .i64 t3371.1.Height), (.slice A3376 t3371.1.Cells.length c3377)] 35 (0, 0)), rowO 3 encInt A3376 c3377 t3371.1.Cells, blk g3847 (.cells #[(.int .i64 t3840.1.Width), (.int .i64 t3840.1.Height), (.slice A3845 t3840.1.Cells.length c3846)] 35 (0, 0)), rowO 3 encInt A3845 c3846 t3840.1.Cells, blk g3853 (.cells #[(.int .i64 0), (.int .i64 0), (.slice none 0 0)] 35 (0, 0))] := hS5132.call hk_ [] [0, 1, 2, 3, 4, 5, 6, 7] (fun g hg => hg.elim) (by simp) (by decide)
    refine ⟨⟨hS5154.cell 2 rfl 0 rfl, hS5154.cell 2 rfl 1 rfl, hS5154.cell 2 rfl 2 rfl, trivial⟩, ?_⟩
    obtain ⟨t5157, ht5158, hx5148⟩ := bind_some hx5148
    refine WL.call (some 112) 34 #[(.agg #[(.int .i64 t3227.1.Width), (.int .i64 t3227.1.Height), (.slice A3232 t3227.1.Cells.length c3233)]), (.int .i64 t3227.2), (.agg #[(.int .i64 t5150.Width), (.int .i64 t5150.Height), (.slice A5155 t5150.Cells.length c5156)]), (.int .i64 0)] (fun fb => by kernel_rfl) (law01_is_calls _ t3227.1 t3227.2 t5150 0 A3232 c3233 A5155 c5156 t5157 _ (hS5154.ow 3).ofO (hS5154.ow 0).ofO ht5158) (fun v w5159 hR5160 => ?_)
    obtain ⟨rfl, hk_⟩ := hR5160
    have hS5161 := hS5154.keepN hk_
    refine ⟨trivial, ?_⟩
    refine seg 22 [] [1, 2, 3, 4, 5, 17, 18, 19, 20, 21, 114] [(1, (.int .i64 p1)), (2, (.int .i64 p2)), (3, (.int .i64 p3)), (4, (.int .i64 p4)), (5, (.pointer (some ⟨g1, 0, none⟩))), (17, (.pointer (some ⟨g3378, 0, none⟩))), (18, (.int .i64 t3371.2)), (19, (.pointer (some ⟨g3847, 0, none⟩))), (20, (.int .i64 t3840.2)), (21, (.pointer (some ⟨g3853, 0, none⟩))), (114, (.bool (!t5157)))] [] (fun fb => by kernel_rfl) rfl trivial ?_
    injection hx5148 with hx5148
    exact WL.to K (!t5157) [1, 2, 3, 4, 5, 17, 18, 19, 20, 21, 114] rfl ⟨⟨(hS5161.subR [0, 1]).sub [1, 4, 5, 6, 7, 8] (by decide), hx5148.symm⟩, trivial⟩
  rintro y5162 w5164 ⟨⟨hS5165, hq5163⟩, hF5166⟩
  subst hq5163
  refine WL.done rfl ?_
  refine WX.next ?_
  rcases br_some hf with ⟨h5167, hf⟩ | ⟨h5167, hf⟩
  · refine WC.condT2 (fun fb => by kernel_rfl) h5167 ?_
    refine WC.seq ?_
    refine WC.region ?_
    refine seg 1 [] [10] [(10, (.bool false))] [] (fun fb => by kernel_rfl) rfl trivial ?_
    refine WL.done rfl ?_
    refine WX.next ?_
    refine WC.ret ?_
    injection hf with hf
    subst hf
    exact WX.thenR (WX.ret_ [] (.bool false) [] (fun fb => by kernel_rfl) trivial ⟨_, rfl, rfl, hS5165.keep⟩)
  refine WC.condF2 (fun fb => by kernel_rfl) h5167 ?_
  refine WC.skip ?_
  refine WX.next ?_
  refine WC.seq ?_
  refine WC.seq ?_
  refine WC.region ?_
  refine seg 3 [] [1, 2, 3, 4, 5, 17, 18, 19, 20, 21, 117] [(1, (.int .i64 p1)), (2, (.int .i64 p2)), (3, (.int .i64 p3)), (4, (.int .i64 p4)), (5, (.pointer (some ⟨g1, 0, none⟩))), (17, (.pointer (some ⟨g3378, 0, none⟩))), (18, (.int .i64 t3371.2)), (19, (.pointer (some ⟨g3847, 0, none⟩))), (20, (.int .i64 t3840.2)), (21, (.pointer (some ⟨g3853, 0, none⟩))), (117, (.bool (decide (p1 < 0))))] [] (fun fb => by kernel_rfl) rfl trivial ?_
  refine WL.cutV (T := Bool) 6 (fun t => [(120, (.bool t)), (1, (.int .i64 p1)), (2, (.int .i64 p2)), (3, (.int .i64 p3)), (4, (.int .i64 p4)), (5, (.pointer (some ⟨g1, 0, none⟩))), (17, (.pointer (some ⟨g3378, 0, none⟩))), (18, (.int .i64 t3371.2)), (19, (.pointer (some ⟨g3847, 0, none⟩))), (20, (.int .i64 t3840.2)), (21, (.pointer (some ⟨g3853, 0, none⟩)))]) (fun t => t = ((decide (p1 < 0)) || (decide (p2 < 0)))) (fun K => ?_) ?_
  ·
    rcases Bool.eq_false_or_eq_true (decide (p1 < 0)) with h5168 | h5168
    ·
      refine WL.setB 117 h5168 rfl ?_
      refine seg 6 [] [1, 2, 3, 4, 5, 17, 18, 19, 20, 21, 120] [(1, (.int .i64 p1)), (2, (.int .i64 p2)), (3, (.int .i64 p3)), (4, (.int .i64 p4)), (5, (.pointer (some ⟨g1, 0, none⟩))), (17, (.pointer (some ⟨g3378, 0, none⟩))), (18, (.int .i64 t3371.2)), (19, (.pointer (some ⟨g3847, 0, none⟩))), (20, (.int .i64 t3840.2)), (21, (.pointer (some ⟨g3853, 0, none⟩))), (120, (.bool true))] [] (fun fb => by kernel_rfl) rfl trivial ?_
      exact WL.toV K true [120, 1, 2, 3, 4, 5, 17, 18, 19, 20, 21] rfl (by first | (rw [h5168]; done) | (rw [h5168]; rfl))
    refine WL.setB 117 h5168 rfl ?_
    refine seg 6 [] [1, 2, 3, 4, 5, 17, 18, 19, 20, 21, 120] [(1, (.int .i64 p1)), (2, (.int .i64 p2)), (3, (.int .i64 p3)), (4, (.int .i64 p4)), (5, (.pointer (some ⟨g1, 0, none⟩))), (17, (.pointer (some ⟨g3378, 0, none⟩))), (18, (.int .i64 t3371.2)), (19, (.pointer (some ⟨g3847, 0, none⟩))), (20, (.int .i64 t3840.2)), (21, (.pointer (some ⟨g3853, 0, none⟩))), (120, (.bool (decide (p2 < 0))))] [] (fun fb => by kernel_rfl) rfl trivial ?_
    exact WL.toV K (decide (p2 < 0)) [120, 1, 2, 3, 4, 5, 17, 18, 19, 20, 21] rfl (by first | (rw [h5168]; done) | (rw [h5168]; rfl))
  rintro b5169 rfl
  refine seg 7 [] [1, 2, 3, 4, 5, 17, 18, 19, 20, 21, 121] [(1, (.int .i64 p1)), (2, (.int .i64 p2)), (3, (.int .i64 p3)), (4, (.int .i64 p4)), (5, (.pointer (some ⟨g1, 0, none⟩))), (17, (.pointer (some ⟨g3378, 0, none⟩))), (18, (.int .i64 t3371.2)), (19, (.pointer (some ⟨g3847, 0, none⟩))), (20, (.int .i64 t3840.2)), (21, (.pointer (some ⟨g3853, 0, none⟩))), (121, (.bool ((decide (p1 < 0)) || (decide (p2 < 0)))))] [] (fun fb => by kernel_rfl) rfl trivial ?_
  refine WL.cutV (T := Bool) 10 (fun t => [(124, (.bool t)), (1, (.int .i64 p1)), (2, (.int .i64 p2)), (3, (.int .i64 p3)), (4, (.int .i64 p4)), (5, (.pointer (some ⟨g1, 0, none⟩))), (17, (.pointer (some ⟨g3378, 0, none⟩))), (18, (.int .i64 t3371.2)), (19, (.pointer (some ⟨g3847, 0, none⟩))), (20, (.int .i64 t3840.2)), (21, (.pointer (some ⟨g3853, 0, none⟩)))]) (fun t => t = (((decide (p1 < 0)) || (decide (p2 < 0))) || (decide (p3 < 1)))) (fun K => ?_) ?_
  ·
    rcases Bool.eq_false_or_eq_true ((decide (p1 < 0)) || (decide (p2 < 0))) with h5170 | h5170
    ·
      refine WL.setB 121 h5170 rfl ?_
      refine seg 10 [] [1, 2, 3, 4, 5, 17, 18, 19, 20, 21, 124] [(1, (.int .i64 p1)), (2, (.int .i64 p2)), (3, (.int .i64 p3)), (4, (.int .i64 p4)), (5, (.pointer (some ⟨g1, 0, none⟩))), (17, (.pointer (some ⟨g3378, 0, none⟩))), (18, (.int .i64 t3371.2)), (19, (.pointer (some ⟨g3847, 0, none⟩))), (20, (.int .i64 t3840.2)), (21, (.pointer (some ⟨g3853, 0, none⟩))), (124, (.bool true))] [] (fun fb => by kernel_rfl) rfl trivial ?_
      exact WL.toV K true [124, 1, 2, 3, 4, 5, 17, 18, 19, 20, 21] rfl (by first | (rw [h5170]; done) | (rw [h5170]; rfl))
    refine WL.setB 121 h5170 rfl ?_
    refine seg 10 [] [1, 2, 3, 4, 5, 17, 18, 19, 20, 21, 124] [(1, (.int .i64 p1)), (2, (.int .i64 p2)), (3, (.int .i64 p3)), (4, (.int .i64 p4)), (5, (.pointer (some ⟨g1, 0, none⟩))), (17, (.pointer (some ⟨g3378, 0, none⟩))), (18, (.int .i64 t3371.2)), (19, (.pointer (some ⟨g3847, 0, none⟩))), (20, (.int .i64 t3840.2)), (21, (.pointer (some ⟨g3853, 0, none⟩))), (124, (.bool (decide (p3 < 1))))] [] (fun fb => by kernel_rfl) rfl trivial ?_
    exact WL.toV K (decide (p3 < 1)) [124, 1, 2, 3, 4, 5, 17, 18, 19, 20, 21] rfl (by first | (rw [h5170]; done) | (rw [h5170]; rfl))
  rintro b5171 rfl
  refine seg 11 [] [1, 2, 3, 4, 5, 17, 18, 19, 20, 21, 125] [(1, (.int .i64 p1)), (2, (.int .i64 p2)), (3, (.int .i64 p3)), (4, (.int .i64 p4)), (5, (.pointer (some ⟨g1, 0, none⟩))), (17, (.pointer (some ⟨g3378, 0, none⟩))), (18, (.int .i64 t3371.2)), (19, (.pointer (some ⟨g3847, 0, none⟩))), (20, (.int .i64 t3840.2)), (21, (.pointer (some ⟨g3853, 0, none⟩))), (125, (.bool (((decide (p1 < 0)) || (decide (p2 < 0))) || (decide (p3 < 1)))))] [] (fun fb => by kernel_rfl) rfl trivial ?_
  refine WL.cutV (T := Bool) 14 (fun t => [(128, (.bool t)), (1, (.int .i64 p1)), (2, (.int .i64 p2)), (3, (.int .i64 p3)), (4, (.int .i64 p4)), (5, (.pointer (some ⟨g1, 0, none⟩))), (17, (.pointer (some ⟨g3378, 0, none⟩))), (18, (.int .i64 t3371.2)), (19, (.pointer (some ⟨g3847, 0, none⟩))), (20, (.int .i64 t3840.2)), (21, (.pointer (some ⟨g3853, 0, none⟩)))]) (fun t => t = ((((decide (p1 < 0)) || (decide (p2 < 0))) || (decide (p3 < 1))) || (decide (p4 < 1)))) (fun K => ?_) ?_
  ·
    rcases Bool.eq_false_or_eq_true (((decide (p1 < 0)) || (decide (p2 < 0))) || (decide (p3 < 1))) with h5172 | h5172
    ·
      refine WL.setB 125 h5172 rfl ?_
      refine seg 14 [] [1, 2, 3, 4, 5, 17, 18, 19, 20, 21, 128] [(1, (.int .i64 p1)), (2, (.int .i64 p2)), (3, (.int .i64 p3)), (4, (.int .i64 p4)), (5, (.pointer (some ⟨g1, 0, none⟩))), (17, (.pointer (some ⟨g3378, 0, none⟩))), (18, (.int .i64 t3371.2)), (19, (.pointer (some ⟨g3847, 0, none⟩))), (20, (.int .i64 t3840.2)), (21, (.pointer (some ⟨g3853, 0, none⟩))), (128, (.bool true))] [] (fun fb => by kernel_rfl) rfl trivial ?_
      exact WL.toV K true [128, 1, 2, 3, 4, 5, 17, 18, 19, 20, 21] rfl (by first | (rw [h5172]; done) | (rw [h5172]; rfl))
    refine WL.setB 125 h5172 rfl ?_
    refine seg 14 [] [1, 2, 3, 4, 5, 17, 18, 19, 20, 21, 128] [(1, (.int .i64 p1)), (2, (.int .i64 p2)), (3, (.int .i64 p3)), (4, (.int .i64 p4)), (5, (.pointer (some ⟨g1, 0, none⟩))), (17, (.pointer (some ⟨g3378, 0, none⟩))), (18, (.int .i64 t3371.2)), (19, (.pointer (some ⟨g3847, 0, none⟩))), (20, (.int .i64 t3840.2)), (21, (.pointer (some ⟨g3853, 0, none⟩))), (128, (.bool (decide (p4 < 1))))] [] (fun fb => by kernel_rfl) rfl trivial ?_
    exact WL.toV K (decide (p4 < 1)) [128, 1, 2, 3, 4, 5, 17, 18, 19, 20, 21] rfl (by first | (rw [h5172]; done) | (rw [h5172]; rfl))
  rintro b5173 rfl
  refine seg 15 [] [1, 2, 3, 4, 5, 17, 18, 19, 20, 21, 129] [(1, (.int .i64 p1)), (2, (.int .i64 p2)), (3, (.int .i64 p3)), (4, (.int .i64 p4)), (5, (.pointer (some ⟨g1, 0, none⟩))), (17, (.pointer (some ⟨g3378, 0, none⟩))), (18, (.int .i64 t3371.2)), (19, (.pointer (some ⟨g3847, 0, none⟩))), (20, (.int .i64 t3840.2)), (21, (.pointer (some ⟨g3853, 0, none⟩))), (129, (.bool ((((decide (p1 < 0)) || (decide (p2 < 0))) || (decide (p3 < 1))) || (decide (p4 < 1)))))] [] (fun fb => by kernel_rfl) rfl trivial ?_
  refine WL.cutV (T := Bool) 20 (fun t => [(134, (.bool t)), (1, (.int .i64 p1)), (2, (.int .i64 p2)), (3, (.int .i64 p3)), (4, (.int .i64 p4)), (5, (.pointer (some ⟨g1, 0, none⟩))), (17, (.pointer (some ⟨g3378, 0, none⟩))), (18, (.int .i64 t3371.2)), (19, (.pointer (some ⟨g3847, 0, none⟩))), (20, (.int .i64 t3840.2)), (21, (.pointer (some ⟨g3853, 0, none⟩)))]) (fun t => t = (((((decide (p1 < 0)) || (decide (p2 < 0))) || (decide (p3 < 1))) || (decide (p4 < 1))) || (decide (p3 > p0.Width)))) (fun K => ?_) ?_
  ·
    rcases Bool.eq_false_or_eq_true ((((decide (p1 < 0)) || (decide (p2 < 0))) || (decide (p3 < 1))) || (decide (p4 < 1))) with h5174 | h5174
    ·
      refine WL.setB 129 h5174 rfl ?_
      refine seg 20 [] [1, 2, 3, 4, 5, 17, 18, 19, 20, 21, 134] [(1, (.int .i64 p1)), (2, (.int .i64 p2)), (3, (.int .i64 p3)), (4, (.int .i64 p4)), (5, (.pointer (some ⟨g1, 0, none⟩))), (17, (.pointer (some ⟨g3378, 0, none⟩))), (18, (.int .i64 t3371.2)), (19, (.pointer (some ⟨g3847, 0, none⟩))), (20, (.int .i64 t3840.2)), (21, (.pointer (some ⟨g3853, 0, none⟩))), (134, (.bool true))] [] (fun fb => by kernel_rfl) rfl trivial ?_
      exact WL.toV K true [134, 1, 2, 3, 4, 5, 17, 18, 19, 20, 21] rfl (by first | (rw [h5174]; done) | (rw [h5174]; rfl))
    refine WL.setB 129 h5174 rfl ?_
    refine seg 20 [.v (.int .i64 p0.Width)] [1, 2, 3, 4, 5, 17, 18, 19, 20, 21, 134] [(1, (.int .i64 p1)), (2, (.int .i64 p2)), (3, (.int .i64 p3)), (4, (.int .i64 p4)), (5, (.pointer (some ⟨g1, 0, none⟩))), (17, (.pointer (some ⟨g3378, 0, none⟩))), (18, (.int .i64 t3371.2)), (19, (.pointer (some ⟨g3847, 0, none⟩))), (20, (.int .i64 t3840.2)), (21, (.pointer (some ⟨g3853, 0, none⟩))), (134, (.bool (decide (p3 > p0.Width))))] [.cell ⟨g1, 0, none⟩ (.int .i64 p0.Width)] (fun fb => by kernel_rfl) rfl ⟨hS5165.cell 0 rfl 0 rfl, trivial⟩ ?_
    exact WL.toV K (decide (p3 > p0.Width)) [134, 1, 2, 3, 4, 5, 17, 18, 19, 20, 21] rfl (by first | (rw [h5174]; done) | (rw [h5174]; rfl))
  rintro b5175 rfl
  refine seg 21 [] [1, 2, 3, 4, 5, 17, 18, 19, 20, 21, 135] [(1, (.int .i64 p1)), (2, (.int .i64 p2)), (3, (.int .i64 p3)), (4, (.int .i64 p4)), (5, (.pointer (some ⟨g1, 0, none⟩))), (17, (.pointer (some ⟨g3378, 0, none⟩))), (18, (.int .i64 t3371.2)), (19, (.pointer (some ⟨g3847, 0, none⟩))), (20, (.int .i64 t3840.2)), (21, (.pointer (some ⟨g3853, 0, none⟩))), (135, (.bool (((((decide (p1 < 0)) || (decide (p2 < 0))) || (decide (p3 < 1))) || (decide (p4 < 1))) || (decide (p3 > p0.Width)))))] [] (fun fb => by kernel_rfl) rfl trivial ?_
  refine WL.cutV (T := Bool) 26 (fun t => [(140, (.bool t)), (1, (.int .i64 p1)), (2, (.int .i64 p2)), (3, (.int .i64 p3)), (4, (.int .i64 p4)), (5, (.pointer (some ⟨g1, 0, none⟩))), (17, (.pointer (some ⟨g3378, 0, none⟩))), (18, (.int .i64 t3371.2)), (19, (.pointer (some ⟨g3847, 0, none⟩))), (20, (.int .i64 t3840.2)), (21, (.pointer (some ⟨g3853, 0, none⟩)))]) (fun t => t = ((((((decide (p1 < 0)) || (decide (p2 < 0))) || (decide (p3 < 1))) || (decide (p4 < 1))) || (decide (p3 > p0.Width))) || (decide (p4 > p0.Height)))) (fun K => ?_) ?_
  ·
    rcases Bool.eq_false_or_eq_true (((((decide (p1 < 0)) || (decide (p2 < 0))) || (decide (p3 < 1))) || (decide (p4 < 1))) || (decide (p3 > p0.Width))) with h5176 | h5176
    ·
      refine WL.setB 135 h5176 rfl ?_
      refine seg 26 [] [1, 2, 3, 4, 5, 17, 18, 19, 20, 21, 140] [(1, (.int .i64 p1)), (2, (.int .i64 p2)), (3, (.int .i64 p3)), (4, (.int .i64 p4)), (5, (.pointer (some ⟨g1, 0, none⟩))), (17, (.pointer (some ⟨g3378, 0, none⟩))), (18, (.int .i64 t3371.2)), (19, (.pointer (some ⟨g3847, 0, none⟩))), (20, (.int .i64 t3840.2)), (21, (.pointer (some ⟨g3853, 0, none⟩))), (140, (.bool true))] [] (fun fb => by kernel_rfl) rfl trivial ?_
      exact WL.toV K true [140, 1, 2, 3, 4, 5, 17, 18, 19, 20, 21] rfl (by first | (rw [h5176]; done) | (rw [h5176]; rfl))
    refine WL.setB 135 h5176 rfl ?_
    refine seg 26 [.v (.int .i64 p0.Height)] [1, 2, 3, 4, 5, 17, 18, 19, 20, 21, 140] [(1, (.int .i64 p1)), (2, (.int .i64 p2)), (3, (.int .i64 p3)), (4, (.int .i64 p4)), (5, (.pointer (some ⟨g1, 0, none⟩))), (17, (.pointer (some ⟨g3378, 0, none⟩))), (18, (.int .i64 t3371.2)), (19, (.pointer (some ⟨g3847, 0, none⟩))), (20, (.int .i64 t3840.2)), (21, (.pointer (some ⟨g3853, 0, none⟩))), (140, (.bool (decide (p4 > p0.Height))))] [.cell ⟨g1, 1, none⟩ (.int .i64 p0.Height)] (fun fb => by kernel_rfl) rfl ⟨hS5165.cell 0 rfl 1 rfl, trivial⟩ ?_
    exact WL.toV K (decide (p4 > p0.Height)) [140, 1, 2, 3, 4, 5, 17, 18, 19, 20, 21] rfl (by first | (rw [h5176]; done) | (rw [h5176]; rfl))
  rintro b5177 rfl
  refine seg 27 [] [1, 2, 3, 4, 5, 17, 18, 19, 20, 21, 141] [(1, (.int .i64 p1)), (2, (.int .i64 p2)), (3, (.int .i64 p3)), (4, (.int .i64 p4)), (5, (.pointer (some ⟨g1, 0, none⟩))), (17, (.pointer (some ⟨g3378, 0, none⟩))), (18, (.int .i64 t3371.2)), (19, (.pointer (some ⟨g3847, 0, none⟩))), (20, (.int .i64 t3840.2)), (21, (.pointer (some ⟨g3853, 0, none⟩))), (141, (.bool ((((((decide (p1 < 0)) || (decide (p2 < 0))) || (decide (p3 < 1))) || (decide (p4 < 1))) || (decide (p3 > p0.Width))) || (decide (p4 > p0.Height)))))] [] (fun fb => by kernel_rfl) rfl trivial ?_
  refine WL.cutV (T := Bool) 34 (fun t => [(148, (.bool t)), (1, (.int .i64 p1)), (2, (.int .i64 p2)), (3, (.int .i64 p3)), (4, (.int .i64 p4)), (5, (.pointer (some ⟨g1, 0, none⟩))), (17, (.pointer (some ⟨g3378, 0, none⟩))), (18, (.int .i64 t3371.2)), (19, (.pointer (some ⟨g3847, 0, none⟩))), (20, (.int .i64 t3840.2)), (21, (.pointer (some ⟨g3853, 0, none⟩)))]) (fun t => t = (((((((decide (p1 < 0)) || (decide (p2 < 0))) || (decide (p3 < 1))) || (decide (p4 < 1))) || (decide (p3 > p0.Width))) || (decide (p4 > p0.Height))) || (decide (p1 > w64 (p0.Width - p3))))) (fun K => ?_) ?_
  ·
    rcases Bool.eq_false_or_eq_true ((((((decide (p1 < 0)) || (decide (p2 < 0))) || (decide (p3 < 1))) || (decide (p4 < 1))) || (decide (p3 > p0.Width))) || (decide (p4 > p0.Height))) with h5178 | h5178
    ·
      refine WL.setB 141 h5178 rfl ?_
      refine seg 34 [] [1, 2, 3, 4, 5, 17, 18, 19, 20, 21, 148] [(1, (.int .i64 p1)), (2, (.int .i64 p2)), (3, (.int .i64 p3)), (4, (.int .i64 p4)), (5, (.pointer (some ⟨g1, 0, none⟩))), (17, (.pointer (some ⟨g3378, 0, none⟩))), (18, (.int .i64 t3371.2)), (19, (.pointer (some ⟨g3847, 0, none⟩))), (20, (.int .i64 t3840.2)), (21, (.pointer (some ⟨g3853, 0, none⟩))), (148, (.bool true))] [] (fun fb => by kernel_rfl) rfl trivial ?_
      exact WL.toV K true [148, 1, 2, 3, 4, 5, 17, 18, 19, 20, 21] rfl (by first | (rw [h5178]; done) | (rw [h5178]; rfl))
    refine WL.setB 141 h5178 rfl ?_
    refine seg 34 [.v (.int .i64 p0.Width)] [1, 2, 3, 4, 5, 17, 18, 19, 20, 21, 148] [(1, (.int .i64 p1)), (2, (.int .i64 p2)), (3, (.int .i64 p3)), (4, (.int .i64 p4)), (5, (.pointer (some ⟨g1, 0, none⟩))), (17, (.pointer (some ⟨g3378, 0, none⟩))), (18, (.int .i64 t3371.2)), (19, (.pointer (some ⟨g3847, 0, none⟩))), (20, (.int .i64 t3840.2)), (21, (.pointer (some ⟨g3853, 0, none⟩))), (148, (.bool (decide (p1 > w64 (p0.Width - p3)))))] [.cell ⟨g1, 0, none⟩ (.int .i64 p0.Width)] (fun fb => by kernel_rfl) rfl ⟨hS5165.cell 0 rfl 0 rfl, trivial⟩ ?_
    exact WL.toV K (decide (p1 > w64 (p0.Width - p3))) [148, 1, 2, 3, 4, 5, 17, 18, 19, 20, 21] rfl (by first | (rw [h5178]; done) | (rw [h5178]; rfl))
  rintro b5179 rfl
  refine seg 35 [] [1, 2, 3, 4, 5, 17, 18, 19, 20, 21, 149] [(1, (.int .i64 p1)), (2, (.int .i64 p2)), (3, (.int .i64 p3)), (4, (.int .i64 p4)), (5, (.pointer (some ⟨g1, 0, none⟩))), (17, (.pointer (some ⟨g3378, 0, none⟩))), (18, (.int .i64 t3371.2)), (19, (.pointer (some ⟨g3847, 0, none⟩))), (20, (.int .i64 t3840.2)), (21, (.pointer (some ⟨g3853, 0, none⟩))), (149, (.bool (((((((decide (p1 < 0)) || (decide (p2 < 0))) || (decide (p3 < 1))) || (decide (p4 < 1))) || (decide (p3 > p0.Width))) || (decide (p4 > p0.Height))) || (decide (p1 > w64 (p0.Width - p3))))))] [] (fun fb => by kernel_rfl) rfl trivial ?_
  refine WL.cutV (T := Bool) 42 (fun t => [(156, (.bool t)), (1, (.int .i64 p1)), (2, (.int .i64 p2)), (3, (.int .i64 p3)), (4, (.int .i64 p4)), (5, (.pointer (some ⟨g1, 0, none⟩))), (17, (.pointer (some ⟨g3378, 0, none⟩))), (18, (.int .i64 t3371.2)), (19, (.pointer (some ⟨g3847, 0, none⟩))), (20, (.int .i64 t3840.2)), (21, (.pointer (some ⟨g3853, 0, none⟩)))]) (fun t => t = ((((((((decide (p1 < 0)) || (decide (p2 < 0))) || (decide (p3 < 1))) || (decide (p4 < 1))) || (decide (p3 > p0.Width))) || (decide (p4 > p0.Height))) || (decide (p1 > w64 (p0.Width - p3)))) || (decide (p2 > w64 (p0.Height - p4))))) (fun K => ?_) ?_
  ·
    rcases Bool.eq_false_or_eq_true (((((((decide (p1 < 0)) || (decide (p2 < 0))) || (decide (p3 < 1))) || (decide (p4 < 1))) || (decide (p3 > p0.Width))) || (decide (p4 > p0.Height))) || (decide (p1 > w64 (p0.Width - p3)))) with h5180 | h5180
    ·
      refine WL.setB 149 h5180 rfl ?_
      refine seg 42 [] [1, 2, 3, 4, 5, 17, 18, 19, 20, 21, 156] [(1, (.int .i64 p1)), (2, (.int .i64 p2)), (3, (.int .i64 p3)), (4, (.int .i64 p4)), (5, (.pointer (some ⟨g1, 0, none⟩))), (17, (.pointer (some ⟨g3378, 0, none⟩))), (18, (.int .i64 t3371.2)), (19, (.pointer (some ⟨g3847, 0, none⟩))), (20, (.int .i64 t3840.2)), (21, (.pointer (some ⟨g3853, 0, none⟩))), (156, (.bool true))] [] (fun fb => by kernel_rfl) rfl trivial ?_
      exact WL.toV K true [156, 1, 2, 3, 4, 5, 17, 18, 19, 20, 21] rfl (by first | (rw [h5180]; done) | (rw [h5180]; rfl))
    refine WL.setB 149 h5180 rfl ?_
    refine seg 42 [.v (.int .i64 p0.Height)] [1, 2, 3, 4, 5, 17, 18, 19, 20, 21, 156] [(1, (.int .i64 p1)), (2, (.int .i64 p2)), (3, (.int .i64 p3)), (4, (.int .i64 p4)), (5, (.pointer (some ⟨g1, 0, none⟩))), (17, (.pointer (some ⟨g3378, 0, none⟩))), (18, (.int .i64 t3371.2)), (19, (.pointer (some ⟨g3847, 0, none⟩))), (20, (.int .i64 t3840.2)), (21, (.pointer (some ⟨g3853, 0, none⟩))), (156, (.bool (decide (p2 > w64 (p0.Height - p4)))))] [.cell ⟨g1, 1, none⟩ (.int .i64 p0.Height)] (fun fb => by kernel_rfl) rfl ⟨hS5165.cell 0 rfl 1 rfl, trivial⟩ ?_
    exact WL.toV K (decide (p2 > w64 (p0.Height - p4))) [156, 1, 2, 3, 4, 5, 17, 18, 19, 20, 21] rfl (by first | (rw [h5180]; done) | (rw [h5180]; rfl))
  rintro b5181 rfl
  refine WL.done rfl ?_
  refine WX.next ?_
  obtain ⟨x5658, hx5659, hf⟩ := bind_some hf
  refine WC.cutN (T := Unit) (fun t => [(3, (.int .i64 p3)), (4, (.int .i64 p4)), (5, (.pointer (some ⟨g1, 0, none⟩))), (19, (.pointer (some ⟨g3847, 0, none⟩))), (20, (.int .i64 t3840.2)), (21, (.pointer (some ⟨g3853, 0, none⟩)))]) (fun t w1 => St NoS w w1 [rowR encInt A_p0_Cells c_p0_Cells p0.Cells, cel ⟨2, 0, none⟩ (.int .i64 mG)] [blk g1 (.cells #[(.int .i64 p0.Width), (.int .i64 p0.Height), (.slice A_p0_Cells p0.Cells.length c_p0_Cells)] 35 (0, 0)), blk g3847 (.cells #[(.int .i64 t3840.1.Width), (.int .i64 t3840.1.Height), (.slice A3845 t3840.1.Cells.length c3846)] 35 (0, 0)), rowO 3 encInt A3845 c3846 t3840.1.Cells, blk g3853 (.cells #[(.int .i64 0), (.int .i64 0), (.slice none 0 0)] 35 (0, 0))] ∧ x5658 = .inr t) (fun Kx5658 => ?_) ?_
  ·
    rcases br_some hx5659 with ⟨h5660, hx5659⟩ | ⟨h5660, hx5659⟩
    · refine WC.condT2 (fun fb => by kernel_rfl) h5660 ?_
      refine WC.seq ?_
      refine WC.region ?_
      refine seg 3 [.v (.int .i64 t3371.1.Width), .v (.int .i64 t3371.1.Height), .v (.slice A3376 t3371.1.Cells.length c3377), .v (.int .i64 0), .v (.int .i64 0), .v (.slice none 0 0)] [3, 4, 5, 19, 20, 21, 157, 158, 159] [(3, (.int .i64 p3)), (4, (.int .i64 p4)), (5, (.pointer (some ⟨g1, 0, none⟩))), (19, (.pointer (some ⟨g3847, 0, none⟩))), (20, (.int .i64 t3840.2)), (21, (.pointer (some ⟨g3853, 0, none⟩))), (157, (.agg #[(.int .i64 t3371.1.Width), (.int .i64 t3371.1.Height), (.slice A3376 t3371.1.Cells.length c3377)])), (158, (.int .i64 t3371.2)), (159, (.agg #[(.int .i64 0), (.int .i64 0), (.slice none 0 0)]))] [.cell ⟨g3378, 0, none⟩ (.int .i64 t3371.1.Width), .cell ⟨g3378, 1, none⟩ (.int .i64 t3371.1.Height), .cell ⟨g3378, 2, none⟩ (.slice A3376 t3371.1.Cells.length c3377), .cell ⟨g3853, 0, none⟩ (.int .i64 0), .cell ⟨g3853, 1, none⟩ (.int .i64 0), .cell ⟨g3853, 2, none⟩ (.slice none 0 0)] (fun fb => by kernel_rfl) rfl ⟨hS5165.cell 1 rfl 0 rfl, hS5165.cell 1 rfl 1 rfl, hS5165.cell 1 rfl 2 rfl, hS5165.cell 5 rfl 0 rfl, hS5165.cell 5 rfl 1 rfl, hS5165.cell 5 rfl 2 rfl, trivial⟩ ?_
      obtain ⟨t5661, ht5662, hx5659⟩ := bind_some hx5659
      refine WL.call (some 160) 34 #[(.agg #[(.int .i64 t3371.1.Width), (.int .i64 t3371.1.Height), (.slice A3376 t3371.1.Cells.length c3377)]), (.int .i64 t3371.2), (.agg #[(.int .i64 0), (.int .i64 0), (.slice none 0 0)]), (.int .i64 2)] (fun fb => by kernel_rfl) (law01_is_calls _ t3371.1 t3371.2 (Pattern.mk 0 0 ([] : List Int)) 2 A3376 c3377 none 0 t5661 _ (hS5165.ow 2).ofO (RO.nilR _ _ _) ht5662) (fun v w5663 hR5664 => ?_)
      obtain ⟨rfl, hk_⟩ := hR5664
      have hS5665 := hS5165.keepN hk_
      refine ⟨trivial, ?_⟩
      refine seg 5 [] [3, 4, 5, 19, 20, 21, 161] [(3, (.int .i64 p3)), (4, (.int .i64 p4)), (5, (.pointer (some ⟨g1, 0, none⟩))), (19, (.pointer (some ⟨g3847, 0, none⟩))), (20, (.int .i64 t3840.2)), (21, (.pointer (some ⟨g3853, 0, none⟩))), (161, (.bool (!t5661)))] [] (fun fb => by kernel_rfl) rfl trivial ?_
      refine WL.done rfl ?_
      refine WX.next ?_
      rcases br_some hx5659 with ⟨h5666, hx5659⟩ | ⟨h5666, hx5659⟩
      · refine WC.condT2 (fun fb => by kernel_rfl) h5666 ?_
        refine WC.seq ?_
        refine WC.region ?_
        refine seg 1 [] [10] [(10, (.bool false))] [] (fun fb => by kernel_rfl) rfl trivial ?_
        refine WL.done rfl ?_
        refine WX.next ?_
        refine WC.ret ?_
        injection hx5659 with hx5659
        subst hx5659
        injection hf with hf
        subst hf
        exact WX.thenR (WX.ret_ [] (.bool false) [] (fun fb => by kernel_rfl) trivial ⟨_, rfl, rfl, hS5665.keep⟩)
      refine WC.condF2 (fun fb => by kernel_rfl) h5666 ?_
      refine WC.skip ?_
      injection hx5659 with hx5659
      exact WX.to Kx5658 () [3, 4, 5, 19, 20, 21] rfl ⟨(hS5665.subR [0, 1]).sub [0, 3, 4, 5] (by decide), hx5659.symm⟩
    refine WC.condF2 (fun fb => by kernel_rfl) h5660 ?_
    refine WC.seq ?_
    refine WC.regionD ([(0, ⟨g3378, 0, none⟩, (.int .i64 t3371.1.Width)), (0, ⟨g3378, 1, none⟩, (.int .i64 t3371.1.Height)), (0, ⟨g3378, 2, none⟩, (.slice A3376 t3371.1.Cells.length c3377)), (2, ⟨g1, 0, none⟩, (.int .i64 p0.Width)), (2, ⟨g1, 1, none⟩, (.int .i64 p0.Height)), (2, ⟨g1, 2, none⟩, (.slice A_p0_Cells p0.Cells.length c_p0_Cells))], [0, 1, 2, 3, 4, 5, 6, 9], [[], [], [], [], [], [], [], [2, 3, 4, 5, 6], [0, 1, 2, 3, 4, 5, 6, 7], [0, 1, 2, 3, 4, 5, 6, 7, 8]]) [[0, 1, 2, 3, 4, 5, 6, 7, 8, 9]] (by kernel_rfl) (by kernel_rfl) (NoPanic.seq (NoPanic.seq (NoPanic.body))) ?_
    have hS5680 := hS5165.drew
    revert hS5680
    generalize World.drew w5164 = w5679
    intro hS5680
    refine ⟨⟨hS5680.cell 1 rfl 0 rfl, hS5680.cell 1 rfl 1 rfl, hS5680.cell 1 rfl 2 rfl, hS5680.cell 0 rfl 0 rfl, hS5680.cell 0 rfl 1 rfl, hS5680.cell 0 rfl 2 rfl, trivial⟩, forallC ?_ (forallN)⟩
    refine segF 7 [.v (.int .i64 t3371.1.Width), .v (.int .i64 t3371.1.Height), .v (.slice A3376 t3371.1.Cells.length c3377), .v (.int .i64 p0.Width), .v (.int .i64 p0.Height), .v (.slice A_p0_Cells p0.Cells.length c_p0_Cells)] [3, 4, 5, 19, 20, 21, 162, 163, 164, 165, 166, 167, 168] [(3, (.int .i64 p3)), (4, (.int .i64 p4)), (5, (.pointer (some ⟨g1, 0, none⟩))), (19, (.pointer (some ⟨g3847, 0, none⟩))), (20, (.int .i64 t3840.2)), (21, (.pointer (some ⟨g3853, 0, none⟩))), (162, (.agg #[(.int .i64 t3371.1.Width), (.int .i64 t3371.1.Height), (.slice A3376 t3371.1.Cells.length c3377)])), (163, (.int .i64 t3371.2)), (164, (.agg #[(.int .i64 p0.Width), (.int .i64 p0.Height), (.slice A_p0_Cells p0.Cells.length c_p0_Cells)])), (165, (.int .i64 p1)), (166, (.int .i64 p2)), (167, (.int .i64 p3)), (168, (.int .i64 p4))] [] [0, 1, 2, 3, 4, 5] [(0, ⟨g3378, 0, none⟩, (.int .i64 t3371.1.Width)), (0, ⟨g3378, 1, none⟩, (.int .i64 t3371.1.Height)), (0, ⟨g3378, 2, none⟩, (.slice A3376 t3371.1.Cells.length c3377)), (2, ⟨g1, 0, none⟩, (.int .i64 p0.Width)), (2, ⟨g1, 1, none⟩, (.int .i64 p0.Height)), (2, ⟨g1, 2, none⟩, (.slice A_p0_Cells p0.Cells.length c_p0_Cells))] (fun fb => by kernel_rfl) rfl trivial rfl ?_
    obtain ⟨t5681, ht5682, hx5659⟩ := bind_some hx5659
    refine WL.call (some 169) 38 #[(.agg #[(.int .i64 p0.Width), (.int .i64 p0.Height), (.slice A_p0_Cells p0.Cells.length c_p0_Cells)]), (.int .i64 p1), (.int .i64 p2), (.int .i64 p3), (.int .i64 p4)] (fun fb => by kernel_rfl) (ref01_Cut_calls _ p0 p1 p2 p3 p4 A_p0_Cells c_p0_Cells t5681 _ (hS5680.rd 0) ht5682) (fun v w5683 hR5684 => ?_)
    obtain ⟨A5686, c5687, rfl, hk_⟩ := hR5684
    have hS5685 : St NoS w w5683 [rowR encInt A_p0_Cells c_p0_Cells p0.Cells, cel ⟨2, 0, none⟩ (.int .i64 mG)] [rowO 3 encInt A5686 c5687 t5681.Cells, blk g1 (.cells #[(.int .i64 p0.Width), (.int .i64 p0.Height), (.slice A_p0_Cells p0.Cells.length c_p0_Cells)] 35 (0, 0)), blk g3378 (.cells #[(.int .i64 t3371.1.Width), (.int .i64 t3371.1.Height), (.slice A3376 t3371.1.Cells.length c3377)] 35 (0, 0)), rowO 3 encInt A3376 c3377 t3371.1.Cells, blk g3847 (.cells #[(.int .i64 t3840.1.Width), (.int .i64 t3840.1.Height), (.slice A3845 t3840.1.Cells.length c3846)] 35 (0, 0)), rowO 3 encInt A3845 c3846 t3840.1.Cells, blk g3853 (.cells #[(.int .i64 0), (.int .i64 0), (.slice none 0 0)] 35 (0, 0))] := hS5680.call hk_ [] [0, 1, 2, 3, 4, 5] (fun g hg => hg.elim) (by simp) (by decide)
    refine ⟨⟨hS5685.cell 2 rfl 0 rfl, hS5685.cell 2 rfl 1 rfl, hS5685.cell 2 rfl 2 rfl, trivial⟩, ?_⟩
    obtain ⟨t5688, ht5689, hx5659⟩ := bind_some hx5659
    refine WL.call (some 170) 34 #[(.agg #[(.int .i64 t3371.1.Width), (.int .i64 t3371.1.Height), (.slice A3376 t3371.1.Cells.length c3377)]), (.int .i64 t3371.2), (.agg #[(.int .i64 t5681.Width), (.int .i64 t5681.Height), (.slice A5686 t5681.Cells.length c5687)]), (.int .i64 0)] (fun fb => by kernel_rfl) (law01_is_calls _ t3371.1 t3371.2 t5681 0 A3376 c3377 A5686 c5687 t5688 _ (hS5685.ow 3).ofO (hS5685.ow 0).ofO ht5689) (fun v w5690 hR5691 => ?_)
    obtain ⟨rfl, hk_⟩ := hR5691
    have hS5692 := hS5685.keepN hk_
    refine ⟨trivial, ?_⟩
    refine seg 10 [] [3, 4, 5, 19, 20, 21, 171] [(3, (.int .i64 p3)), (4, (.int .i64 p4)), (5, (.pointer (some ⟨g1, 0, none⟩))), (19, (.pointer (some ⟨g3847, 0, none⟩))), (20, (.int .i64 t3840.2)), (21, (.pointer (some ⟨g3853, 0, none⟩))), (171, (.bool (!t5688)))] [] (fun fb => by kernel_rfl) rfl trivial ?_
    refine WL.done rfl ?_
    refine WX.next ?_
    rcases br_some hx5659 with ⟨h5693, hx5659⟩ | ⟨h5693, hx5659⟩
    · refine WC.condT2 (fun fb => by kernel_rfl) h5693 ?_
      refine WC.seq ?_
      refine WC.region ?_
      refine seg 1 [] [10] [(10, (.bool false))] [] (fun fb => by kernel_rfl) rfl trivial ?_
      refine WL.done rfl ?_
      refine WX.next ?_
      refine WC.ret ?_
      injection hx5659 with hx5659
      subst hx5659
      injection hf with hf
      subst hf
      exact WX.thenR (WX.ret_ [] (.bool false) [] (fun fb => by kernel_rfl) trivial ⟨_, rfl, rfl, hS5692.keep⟩)
    refine WC.condF2 (fun fb => by kernel_rfl) h5693 ?_
    refine WC.skip ?_
    injection hx5659 with hx5659
    exact WX.to Kx5658 () [3, 4, 5, 19, 20, 21] rfl ⟨(hS5692.subR [0, 1]).sub [1, 4, 5, 6] (by decide), hx5659.symm⟩
  rintro y5697 w5694 ⟨hS5695, hq5696⟩
  subst hq5696
  have hf := sum_inr hf
  refine WX.next ?_
  refine WC.seq ?_
  refine WC.block ?_
  refine WC.seq ?_
  refine WC.region ?_
  refine seg 3 [] [3, 4, 5, 19, 20, 21, 175] [(3, (.int .i64 p3)), (4, (.int .i64 p4)), (5, (.pointer (some ⟨g1, 0, none⟩))), (19, (.pointer (some ⟨g3847, 0, none⟩))), (20, (.int .i64 t3840.2)), (21, (.pointer (some ⟨g3853, 0, none⟩))), (175, (.bool (decide (p3 < 1))))] [] (fun fb => by kernel_rfl) rfl trivial ?_
  refine WL.cutV (T := Bool) 6 (fun t => [(178, (.bool t)), (3, (.int .i64 p3)), (4, (.int .i64 p4)), (5, (.pointer (some ⟨g1, 0, none⟩))), (19, (.pointer (some ⟨g3847, 0, none⟩))), (20, (.int .i64 t3840.2)), (21, (.pointer (some ⟨g3853, 0, none⟩)))]) (fun t => t = ((decide (p3 < 1)) || (decide (p4 < 1)))) (fun K => ?_) ?_
  ·
    rcases Bool.eq_false_or_eq_true (decide (p3 < 1)) with h5699 | h5699
    ·
      refine WL.setB 175 h5699 rfl ?_
      refine seg 6 [] [3, 4, 5, 19, 20, 21, 178] [(3, (.int .i64 p3)), (4, (.int .i64 p4)), (5, (.pointer (some ⟨g1, 0, none⟩))), (19, (.pointer (some ⟨g3847, 0, none⟩))), (20, (.int .i64 t3840.2)), (21, (.pointer (some ⟨g3853, 0, none⟩))), (178, (.bool true))] [] (fun fb => by kernel_rfl) rfl trivial ?_
      exact WL.toV K true [178, 3, 4, 5, 19, 20, 21] rfl (by first | (rw [h5699]; done) | (rw [h5699]; rfl))
    refine WL.setB 175 h5699 rfl ?_
    refine seg 6 [] [3, 4, 5, 19, 20, 21, 178] [(3, (.int .i64 p3)), (4, (.int .i64 p4)), (5, (.pointer (some ⟨g1, 0, none⟩))), (19, (.pointer (some ⟨g3847, 0, none⟩))), (20, (.int .i64 t3840.2)), (21, (.pointer (some ⟨g3853, 0, none⟩))), (178, (.bool (decide (p4 < 1))))] [] (fun fb => by kernel_rfl) rfl trivial ?_
    exact WL.toV K (decide (p4 < 1)) [178, 3, 4, 5, 19, 20, 21] rfl (by first | (rw [h5699]; done) | (rw [h5699]; rfl))
  rintro b5700 rfl
  refine seg 7 [] [3, 4, 5, 19, 20, 21, 172] [(3, (.int .i64 p3)), (4, (.int .i64 p4)), (5, (.pointer (some ⟨g1, 0, none⟩))), (19, (.pointer (some ⟨g3847, 0, none⟩))), (20, (.int .i64 t3840.2)), (21, (.pointer (some ⟨g3853, 0, none⟩))), (172, (.bool ((decide (p3 < 1)) || (decide (p4 < 1)))))] [] (fun fb => by kernel_rfl) rfl trivial ?_
  refine WL.done rfl ?_
  refine WX.next ?_
  rcases br_some hf with ⟨h5701, hf⟩ | ⟨h5701, hf⟩
  · refine WC.condT2 (fun fb => by kernel_rfl) h5701 ?_
    refine WC.seq ?_
    refine WC.region ?_
    refine seg 3 [.v (.int .i64 t3840.1.Width), .v (.int .i64 t3840.1.Height), .v (.slice A3845 t3840.1.Cells.length c3846), .v (.int .i64 0), .v (.int .i64 0), .v (.slice none 0 0)] [179, 180, 181] [(179, (.agg #[(.int .i64 t3840.1.Width), (.int .i64 t3840.1.Height), (.slice A3845 t3840.1.Cells.length c3846)])), (180, (.int .i64 t3840.2)), (181, (.agg #[(.int .i64 0), (.int .i64 0), (.slice none 0 0)]))] [.cell ⟨g3847, 0, none⟩ (.int .i64 t3840.1.Width), .cell ⟨g3847, 1, none⟩ (.int .i64 t3840.1.Height), .cell ⟨g3847, 2, none⟩ (.slice A3845 t3840.1.Cells.length c3846), .cell ⟨g3853, 0, none⟩ (.int .i64 0), .cell ⟨g3853, 1, none⟩ (.int .i64 0), .cell ⟨g3853, 2, none⟩ (.slice none 0 0)] (fun fb => by kernel_rfl) rfl ⟨hS5695.cell 1 rfl 0 rfl, hS5695.cell 1 rfl 1 rfl, hS5695.cell 1 rfl 2 rfl, hS5695.cell 3 rfl 0 rfl, hS5695.cell 3 rfl 1 rfl, hS5695.cell 3 rfl 2 rfl, trivial⟩ ?_
    obtain ⟨t5702, ht5703, hf⟩ := bind_some hf
    refine WL.call (some 182) 34 #[(.agg #[(.int .i64 t3840.1.Width), (.int .i64 t3840.1.Height), (.slice A3845 t3840.1.Cells.length c3846)]), (.int .i64 t3840.2), (.agg #[(.int .i64 0), (.int .i64 0), (.slice none 0 0)]), (.int .i64 2)] (fun fb => by kernel_rfl) (law01_is_calls _ t3840.1 t3840.2 (Pattern.mk 0 0 ([] : List Int)) 2 A3845 c3846 none 0 t5702 _ (hS5695.ow 2).ofO (RO.nilR _ _ _) ht5703) (fun v w5704 hR5705 => ?_)
    obtain ⟨rfl, hk_⟩ := hR5705
    have hS5706 := hS5695.keepN hk_
    refine ⟨trivial, ?_⟩
    refine seg 5 [] [183] [(183, (.bool t5702))] [] (fun fb => by kernel_rfl) rfl trivial ?_
    obtain ⟨x5713, hx5714, hf⟩ := bind_some hf
    refine WL.cutW (T := Bool) 7 (fun t => [(185, (.bool t))]) (fun t w1 => (St NoS w w1 [rowR encInt A_p0_Cells c_p0_Cells p0.Cells, cel ⟨2, 0, none⟩ (.int .i64 mG)] [] ∧ x5713 = t) ∧ CellsOK [] w1) (fun K => ?_) ?_
    ·
      rcases br_some hx5714 with ⟨h5715, hx5714⟩ | ⟨h5715, hx5714⟩
      ·
        refine WL.setB 183 h5715 rfl ?_
        obtain ⟨t5716, ht5717, hx5714⟩ := bind_some hx5714
        refine WL.call (some 184) 8 #[] (fun fb => by kernel_rfl) (law01_awake_calls _ mG t5716 _ (hS5706.rd 1) ht5717) (fun v w5718 hR5719 => ?_)
        obtain ⟨rfl, hk_⟩ := hR5719
        have hS5720 := hS5706.keepN hk_
        refine ⟨trivial, ?_⟩
        refine seg 7 [] [185] [(185, (.bool t5716))] [] (fun fb => by kernel_rfl) rfl trivial ?_
        injection hx5714 with hx5714
        exact WL.to K t5716 [185] rfl ⟨⟨(hS5720.subR [0, 1]).sub [] (by decide), hx5714.symm⟩, trivial⟩
      refine WL.setB 183 h5715 rfl ?_
      refine seg 7 [] [185] [(185, (.bool false))] [] (fun fb => by kernel_rfl) rfl trivial ?_
      injection hx5714 with hx5714
      exact WL.to K false [185] rfl ⟨⟨(hS5706.subR [0, 1]).sub [] (by decide), hx5714.symm⟩, trivial⟩
    rintro y5721 w5723 ⟨⟨hS5724, hq5722⟩, hF5725⟩
    subst hq5722
    refine seg 8 [] [10] [(10, (.bool x5713))] [] (fun fb => by kernel_rfl) rfl trivial ?_
    refine WL.done rfl ?_
    refine WX.next ?_
    refine WC.ret ?_
    injection hf with hf
    subst hf
    exact WX.blockR (WX.thenR (WX.ret_ [] (.bool x5713) [] (fun fb => by kernel_rfl) trivial ⟨_, rfl, rfl, hS5724.keep⟩))
  refine WC.condF2 (fun fb => by kernel_rfl) h5701 ?_
  refine WC.seq ?_
  refine WC.region ?_
  refine seg 2 [] [3, 4, 5, 19, 20, 21, 187, 188] [(3, (.int .i64 p3)), (4, (.int .i64 p4)), (5, (.pointer (some ⟨g1, 0, none⟩))), (19, (.pointer (some ⟨g3847, 0, none⟩))), (20, (.int .i64 t3840.2)), (21, (.pointer (some ⟨g3853, 0, none⟩))), (187, (.int .i64 p3)), (188, (.int .i64 p4))] [] (fun fb => by kernel_rfl) rfl trivial ?_
  obtain ⟨h5726, hf⟩ := as_some hf
  refine seg 5 [] [3, 4, 5, 19, 20, 21, 186] [(3, (.int .i64 p3)), (4, (.int .i64 p4)), (5, (.pointer (some ⟨g1, 0, none⟩))), (19, (.pointer (some ⟨g3847, 0, none⟩))), (20, (.int .i64 t3840.2)), (21, (.pointer (some ⟨g3853, 0, none⟩))), (186, (.bool (decide (p3 > w64 (Int.tdiv 40000 p4)))))] [.ne p4] (fun fb => by kernel_rfl) rfl ⟨h5726, trivial⟩ ?_
  refine WL.done rfl ?_
  refine WX.next ?_
  rcases br_some hf with ⟨h5727, hf⟩ | ⟨h5727, hf⟩
  · refine WC.condT2 (fun fb => by kernel_rfl) h5727 ?_
    refine WC.seq ?_
    refine WC.region ?_
    refine seg 3 [.v (.int .i64 t3840.1.Width), .v (.int .i64 t3840.1.Height), .v (.slice A3845 t3840.1.Cells.length c3846), .v (.int .i64 0), .v (.int .i64 0), .v (.slice none 0 0)] [191, 192, 193] [(191, (.agg #[(.int .i64 t3840.1.Width), (.int .i64 t3840.1.Height), (.slice A3845 t3840.1.Cells.length c3846)])), (192, (.int .i64 t3840.2)), (193, (.agg #[(.int .i64 0), (.int .i64 0), (.slice none 0 0)]))] [.cell ⟨g3847, 0, none⟩ (.int .i64 t3840.1.Width), .cell ⟨g3847, 1, none⟩ (.int .i64 t3840.1.Height), .cell ⟨g3847, 2, none⟩ (.slice A3845 t3840.1.Cells.length c3846), .cell ⟨g3853, 0, none⟩ (.int .i64 0), .cell ⟨g3853, 1, none⟩ (.int .i64 0), .cell ⟨g3853, 2, none⟩ (.slice none 0 0)] (fun fb => by kernel_rfl) rfl ⟨hS5695.cell 1 rfl 0 rfl, hS5695.cell 1 rfl 1 rfl, hS5695.cell 1 rfl 2 rfl, hS5695.cell 3 rfl 0 rfl, hS5695.cell 3 rfl 1 rfl, hS5695.cell 3 rfl 2 rfl, trivial⟩ ?_
    obtain ⟨t5728, ht5729, hf⟩ := bind_some hf
    refine WL.call (some 194) 34 #[(.agg #[(.int .i64 t3840.1.Width), (.int .i64 t3840.1.Height), (.slice A3845 t3840.1.Cells.length c3846)]), (.int .i64 t3840.2), (.agg #[(.int .i64 0), (.int .i64 0), (.slice none 0 0)]), (.int .i64 4)] (fun fb => by kernel_rfl) (law01_is_calls _ t3840.1 t3840.2 (Pattern.mk 0 0 ([] : List Int)) 4 A3845 c3846 none 0 t5728 _ (hS5695.ow 2).ofO (RO.nilR _ _ _) ht5729) (fun v w5730 hR5731 => ?_)
    obtain ⟨rfl, hk_⟩ := hR5731
    have hS5732 := hS5695.keepN hk_
    refine ⟨trivial, ?_⟩
    refine seg 5 [] [195] [(195, (.bool t5728))] [] (fun fb => by kernel_rfl) rfl trivial ?_
    obtain ⟨x5739, hx5740, hf⟩ := bind_some hf
    refine WL.cutW (T := Bool) 7 (fun t => [(197, (.bool t))]) (fun t w1 => (St NoS w w1 [rowR encInt A_p0_Cells c_p0_Cells p0.Cells, cel ⟨2, 0, none⟩ (.int .i64 mG)] [] ∧ x5739 = t) ∧ CellsOK [] w1) (fun K => ?_) ?_
    ·
      rcases br_some hx5740 with ⟨h5741, hx5740⟩ | ⟨h5741, hx5740⟩
      ·
        refine WL.setB 195 h5741 rfl ?_
        obtain ⟨t5742, ht5743, hx5740⟩ := bind_some hx5740
        refine WL.call (some 196) 8 #[] (fun fb => by kernel_rfl) (law01_awake_calls _ mG t5742 _ (hS5732.rd 1) ht5743) (fun v w5744 hR5745 => ?_)
        obtain ⟨rfl, hk_⟩ := hR5745
        have hS5746 := hS5732.keepN hk_
        refine ⟨trivial, ?_⟩
        refine seg 7 [] [197] [(197, (.bool t5742))] [] (fun fb => by kernel_rfl) rfl trivial ?_
        injection hx5740 with hx5740
        exact WL.to K t5742 [197] rfl ⟨⟨(hS5746.subR [0, 1]).sub [] (by decide), hx5740.symm⟩, trivial⟩
      refine WL.setB 195 h5741 rfl ?_
      refine seg 7 [] [197] [(197, (.bool false))] [] (fun fb => by kernel_rfl) rfl trivial ?_
      injection hx5740 with hx5740
      exact WL.to K false [197] rfl ⟨⟨(hS5732.subR [0, 1]).sub [] (by decide), hx5740.symm⟩, trivial⟩
    rintro y5747 w5749 ⟨⟨hS5750, hq5748⟩, hF5751⟩
    subst hq5748
    refine seg 8 [] [10] [(10, (.bool x5739))] [] (fun fb => by kernel_rfl) rfl trivial ?_
    refine WL.done rfl ?_
    refine WX.next ?_
    refine WC.ret ?_
    injection hf with hf
    subst hf
    exact WX.blockR (WX.thenR (WX.ret_ [] (.bool x5739) [] (fun fb => by kernel_rfl) trivial ⟨_, rfl, rfl, hS5750.keep⟩))
  refine WC.condF2 (fun fb => by kernel_rfl) h5727 ?_
  refine WC.skip ?_
  refine WX.blockN (WX.next ?_)
  refine WC.seq ?_
  refine WC.regionD ([(0, ⟨g3847, 0, none⟩, (.int .i64 t3840.1.Width)), (0, ⟨g3847, 1, none⟩, (.int .i64 t3840.1.Height)), (0, ⟨g3847, 2, none⟩, (.slice A3845 t3840.1.Cells.length c3846)), (2, ⟨g1, 0, none⟩, (.int .i64 p0.Width)), (2, ⟨g1, 1, none⟩, (.int .i64 p0.Height)), (2, ⟨g1, 2, none⟩, (.slice A_p0_Cells p0.Cells.length c_p0_Cells))], [0, 1, 2, 3, 4, 7, 9, 10], [[], [], [], [], [], [2, 3, 4], [0, 1, 2, 3, 4, 5], [0, 1, 2, 3, 4, 5, 6], [0, 1, 2, 3, 4, 5, 6, 7], [0, 1, 2, 3, 4, 5, 6, 7, 8], [0, 1, 2, 3, 4, 5, 6, 7, 8, 9]]) [[0, 1, 2, 3, 4, 5, 6, 7, 8, 9, 10]] (by kernel_rfl) (by kernel_rfl) (NoPanic.seq (NoPanic.body)) ?_
  have hS6280 := hS5695.drew
  revert hS6280
  generalize World.drew w5694 = w6279
  intro hS6280
  refine ⟨⟨hS6280.cell 1 rfl 0 rfl, hS6280.cell 1 rfl 1 rfl, hS6280.cell 1 rfl 2 rfl, hS6280.cell 0 rfl 0 rfl, hS6280.cell 0 rfl 1 rfl, hS6280.cell 0 rfl 2 rfl, trivial⟩, forallC ?_ (forallN)⟩
  refine segF 5 [.v (.int .i64 t3840.1.Width), .v (.int .i64 t3840.1.Height), .v (.slice A3845 t3840.1.Cells.length c3846), .v (.int .i64 p0.Width), .v (.int .i64 p0.Height), .v (.slice A_p0_Cells p0.Cells.length c_p0_Cells)] [198, 199, 200, 201, 202] [(198, (.agg #[(.int .i64 t3840.1.Width), (.int .i64 t3840.1.Height), (.slice A3845 t3840.1.Cells.length c3846)])), (199, (.int .i64 t3840.2)), (200, (.agg #[(.int .i64 p0.Width), (.int .i64 p0.Height), (.slice A_p0_Cells p0.Cells.length c_p0_Cells)])), (201, (.int .i64 p3)), (202, (.int .i64 p4))] [] [0, 1, 2, 3, 4, 5] [(0, ⟨g3847, 0, none⟩, (.int .i64 t3840.1.Width)), (0, ⟨g3847, 1, none⟩, (.int .i64 t3840.1.Height)), (0, ⟨g3847, 2, none⟩, (.slice A3845 t3840.1.Cells.length c3846)), (2, ⟨g1, 0, none⟩, (.int .i64 p0.Width)), (2, ⟨g1, 1, none⟩, (.int .i64 p0.Height)), (2, ⟨g1, 2, none⟩, (.slice A_p0_Cells p0.Cells.length c_p0_Cells))] (fun fb => by kernel_rfl) rfl trivial rfl ?_
  obtain ⟨t6281, ht6282, hf⟩ := bind_some hf
  refine WL.call (some 203) 39 #[(.agg #[(.int .i64 p0.Width), (.int .i64 p0.Height), (.slice A_p0_Cells p0.Cells.length c_p0_Cells)]), (.int .i64 p3), (.int .i64 p4)] (fun fb => by kernel_rfl) (ref01_Repeat_calls _ p0 p3 p4 A_p0_Cells c_p0_Cells t6281 _ (hS6280.rd 0) ht6282) (fun v w6283 hR6284 => ?_)
  obtain ⟨A6286, c6287, rfl, hk_⟩ := hR6284
  have hS6285 : St NoS w w6283 [rowR encInt A_p0_Cells c_p0_Cells p0.Cells, cel ⟨2, 0, none⟩ (.int .i64 mG)] [rowO 3 encInt A6286 c6287 t6281.Cells, blk g1 (.cells #[(.int .i64 p0.Width), (.int .i64 p0.Height), (.slice A_p0_Cells p0.Cells.length c_p0_Cells)] 35 (0, 0)), blk g3847 (.cells #[(.int .i64 t3840.1.Width), (.int .i64 t3840.1.Height), (.slice A3845 t3840.1.Cells.length c3846)] 35 (0, 0)), rowO 3 encInt A3845 c3846 t3840.1.Cells, blk g3853 (.cells #[(.int .i64 0), (.int .i64 0), (.slice none 0 0)] 35 (0, 0))] := hS6280.call hk_ [] [0, 1, 2, 3] (fun g hg => hg.elim) (by simp) (by decide)
  refine ⟨⟨hS6285.cell 2 rfl 0 rfl, hS6285.cell 2 rfl 1 rfl, hS6285.cell 2 rfl 2 rfl, trivial⟩, ?_⟩
  obtain ⟨t6288, ht6289, hf⟩ := bind_some hf
  refine WL.call (some 204) 34 #[(.agg #[(.int .i64 t3840.1.Width), (.int .i64 t3840.1.Height), (.slice A3845 t3840.1.Cells.length c3846)]), (.int .i64 t3840.2), (.agg #[(.int .i64 t6281.Width), (.int .i64 t6281.Height), (.slice A6286 t6281.Cells.length c6287)]), (.int .i64 0)] (fun fb => by kernel_rfl) (law01_is_calls _ t3840.1 t3840.2 t6281 0 A3845 c3846 A6286 c6287 t6288 _ (hS6285.ow 3).ofO (hS6285.ow 0).ofO ht6289) (fun v w6290 hR6291 => ?_)
  obtain ⟨rfl, hk_⟩ := hR6291
  have hS6292 := hS6285.keepN hk_
  refine ⟨trivial, ?_⟩
  refine seg 8 [] [205] [(205, (.bool t6288))] [] (fun fb => by kernel_rfl) rfl trivial ?_
  obtain ⟨x6299, hx6300, hf⟩ := bind_some hf
  refine WL.cutW (T := Bool) 10 (fun t => [(207, (.bool t))]) (fun t w1 => (St NoS w w1 [rowR encInt A_p0_Cells c_p0_Cells p0.Cells, cel ⟨2, 0, none⟩ (.int .i64 mG)] [] ∧ x6299 = t) ∧ CellsOK [] w1) (fun K => ?_) ?_
  ·
    rcases br_some hx6300 with ⟨h6301, hx6300⟩ | ⟨h6301, hx6300⟩
    ·
      refine WL.setB 205 h6301 rfl ?_
      obtain ⟨t6302, ht6303, hx6300⟩ := bind_some hx6300
      refine WL.call (some 206) 8 #[] (fun fb => by kernel_rfl) (law01_awake_calls _ mG t6302 _ (hS6292.rd 1) ht6303) (fun v w6304 hR6305 => ?_)
      obtain ⟨rfl, hk_⟩ := hR6305
      have hS6306 := hS6292.keepN hk_
      refine ⟨trivial, ?_⟩
      refine seg 10 [] [207] [(207, (.bool t6302))] [] (fun fb => by kernel_rfl) rfl trivial ?_
      injection hx6300 with hx6300
      exact WL.to K t6302 [207] rfl ⟨⟨(hS6306.subR [0, 1]).sub [] (by decide), hx6300.symm⟩, trivial⟩
    refine WL.setB 205 h6301 rfl ?_
    refine seg 10 [] [207] [(207, (.bool false))] [] (fun fb => by kernel_rfl) rfl trivial ?_
    injection hx6300 with hx6300
    exact WL.to K false [207] rfl ⟨⟨(hS6292.subR [0, 1]).sub [] (by decide), hx6300.symm⟩, trivial⟩
  rintro y6307 w6309 ⟨⟨hS6310, hq6308⟩, hF6311⟩
  subst hq6308
  refine seg 11 [] [10] [(10, (.bool x6299))] [] (fun fb => by kernel_rfl) rfl trivial ?_
  refine WL.done rfl ?_
  refine WX.next ?_
  refine WC.ret ?_
  injection hf with hf
  subst hf
  exact WX.ret_ [] (.bool x6299) [] (fun fb => by kernel_rfl) trivial ⟨_, rfl, rfl, hS6310.keep⟩
end Gp
